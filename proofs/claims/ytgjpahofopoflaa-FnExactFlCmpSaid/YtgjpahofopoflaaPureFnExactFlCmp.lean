/- The pure statement of the law FnExactFlCmp: at every input that its guards let in the program's answer is the reference's. -/
import Derived.Test.YtgjpahofopoflaaPFnExactFlCmpx14
import Derived.Test.YtgjpahofopoflaaVFnExactFlCmpb
import Derived.WalkKit
namespace Go.Proofs.Ytgjpahofopoflaa.Pure
open Go.RowKit Go.Proofs.Ytgjpahofopoflaa.PFnExactFlCmp Go.Proofs.YtgjpahofopoflaaW.PrintWords Go.Proofs.YtgjpahofopoflaaW.PrintLast Go.Proofs.Ytgjpahofopoflaa.Lib
set_option linter.unusedVariables false
set_option linter.unusedSimpArgs false

/-! #### l2norm -/
theorem ev_spec_l2norm (l : List Int) (hb : l.length ≤ 1000000000) : Ev (fun k => spec_l2norm.f k l) (strip l) := by
  unfold spec_l2norm.f
  have key : ∀ n : Nat, n ≤ l.length → strip (l.take n) = strip l → Ev (fun k => spec_l2norm.l0 k l (n : Int)) (strip l) := by
    intro n
    induction n with
    | zero =>
      intro _ hs
      refine Ev.step (f := fun _ => some (strip l)) (fun k => ?_) (Ev.now _)
      simp only [spec_l2norm.l0, Option.bind_some]
      rw [if_neg (by omega), if_pos (by omega), if_pos (by omega), if_pos (by simp)]
      simpa [strip] using hs
    | succ n ih =>
      intro hn hs
      by_cases h0 : l[n] = 0
      · refine Ev.step (f := fun k => spec_l2norm.l0 k l (n : Int)) (fun k => ?_) (ih (by omega) ?_)
        · simp only [spec_l2norm.l0]
          rw [show ((n + 1 : Nat) : Int) - 1 = (n : Int) by omega, w64 (x := (n : Int)) (by omega) (by omega), if_pos (by omega), if_pos (by omega), if_pos (by omega), rd_get _ _ (by omega), if_pos h0]
        · rw [← hs, strip_take_zero (by omega) h0]
      · refine Ev.step (f := fun _ => some (strip l)) (fun k => ?_) (Ev.now _)
        simp only [spec_l2norm.l0, Option.bind_some]
        rw [show ((n + 1 : Nat) : Int) - 1 = (n : Int) by omega, w64 (x := (n : Int)) (by omega) (by omega), if_pos (by omega), if_pos (by omega), if_pos (by omega), rd_get _ _ (by omega), if_neg h0, if_pos (by omega), if_pos (by omega), if_pos (by simp; omega)]
        rw [← hs, strip_take_ne (by omega) h0]
        simp
  have := key l.length (Nat.le_refl _) (by simp)
  exact this

/-! #### l2mul -/
theorem mul_step (S P y t c p V : Int) (h : S + c * P = V) (ht : t = y + p + c) : S + (t % 65536 - y) * P + (t / 65536) * (65536 * P) = V + p * P := by
  have e := Int.mul_ediv_add_emod t 65536
  generalize t / 65536 = q at *
  generalize t % 65536 = r at *
  grind
theorem val_set (l : List Int) (i : Nat) (x : Int) (h : i < l.length) : val (l.set i x) = val l + (x - rd l (i : Int)) * pw i := by
  have h1 := val_take_drop (l.set i x) i (by simp; omega)
  have h2 := val_take_drop l i (by omega)
  rw [val_set_drop l i x h, List.take_set_of_le (by omega)] at h1
  rw [val_drop_at h] at h2
  rw [h1, h2]
  grind
theorem rd_set (l : List Int) (i j : Nat) (x : Int) (h : i < l.length) : rd (l.set i x) (j : Int) = if i = j then x else rd l (j : Int) := by
  rw [rd_nat, rd_nat, List.getD_eq_getElem?_getD, List.getD_eq_getElem?_getD, List.getElem?_set]
  by_cases e : i = j
  · subst e; simp [h]
  · simp [e]
theorem val_take_succ (l : List Int) (k : Nat) (h : k < l.length) : val (l.take (k + 1)) = val (l.take k) + pw k * rd l (k : Int) := by
  rw [take_snoc h, val_snoc, List.length_take, Nat.min_eq_left (by omega), rd_get _ _ h]
theorem mul_bound {x y : Int} (hx : 0 ≤ x ∧ x ≤ 65535) (hy : 0 ≤ y ∧ y ≤ 65535) : 0 ≤ x * y ∧ x * y ≤ 4294836225 := by
  refine ⟨Int.mul_nonneg hx.1 hy.1, ?_⟩
  exact Int.le_trans (Int.mul_le_mul hx.2 hy.2 hy.1 (by omega)) (by omega)
theorem spec_mul_row (a b : List Int) (ha : Limbs a) (hb : Limbs b) (hl : a.length ≤ 1000000) (hl2 : b.length ≤ 1000000) (i : Nat) (hi : i < a.length) (V0 : Int) (d : Nat) :
    ∀ (k : Nat) (out : List Int) (c : Int), k + d = b.length → out.length = a.length + b.length → Limbs out → 0 ≤ c → c ≤ 65535 → (∀ j : Nat, i + b.length ≤ j → rd out (j : Int) = 0) → val out + c * pw (i + k) = V0 + rd a (i : Int) * val (b.take k) * pw i →
      ∃ out' : List Int, out'.length = a.length + b.length ∧ Limbs out' ∧ (∀ j : Nat, i + 1 + b.length ≤ j → rd out' (j : Int) = 0) ∧ val out' = V0 + rd a (i : Int) * val b * pw i ∧
        ∀ r, Ev (fun n => spec_l2mul.l0 n out' ((i + 1 : Nat) : Int) a b) r → Ev (fun n => spec_l2mul.l1 n out (i : Int) c (k : Int) a b) r := by
  induction d with
  | zero =>
    intro k out c hk hlen ho c0 c1 hz hv
    have hkk : k = b.length := by omega
    subst hkk
    have w : wrap64 ((i : Int) + (b.length : Int)) = ((i + b.length : Nat) : Int) := by rw [w64 (by omega) (by omega)]; omega
    have z := hz (i + b.length) (Nat.le_refl _)
    refine ⟨out.set (i + b.length) c, by simpa using hlen, ho.set _ c0 c1, ?_, ?_, ?_⟩
    · intro j hj
      rw [rd_set _ _ _ _ (by omega), if_neg (by omega)]
      exact hz j (by omega)
    · rw [val_set _ _ _ (by omega), z, Int.sub_zero, hv, List.take_length]
    · intro r hr
      refine Ev.step (fun n => by simp only [spec_l2mul.l1]; rfl) (ev_if_neg (by omega) ?_)
      rw [w, z, w64 (x := 0 + c) (by omega) (by omega), w64 (x := (i : Int) + 1) (by omega) (by omega), Int.zero_add]
      exact ev_if_pos (by omega) (ev_if_pos (by omega) hr)
  | succ d ih =>
    intro k out c hk hlen ho c0 c1 hz hv
    have w : wrap64 ((i : Int) + (k : Int)) = ((i + k : Nat) : Int) := by rw [w64 (by omega) (by omega)]; omega
    have hik : i + k < out.length := by
      clear hv hz
      omega
    have hkb : k < b.length := by
      clear hv hz
      omega
    have x1 := rd_limb ha (i : Int)
    have x2 := rd_limb hb (k : Int)
    have x3 := rd_limb ho ((i + k : Nat) : Int)
    have mb := mul_bound x1 x2
    have tb : 0 ≤ rd out ((i + k : Nat) : Int) + rd a (i : Int) * rd b (k : Int) + c ∧ rd out ((i + k : Nat) : Int) + rd a (i : Int) * rd b (k : Int) + c ≤ 4294967295 := by omega
    generalize ht : rd out ((i + k : Nat) : Int) + rd a (i : Int) * rd b (k : Int) + c = t at *
    have tq : (0 ≤ t % 65536 ∧ t % 65536 ≤ 65535) ∧ 0 ≤ t / 65536 ∧ t / 65536 ≤ 65535 := by
      clear hv hz ih mb
      omega
    have nlen : (out.set (i + k) (t % 65536)).length = a.length + b.length := by simpa using hlen
    have nz : ∀ j : Nat, i + b.length ≤ j → rd (out.set (i + k) (t % 65536)) (j : Int) = 0 := by
      intro j hj
      have hne : ¬ i + k = j := by
        clear hv hz ih tq tb mb x1 x2 x3
        omega
      rw [rd_set _ _ _ _ hik, if_neg hne]
      exact hz j hj
    have nv : val (out.set (i + k) (t % 65536)) + t / 65536 * pw (i + (k + 1)) = V0 + rd a (i : Int) * val (b.take (k + 1)) * pw i := by
      have ht' : t = rd out ((i + k : Nat) : Int) + rd a (i : Int) * rd b (k : Int) + c := ht.symm
      have hs := mul_step (val out) (pw (i + k)) (rd out ((i + k : Nat) : Int)) t c (rd a (i : Int) * rd b (k : Int)) _ hv ht'
      rw [val_set _ _ _ hik, val_take_succ _ _ hkb, show i + (k + 1) = (i + k) + 1 from rfl, show pw (i + k + 1) = 65536 * pw (i + k) from rfl, hs, pw_add]
      clear hs hv hz nz ih tb tq
      grind
    have hkd : k + 1 + d = b.length := by
      clear hv hz nv nz mb tb tq ih
      omega
    clear hv hz
    obtain ⟨out', g1, g2, g3, g4, g5⟩ := ih (k + 1) _ _ hkd nlen (ho.set _ tq.1.1 tq.1.2) tq.2.1 tq.2.2 nz nv
    have g4_ := g4
    clear ih nv nz g4
    refine ⟨out', g1, g2, g3, g4_, fun r hr => ?_⟩
    refine Ev.step (fun n => by simp only [spec_l2mul.l1]; rfl) (ev_if_pos (by omega) ?_)
    rw [w, w64 (x := rd a (i : Int) * rd b (k : Int)) (by omega) (by omega), w64 (x := rd out ((i + k : Nat) : Int) + rd a (i : Int) * rd b (k : Int)) (by omega) (by omega), ht, w64 (x := t) (by omega) (by omega), td t _ (by omega), tm t _ (by omega), w64 (x := t / 65536) (by omega) (by omega), w64 (x := (k : Int) + 1) (by omega) (by omega)]
    exact ev_if_pos (by omega) (ev_if_pos (by omega) (ev_if_pos (by omega) (ev_if_pos (by omega) (ev_if_pos (by omega) (g5 r hr)))))
theorem spec_mul_rows (a b : List Int) (ha : Limbs a) (hb : Limbs b) (hl : a.length ≤ 1000000) (hl2 : b.length ≤ 1000000) (d : Nat) :
    ∀ (i : Nat) (out : List Int), i + d = a.length → out.length = a.length + b.length → Limbs out → (∀ j : Nat, i + b.length ≤ j → rd out (j : Int) = 0) → val out = val (a.take i) * val b →
      ∃ q : List Int, Ev (fun n => spec_l2mul.l0 n out (i : Int) a b) q ∧ Norm q ∧ val q = val a * val b ∧ q.length ≤ a.length + b.length := by
  induction d with
  | zero =>
    intro i out hi hlen ho hz hv
    have hii : i = a.length := by omega
    subst hii
    refine ⟨strip out, ?_, strip_norm ho, by rw [val_strip, hv, List.take_length], by have := strip_len out; omega⟩
    refine Ev.step (fun n => by simp only [spec_l2mul.l0]; rfl) (ev_if_neg (by omega) ?_)
    exact Ev.bind (ev_spec_l2norm out (by omega)) (Ev.now _)
  | succ d ih =>
    intro i out hi hlen ho hz hv
    obtain ⟨out', g1, g2, g3, g4, g5⟩ := spec_mul_row a b ha hb hl hl2 i (by omega) (val out) b.length 0 out 0 (by omega) hlen ho (by omega) (by omega) hz (by simp [val])
    obtain ⟨q, q1, q2, q3, q4⟩ := ih (i + 1) out' (by omega) g1 g2 g3 (by
      rw [g4, hv, val_take_succ _ _ (by omega)]
      grind)
    refine ⟨q, ?_, q2, q3, q4⟩
    refine Ev.step (fun n => by simp only [spec_l2mul.l0]; rfl) (ev_if_pos (by omega) ?_)
    exact g5 q q1
theorem ev_spec_l2mul (a b : List Int) (ha : Limbs a) (hb : Limbs b) (hl : a.length ≤ 1000000) (hl2 : b.length ≤ 1000000) : ∃ q : List Int, Ev (fun n => spec_l2mul.f n a b) q ∧ Norm q ∧ val q = val a * val b ∧ q.length ≤ a.length + b.length := by
  obtain ⟨q, q1, q2, q3, q4⟩ := spec_mul_rows a b ha hb hl hl2 a.length 0 (List.replicate (a.length + b.length) 0) (by omega) (by simp) (Limbs.zeros _) (by
    intro j _
    rw [rd_nat, List.getD_eq_getElem?_getD, List.getElem?_replicate]
    split <;> rfl) (by rw [val_zeros]; simp [val])
  refine ⟨q, ?_, q2, q3, q4⟩
  unfold spec_l2mul.f
  have w : wrap64 ((a.length : Int) + (b.length : Int)) = ((a.length + b.length : Nat) : Int) := by rw [w64 (by omega) (by omega)]; omega
  rw [w]
  refine ev_if_pos (by omega) (ev_if_pos (by omega) ?_)
  rw [Int.toNat_natCast]
  exact q1

/-! #### l2of -/
theorem ev_spec_l2of (n : Int) (h1 : n ≤ 9223372036854775807) : Ev (fun k => spec_l2of.f k n) (dig n) := by
  unfold spec_l2of.f dig
  have key : ∀ f : Nat, ∀ x : Int, ∀ acc : List Int, x < pw f → x ≤ 9223372036854775807 → acc.length + f < 1000 → Ev (fun k => spec_l2of.l0 k x acc) (acc ++ digF f x) := by
    intro f
    induction f with
    | zero =>
      intro x acc hx hb ha
      simp [pw] at hx
      refine Ev.step (f := fun _ => some (acc ++ digF 0 x)) (fun k => ?_) (Ev.now _)
      simp only [spec_l2of.l0]
      rw [if_neg (by omega)]; simp [digF]
    | succ f ih =>
      intro x acc hx hb ha
      by_cases h : x ≤ 0
      · refine Ev.step (f := fun _ => some (acc ++ digF (f + 1) x)) (fun k => ?_) (Ev.now _)
        simp only [spec_l2of.l0]
        rw [if_neg (by omega)]; simp [digF, h]
      · have e : acc ++ digF (f + 1) x = (acc ++ [x % 65536]) ++ digF f (x / 65536) := by
          simp [digF, h]
        rw [e]
        simp only [pw] at hx
        refine Ev.step (f := fun k => spec_l2of.l0 k (x / 65536) (acc ++ [x % 65536])) (fun k => ?_) (ih _ _ (by omega) (by omega) (by simp; omega))
        simp only [spec_l2of.l0]
        rw [if_pos (by omega), if_pos (by omega), td _ _ (by omega), tm _ _ (by omega), w64 (by omega) (by omega)]
  have := key 4 n [] (by rw [pw4]; omega) h1 (by simp)
  simpa using this

/-! #### trim -/
theorem ev_impl_trim (l : List Int) (hb : l.length ≤ 1000000000) : Ev (fun k => impl_trim.f k l) (strip l) := by
  unfold impl_trim.f
  have key : ∀ n : Nat, n ≤ l.length → strip (l.take n) = strip l → Ev (fun k => impl_trim.l0 k (l.take n)) (strip l) := by
    intro n
    induction n with
    | zero =>
      intro _ hs
      refine Ev.step (f := fun _ => some (strip l)) (fun k => ?_) (Ev.now _)
      simp only [impl_trim.l0]
      rw [if_neg (by simp)]
      simpa [strip] using hs
    | succ n ih =>
      intro hn hs
      have hlen : (l.take (n + 1)).length = n + 1 := by simp; omega
      have hrd : rd (l.take (n + 1)) (n : Int) = l[n] := by
        rw [rd_get _ _ (by omega)]; simp
      by_cases h0 : l[n] = 0
      · refine Ev.step (f := fun k => impl_trim.l0 k (l.take n)) (fun k => ?_) (ih (by omega) ?_)
        · simp only [impl_trim.l0]
          rw [hlen, show ((n + 1 : Nat) : Int) - 1 = (n : Int) by omega, w64 (x := (n : Int)) (by omega) (by omega), if_pos (by omega), if_pos (by omega), if_pos (by omega), hrd, if_pos h0, if_pos (by omega)]
          rw [Int.toNat_natCast, List.take_take, Nat.min_eq_left (by omega)]
        · rw [← hs, strip_take_zero (by omega) h0]
      · refine Ev.step (f := fun _ => some (strip l)) (fun k => ?_) (Ev.now _)
        simp only [impl_trim.l0]
        rw [hlen, show ((n + 1 : Nat) : Int) - 1 = (n : Int) by omega, w64 (x := (n : Int)) (by omega) (by omega), if_pos (by omega), if_pos (by omega), if_pos (by omega), hrd, if_neg h0]
        rw [← hs, strip_take_ne (by omega) h0]
  have := key l.length (Nat.le_refl _) (by simp)
  rw [List.take_length] at this
  exact this

/-! #### up -/
/-- The value of a number shifted to the left. -/
def shlI (l : List Int) (k : Int) : Int := pw (k / 16).toNat * (val l * 2 ^ (k % 16).toNat)
theorem up_step (O P c x R A T : Int) (h : O + P * (c + (x + 65536 * A) * R) = T) : O + P * ((c + x * R) % 65536) + 65536 * P * ((c + x * R) / 65536 + A * R) = T := by
  have e := Int.mul_ediv_add_emod (c + x * R) 65536
  have e2 : c + (x + 65536 * A) * R = (c + x * R) % 65536 + 65536 * ((c + x * R) / 65536 + A * R) := by
    rw [Int.add_mul, Int.mul_assoc]; omega
  rw [e2, Int.mul_add, ← Int.mul_assoc, Int.mul_comm P 65536] at h
  omega
theorem ev_impl_up (a : List Int) (k : Int) (ha : Limbs a) (hb : a.length ≤ 1000000) (h0 : 0 ≤ k) (h1 : k ≤ 10000000) :
    ∃ q : List Int, Ev (fun n => impl_up.f n a k) q ∧ Norm q ∧ val q = shlI a k := by
  unfold impl_up.f shlI
  rw [td _ _ h0, w64 (x := k / 16) (by omega) (by omega)]
  by_cases hl : (a.length : Int) = 0
  · have e : a = [] := List.eq_nil_of_length_eq_zero (by omega)
    subst e
    exact ⟨[], ev_if_pos hl (Ev.now _), Norm.nil, by simp [val]⟩
  · have hr : (k % 16).toNat < 16 := by omega
    have hp := two_pow_bd hr
    rw [w64 (x := k / 16 + (a.length : Int)) (by omega) (by omega), w64 (by omega) (by omega)]
    generalize hR : (2 : Int) ^ (k % 16).toNat = R at *
    have key : ∀ d i : Nat, i + d = a.length → ∀ (out : List Int) (c : Int), out.length = (k / 16).toNat + i → Limbs out → 0 ≤ c → c ≤ 65535 →
        val out + pw ((k / 16).toNat + i) * (c + val (a.drop i) * R) = pw (k / 16).toNat * (val a * R) →
        ∃ q : List Int, Ev (fun n => impl_up.l0 n k out c a (a.length : Int) (i : Int)) q ∧ Norm q ∧ val q = pw (k / 16).toNat * (val a * R) := by
      intro d
      induction d with
      | zero =>
        intro i hi out c ho hlim hc0 hc1 hv
        rw [List.drop_eq_nil_of_le (by omega)] at hv
        simp only [val, Int.zero_mul, Int.add_zero] at hv
        refine ⟨strip (out ++ [c]), ?_, strip_norm (hlim.append (Limbs.cons hc0 hc1 Limbs.nil)), by rw [val_strip, val_snoc, ho]; exact hv⟩
        refine Ev.step (f := fun n => (impl_trim.f n (out ++ [c])).bind fun t => some t) (fun n => ?_) ?_
        · simp only [impl_up.l0]
          rw [if_neg (by omega), if_pos (by omega)]
        · exact Ev.bind (ev_impl_trim _ (by simp; omega)) (Ev.now _)
      | succ d ih =>
        intro i hi out c ho hlim hc0 hc1 hv
        have hx := rd_limb ha (i : Int)
        rw [val_drop_at (by omega)] at hv
        have hs := up_step _ _ _ _ _ _ _ hv
        have hxr : 0 ≤ rd a (i : Int) * R := Int.mul_nonneg hx.1 (by omega)
        have hxr2 : rd a (i : Int) * R ≤ 65535 * 32768 := Int.mul_le_mul hx.2 hp.2 (by omega) (by omega)
        have hxr3 : (c + rd a (i : Int) * R) / 65536 ≤ 65535 := by omega
        have hm : 0 ≤ (c + rd a (i : Int) * R) % 65536 ∧ (c + rd a (i : Int) * R) % 65536 ≤ 65535 := by omega
        obtain ⟨q, hq, hrest⟩ := ih (i + 1) (by omega) (out ++ [(c + rd a (i : Int) * R) % 65536]) ((c + rd a (i : Int) * R) / 65536) (by simp; omega) (hlim.append (Limbs.cons hm.1 hm.2 Limbs.nil)) (by omega) hxr3 (by
          rw [val_snoc, ho, show (k / 16).toNat + (i + 1) = ((k / 16).toNat + i) + 1 by omega]; simp only [pw]; exact hs)
        refine ⟨q, Ev.step (fun n => ?_) hq, hrest⟩
        simp only [impl_up.l0]
        rw [tm _ _ h0, if_pos (by omega), if_pos (by omega), if_pos (by omega), if_pos (by omega), if_pos (by omega), shl_in (by omega) (by omega) hx.1 hx.2, hR, w64 (x := c + rd a (i : Int) * R) (by omega) (by omega), tm _ _ (by omega), td _ _ (by omega), w64 (by omega) (by omega), w64 (by omega) (by omega)]
        rfl
    obtain ⟨q, hq, h2⟩ := key a.length 0 (by omega) (List.replicate (k / 16).toNat 0) 0 (by simp) (Limbs.zeros _) (by omega) (by omega) (by rw [val_zeros]; simp)
    refine ⟨q, ?_, h2⟩
    refine ev_if_neg hl (ev_if_pos (by omega) (ev_if_pos (by omega) (ev_if_pos (by omega) ?_)))
    exact hq

/-! #### l2shl -/
theorem ev_spec_l2shl (a : List Int) (k : Int) (ha : Limbs a) (hb : a.length ≤ 900000) (h0 : 0 ≤ k) (h1 : k ≤ 1000000) : ∃ q : List Int, Ev (fun n => spec_l2shl.f n a k) q ∧ Norm q ∧ val q = shlI a k ∧ (a ≠ [] → q.length ≤ (k / 16).toNat + a.length + 4) := by
  unfold spec_l2shl.f shlI
  by_cases hl : (a.length : Int) = 0
  · have e : a = [] := List.eq_nil_of_length_eq_zero (by omega)
    subst e
    exact ⟨[], ev_if_pos hl (Ev.now _), Norm.nil, by simp [val], by simp⟩
  · have hr : (k % 16).toNat < 16 := by omega
    have hp := two_pow_bd hr
    have e2 : shl .i64 1 (k % 16) = 2 ^ (k % 16).toNat := by rw [shl_in (by omega) (by omega) (by omega) (by omega)]; omega
    have zl : (List.replicate (k / 16).toNat (0 : Int)).length = (k / 16).toNat := by simp
    have al : (List.replicate (k / 16).toNat (0 : Int) ++ a).length = (k / 16).toNat + a.length := by simp
    have dl := dig_len (2 ^ (k % 16).toNat)
    obtain ⟨q, q1, q2, q3, q4⟩ := ev_spec_l2mul (List.replicate (k / 16).toNat 0 ++ a) (dig (2 ^ (k % 16).toNat)) (Limbs.append (Limbs.zeros _) ha) (dig_norm (by omega) (by omega)).1 (by omega) (by omega)
    refine ⟨q, ?_, q2, ?_, fun _ => by omega⟩
    · rw [td _ _ h0, tm _ _ h0, w64 (x := k / 16) (by omega) (by omega)]
      refine ev_if_neg hl (ev_if_pos (by omega) (ev_if_pos (by omega) (ev_bind0 rfl (ev_if_pos (by omega) (ev_if_pos (by omega) ?_)))))
      rw [e2]
      exact Ev.bind (ev_spec_l2of _ (by omega)) (Ev.bind q1 (Ev.now _))
    · rw [q3, val_append, val_zeros, zl, dig_val (by omega) (by omega)]
      grind

/-! #### l3make -/
theorem ev_spec_l3make (s : Bool) (l : List Int) (h : Norm l) (hb : l.length ≤ 1000000) : Ev (fun n => spec_l3make.f n s l) (s && !l.isEmpty, l) := by
  unfold spec_l3make.f
  have e := ev_spec_l2norm l (by omega)
  rw [strip_of_norm h] at e
  cases s
  · simp only [Bool.false_eq_true, if_false]
    exact Ev.bind e (Ev.now _)
  · simp only [if_true]
    refine Ev.bind e ?_
    cases l
    · exact Ev.now _
    · simp; exact Ev.now _

/-! #### cmp -/
theorem ev_spec_l2cmp (a b : List Int) (ha : Norm a) (hb : Norm b) (hl : a.length ≤ 1000000) (hl2 : b.length ≤ 1000000) : Ev (fun k => spec_l2cmp.f k a b) (cmpI (val a) (val b)) := by
  unfold spec_l2cmp.f
  by_cases he : (a.length : Int) = (b.length : Int)
  · refine ev_if_pos he ?_
    rw [w64 (by omega) (by omega)]
    have key : ∀ d : Nat, d ≤ a.length → val (a.drop d) = val (b.drop d) → Ev (fun k => spec_l2cmp.l0 k ((d : Int) - 1) a b) (cmpI (val a) (val b)) := by
      intro d
      induction d with
      | zero =>
        intro _ hv
        simp at hv
        rw [cmpI_eq hv]
        refine Ev.step (f := fun _ => some 0) (fun k => ?_) (Ev.now _)
        simp only [spec_l2cmp.l0]
        rw [if_neg (by omega)]
      | succ d ih =>
        intro hd hv
        rw [show ((d + 1 : Nat) : Int) - 1 = (d : Int) by omega]
        by_cases h1 : rd a (d : Int) < rd b (d : Int)
        · have hlt : val a < val b := val_lt_at ha.1 hb.1 (i := d) (by omega) (by omega) hv (by rwa [rd_get _ _ (by omega), rd_get _ _ (by omega)] at h1)
          rw [cmpI_lt hlt]
          refine Ev.step (f := fun _ => some (-1)) (fun k => ?_) (Ev.now _)
          simp only [spec_l2cmp.l0]
          rw [if_pos (by omega), if_pos (by omega), if_pos (by omega), if_pos (by omega), if_pos h1]
        · by_cases h2 : rd a (d : Int) > rd b (d : Int)
          · have hlt : val b < val a := val_lt_at hb.1 ha.1 (i := d) (by omega) (by omega) hv.symm (by rwa [gt_iff_lt, rd_get _ _ (by omega), rd_get _ _ (by omega)] at h2)
            rw [cmpI_gt hlt]
            refine Ev.step (f := fun _ => some 1) (fun k => ?_) (Ev.now _)
            simp only [spec_l2cmp.l0]
            rw [if_pos (by omega), if_pos (by omega), if_pos (by omega), if_pos (by omega), if_neg h1, if_pos h2]
          · refine Ev.step (f := fun k => spec_l2cmp.l0 k ((d : Int) - 1) a b) (fun k => ?_) (ih (by omega) ?_)
            · simp only [spec_l2cmp.l0]
              rw [if_pos (by omega), if_pos (by omega), if_pos (by omega), if_pos (by omega), if_neg h1, if_neg h2, w64 (by omega) (by omega)]
            · have e : rd a (d : Int) = rd b (d : Int) := by omega
              rw [rd_get _ _ (by omega), rd_get _ _ (by omega)] at e
              rw [List.drop_eq_getElem_cons (show d < a.length by omega), List.drop_eq_getElem_cons (show d < b.length by omega)]
              simp only [val, e, hv]
    exact key a.length (Nat.le_refl _) (by rw [List.drop_length, show a.length = b.length by omega, List.drop_length])
  · refine ev_if_neg he ?_
    by_cases h : (a.length : Int) < (b.length : Int)
    · rw [cmpI_lt (val_lt_len ha.1 hb (by omega))]; exact ev_if_pos h (Ev.now _)
    · rw [cmpI_gt (val_lt_len hb.1 ha (by omega))]; exact ev_if_neg h (Ev.now _)
theorem cmp_Compare_eq (a b : Int) : cmp_Compare_int.f a b = some (cmpI a b) := by
  unfold cmp_Compare_int.f cmp_isNaN_int.f cmpI
  simp only [Option.bind_some, bne_self_eq_false, Bool.false_eq_true, if_false]
  by_cases h : a < b
  · rw [if_pos h, if_pos h]
  · rw [if_neg h, if_neg h]
    by_cases h2 : a > b
    · rw [if_pos h2, if_pos h2]
    · rw [if_neg h2, if_neg h2]
theorem ev_impl_compare (a b : List Int) (ha : Norm a) (hb : Norm b) (hl : a.length ≤ 1000000) (hl2 : b.length ≤ 1000000) : Ev (fun k => impl_compare.f k a b) (cmpI (val a) (val b)) := by
  unfold impl_compare.f
  simp only [cmp_Compare_eq, Option.bind_some]
  by_cases he : (a.length : Int) = (b.length : Int)
  · refine ev_if_pos he ?_
    rw [w64 (by omega) (by omega)]
    have key : ∀ d : Nat, d ≤ a.length → val (a.drop d) = val (b.drop d) → Ev (fun k => impl_compare.l0 k a b ((d : Int) - 1)) (cmpI (val a) (val b)) := by
      intro d
      induction d with
      | zero =>
        intro _ hv
        simp at hv
        rw [cmpI_eq hv]
        refine Ev.step (f := fun _ => some 0) (fun k => ?_) (Ev.now _)
        simp only [impl_compare.l0]
        rw [if_neg (by omega)]
      | succ d ih =>
        intro hd hv
        rw [show ((d + 1 : Nat) : Int) - 1 = (d : Int) by omega]
        by_cases h0 : rd a (d : Int) = rd b (d : Int)
        · refine Ev.step (f := fun k => impl_compare.l0 k a b ((d : Int) - 1)) (fun k => ?_) (ih (by omega) ?_)
          · simp only [impl_compare.l0]
            rw [if_pos (by omega), if_pos (by omega), if_pos (by omega), if_pos (by omega), if_pos h0, w64 (by omega) (by omega)]
          · rw [rd_get _ _ (by omega), rd_get _ _ (by omega)] at h0
            rw [List.drop_eq_getElem_cons (show d < a.length by omega), List.drop_eq_getElem_cons (show d < b.length by omega)]
            simp only [val, h0, hv]
        · have e : cmpI (rd a (d : Int)) (rd b (d : Int)) = cmpI (val a) (val b) := by
            by_cases h1 : rd a (d : Int) < rd b (d : Int)
            · rw [cmpI_lt h1, cmpI_lt (val_lt_at ha.1 hb.1 (i := d) (by omega) (by omega) hv (by rwa [rd_get _ _ (by omega), rd_get _ _ (by omega)] at h1))]
            · have h2 : rd b (d : Int) < rd a (d : Int) := by omega
              rw [cmpI_gt h2, cmpI_gt (val_lt_at hb.1 ha.1 (i := d) (by omega) (by omega) hv.symm (by rwa [rd_get _ _ (by omega), rd_get _ _ (by omega)] at h2))]
          rw [← e]
          refine Ev.step (f := fun _ => some (cmpI (rd a (d : Int)) (rd b (d : Int)))) (fun k => ?_) (Ev.now _)
          simp only [impl_compare.l0, cmp_Compare_eq, Option.bind_some]
          rw [if_pos (by omega), if_pos (by omega), if_pos (by omega), if_pos (by omega), if_neg h0]
    exact key a.length (Nat.le_refl _) (by rw [List.drop_length, show a.length = b.length by omega, List.drop_length])
  · refine ev_if_neg he ?_
    have e : cmpI (a.length : Int) (b.length : Int) = cmpI (val a) (val b) := by
      by_cases h : (a.length : Int) < (b.length : Int)
      · rw [cmpI_lt h, cmpI_lt (val_lt_len ha.1 hb (by omega))]
      · rw [cmpI_gt (show (b.length : Int) < (a.length : Int) by omega), cmpI_gt (val_lt_len hb.1 ha (by omega))]
    rw [e]; exact Ev.now _

/-! #### scmp0 -/
/-- Two numbers with signs, compared. -/
def sCmp (s : Bool) (a : List Int) (t : Bool) (b : List Int) : Int := if (s != t) = true then (if s = true then -1 else 1) else if s = true then cmpI (val b) (val a) else cmpI (val a) (val b)
theorem ev_spec_l3cmp (s : Bool) (a : List Int) (t : Bool) (b : List Int) (ha : Norm a) (hb : Norm b) (hl : a.length ≤ 1000000) (hl2 : b.length ≤ 1000000) : Ev (fun k => spec_l3cmp.f k s a t b) (sCmp s a t b) := by
  unfold spec_l3cmp.f sCmp
  by_cases h : (s != t) = true
  · simp only [if_pos h]
    cases s
    · exact ev_if_neg (by simp) (Ev.now _)
    · exact ev_if_pos (by trivial) (Ev.now _)
  · simp only [if_neg h]
    cases s
    · exact ev_if_neg (by simp) (Ev.bind (ev_spec_l2cmp a b ha hb hl hl2) (Ev.now _))
    · exact ev_if_pos (by trivial) (Ev.bind (ev_spec_l2cmp b a hb ha hl2 hl) (Ev.now _))
theorem ev_impl_signedCompare (s : Bool) (a : List Int) (t : Bool) (b : List Int) (ha : Norm a) (hb : Norm b) (hl : a.length ≤ 1000000) (hl2 : b.length ≤ 1000000) : Ev (fun k => impl_signedCompare.f k s a t b) (sCmp s a t b) := by
  unfold impl_signedCompare.f sCmp
  cases s <;> cases t
  · refine ev_if_neg (by simp) (Ev.step (fun k => by simp only [impl_signedCompare.j0]; rfl) (ev_if_neg (by simp) (ev_if_neg (by simp) ?_)))
    refine Ev.step (fun k => by simp only [impl_signedCompare.j1]; rfl) (ev_if_neg (by simp) (ev_if_neg (by simp) ?_))
    exact Ev.bind (ev_impl_compare a b ha hb hl hl2) (Ev.now _)
  · refine ev_if_neg (by simp) (Ev.step (fun k => by simp only [impl_signedCompare.j0]; rfl) (ev_if_neg (by simp) (ev_if_neg (by simp) ?_)))
    exact Ev.step (fun k => by simp only [impl_signedCompare.j1]; rfl) (ev_if_pos (by trivial) (Ev.now _))
  · refine ev_if_pos (by trivial) (Ev.step (fun k => by simp only [impl_signedCompare.j0]; rfl) ?_)
    exact ev_if_pos (by trivial) (Ev.now _)
  · refine ev_if_pos (by trivial) (Ev.step (fun k => by simp only [impl_signedCompare.j0]; rfl) (ev_if_neg (by simp) (ev_if_pos (by trivial) ?_)))
    refine Ev.step (fun k => by simp only [impl_signedCompare.j1]; rfl) (ev_if_neg (by simp) (ev_if_pos (by trivial) ?_))
    exact Ev.bind (ev_impl_compare b a hb ha hl2 hl) (Ev.now _)

/-! #### scmpV -/
theorem sCmp_sg (s : Bool) (a : List Int) (t : Bool) (b : List Int) (ha : Norm a) (hb : Norm b) (hs : s = true → a ≠ []) (ht : t = true → b ≠ []) : sCmp s a t b = cmpI (sg s (val a)) (sg t (val b)) := by
  have a0 := val_nonneg ha.1
  have b0 := val_nonneg hb.1
  unfold sCmp
  cases s <;> cases t
  · rfl
  · have := hb.pos (ht rfl)
    simp only [sg]
    rw [if_pos (by decide), if_neg (by decide), cmpI_gt (by simp; omega)]
  · have := ha.pos (hs rfl)
    simp only [sg]
    rw [if_pos (by decide), if_pos trivial, cmpI_lt (by simp; omega)]
  · simp only [sg]
    rw [if_neg (by decide), if_pos trivial, if_pos trivial, if_pos trivial]
    unfold cmpI
    by_cases h : val b < val a
    · rw [if_pos h, if_pos (by omega)]
    · by_cases h2 : val b > val a
      · rw [if_neg h, if_pos h2, if_neg (by omega), if_pos (by omega)]
      · rw [if_neg h, if_neg h2, if_neg (by omega), if_neg (by omega)]

/-! #### aligned -/
theorem shlI_two (l : List Int) (k : Int) (h0 : 0 ≤ k) : shlI l k = val l * 2 ^ k.toNat := by
  unfold shlI
  rw [← pw_two_toNat k h0, ← Int.mul_assoc, ← Int.mul_assoc, Int.mul_comm (pw _) (val l)]
theorem mx_sub (x z : Int) (hx : x ≤ 30000) (hx0 : -30000 ≤ x) (hz : z ≤ 30000) (hz0 : -30000 ≤ z) : mx (wrap64 (x - z)) 0 = if x < z then 0 else x - z := by
  rw [w64 (by omega) (by omega)]
  unfold mx
  by_cases h : x < z
  · rw [if_pos h, if_pos (by omega)]
  · rw [if_neg h, if_neg (by omega)]
/-- One of two numbers, brought to a power of two that isn't greater than its own (or it is 0). -/
theorem up_side (a : List Int) (x z : Int) (ha : Norm a) (hl : a.length ≤ 1000) (hx : x ≤ 20000) (hx0 : -20000 ≤ x) (hz : z ≤ 20000) (hz0 : -20000 ≤ z) (h : a = [] ∨ z ≤ x) :
    ∃ p : List Int, Ev (fun k => impl_up.f k a (mx (wrap64 (x - z)) 0)) p ∧ Norm p ∧ p.length ≤ 50000 ∧ (a ≠ [] → p ≠ []) ∧ ∀ s : Bool, xv s (val a) x = sg s (val p) * 2 ^ (z + 20000).toNat := by
  rw [mx_sub x z (by omega) (by omega) (by omega) (by omega)]
  obtain ⟨p, p1, p2, p3⟩ := ev_impl_up a (if x < z then 0 else x - z) ha.1 (by omega) (by split <;> omega) (by split <;> omega)
  have k0 : 0 ≤ (if x < z then 0 else x - z) := by split <;> omega
  have k1 : (if x < z then 0 else x - z) ≤ 40000 := by split <;> omega
  rw [shlI_two a _ k0] at p3
  have hlen := len_shl ha.1 p2 _ p3
  refine ⟨p, p1, p2, by omega, ?_, fun s => ?_⟩
  · intro hn e
    have h1 := ha.pos hn
    rw [e] at p3
    simp only [val] at p3
    have h2 := two_pos (if x < z then 0 else x - z).toNat
    have h3 : 1 * 1 ≤ val a * 2 ^ (if x < z then 0 else x - z).toNat := Int.mul_le_mul h1 h2 (by omega) (by omega)
    omega
  · unfold xv
    rw [p3, ← sg_mul]
    rcases h with h | h
    · subst h
      simp [val]
    · rw [if_neg (by omega), Int.mul_assoc, ← two_add]
      congr 3
      omega
theorem ev_impl_exact_compare (s : Bool) (a : List Int) (x : Int) (t : Bool) (b : List Int) (y : Int) (ha : Norm a) (hb : Norm b) (hl : a.length ≤ 1000) (hl2 : b.length ≤ 1000) (hx : x ≤ 20000) (hx0 : -20000 ≤ x) (hy : y ≤ 20000) (hy0 : -20000 ≤ y)
    (hs : s = true → a ≠ []) (ht : t = true → b ≠ []) : Ev (fun k => impl_exact_compare.f k s a x t b y) (cmpI (xv s (val a) x) (xv t (val b) y)) := by
  have fin : ∀ z : Int, z ≤ 20000 → -20000 ≤ z → (a = [] ∨ z ≤ x) → (b = [] ∨ z ≤ y) →
      (∀ p q : List Int, Ev (fun k => (impl_up.f k a (mx (wrap64 (x - z)) 0)).bind fun u => ((impl_up.f k b (mx (wrap64 (y - z)) 0)).bind fun v => (some (u, v, z)))) (p, q, z) → Ev (fun k => impl_aligned.f k s a x t b y) (p, q, z)) →
      Ev (fun k => impl_exact_compare.f k s a x t b y) (cmpI (xv s (val a) x) (xv t (val b) y)) := by
    intro z z1 z0 h1 h2 hev
    obtain ⟨u, pu⟩ := up_side a x z ha hl hx hx0 z1 z0 h1
    obtain ⟨v, qv⟩ := up_side b y z hb hl2 hy hy0 z1 z0 h2
    rw [pu.2.2.2.2 s, qv.2.2.2.2 t, cmpI_scale _ _ _ (two_pos _), ← sCmp_sg s u t v pu.2.1 qv.2.1 (fun e => pu.2.2.2.1 (hs e)) (fun e => qv.2.2.2.1 (ht e))]
    unfold impl_exact_compare.f
    exact Ev.bind (hev u v (Ev.bind pu.1 (Ev.bind qv.1 (Ev.now _)))) (Ev.bind (ev_impl_signedCompare s u t v pu.2.1 qv.2.1 (by omega) (by omega)) (Ev.now _))
  have nil_iff : ∀ l : List Int, (l.length : Int) = 0 ↔ l = [] := fun l => ⟨fun h => List.eq_nil_of_length_eq_zero (by omega), fun h => by subst h; rfl⟩
  by_cases e1 : a = []
  · by_cases e2 : b = []
    · refine fin x hx hx0 (.inl e1) (.inl e2) (fun p q hpq => ?_)
      unfold impl_aligned.f
      refine ev_if_pos ((nil_iff a).2 e1) (Ev.step (fun n => by simp only [impl_aligned.j0]; rfl) (ev_if_pos ((nil_iff b).2 e2) ?_))
      exact hpq
    · refine fin y hy hy0 (.inl e1) (.inr (Int.le_refl _)) (fun p q hpq => ?_)
      unfold impl_aligned.f
      refine ev_if_pos ((nil_iff a).2 e1) (Ev.step (fun n => by simp only [impl_aligned.j0]; rfl) (ev_if_neg (fun h => e2 ((nil_iff b).1 h)) ?_))
      exact hpq
  · by_cases e2 : b = []
    · refine fin x hx hx0 (.inr (Int.le_refl _)) (.inl e2) (fun p q hpq => ?_)
      unfold impl_aligned.f
      refine ev_if_neg (fun h => e1 ((nil_iff a).1 h)) (Ev.step (fun n => by simp only [impl_aligned.j0]; rfl) (ev_if_pos ((nil_iff b).2 e2) ?_))
      exact hpq
    · have m1 : mn x y ≤ x := by unfold mn; split <;> omega
      have m2 : mn x y ≤ y := by unfold mn; split <;> omega
      have m3 : -20000 ≤ mn x y := by unfold mn; split <;> omega
      refine fin (mn x y) (by omega) m3 (.inr m1) (.inr m2) (fun p q hpq => ?_)
      unfold impl_aligned.f
      refine ev_if_neg (fun h => e1 ((nil_iff a).1 h)) (Ev.step (fun n => by simp only [impl_aligned.j0]; rfl) (ev_if_neg (fun h => e2 ((nil_iff b).1 h)) ?_))
      exact hpq

/-! #### l4cmp -/
/-- The reference's side: a number brought to a lesser power of two. -/
theorem shl_side (t : Bool) (b : List Int) (y z : Int) (hb : Norm b) (hl : b.length ≤ 1000) (hn : b ≠ []) (hy : y ≤ 20000) (hz0 : -20000 ≤ z) (h : z ≤ y) :
    ∃ q : List Int, Ev (fun k => spec_l2shl.f k b (wrap64 (y - z))) q ∧ Ev (fun k => spec_l3make.f k t q) (t, q) ∧ Norm q ∧ q.length ≤ 50000 ∧ q ≠ [] ∧ ∀ s : Bool, xv s (val b) y = sg s (val q) * 2 ^ (z + 20000).toNat := by
  rw [w64 (by omega) (by omega)]
  obtain ⟨q, q1, q2, q3, q4⟩ := ev_spec_l2shl b (y - z) hb.1 (by omega) (by omega) (by omega)
  rw [shlI_two b _ (by omega)] at q3
  have hlen := len_shl hb.1 q2 _ q3
  have hne : q ≠ [] := by
    intro e
    have h1 := hb.pos hn
    rw [e] at q3
    simp only [val] at q3
    have h2 := two_pos (y - z).toNat
    have h3 : 1 * 1 ≤ val b * 2 ^ (y - z).toNat := Int.mul_le_mul h1 h2 (by omega) (by omega)
    omega
  have hm := ev_spec_l3make t q q2 (by omega)
  have ht : (t && !q.isEmpty) = t := by
    cases hq : q with
    | nil => exact absurd hq hne
    | cons c q => simp
  rw [ht] at hm
  refine ⟨q, q1, hm, q2, by omega, hne, fun s => ?_⟩
  unfold xv
  rw [q3, ← sg_mul, Int.mul_assoc, ← two_add]
  congr 3
  omega
theorem xv_own (s : Bool) (m z : Int) : xv s m z = sg s m * 2 ^ (z + 20000).toNat := by unfold xv; rw [sg_mul]
theorem ev_spec_l4cmp (s : Bool) (a : List Int) (x : Int) (t : Bool) (b : List Int) (y : Int) (ha : Norm a) (hb : Norm b) (hl : a.length ≤ 1000) (hl2 : b.length ≤ 1000) (hx : x ≤ 20000) (hx0 : -20000 ≤ x) (hy : y ≤ 20000) (hy0 : -20000 ≤ y)
    (hs : s = true → a ≠ []) (ht : t = true → b ≠ []) : Ev (fun k => spec_l4cmp.f k s a x t b y) (cmpI (xv s (val a) x) (xv t (val b) y)) := by
  have nil_iff : ∀ l : List Int, (l.length : Int) = 0 ↔ l = [] := fun l => ⟨fun h => List.eq_nil_of_length_eq_zero (by omega), fun h => by subst h; rfl⟩
  have fin : ∀ (u v : List Int) (z : Int), Norm u → Norm v → u.length ≤ 50000 → v.length ≤ 50000 → (a ≠ [] → u ≠ []) → (b ≠ [] → v ≠ []) → xv s (val a) x = sg s (val u) * 2 ^ (z + 20000).toNat → xv t (val b) y = sg t (val v) * 2 ^ (z + 20000).toNat →
      Ev (fun k => spec_l4align.f k s a x t b y) (s, u, t, v, z) → Ev (fun k => spec_l4cmp.f k s a x t b y) (cmpI (xv s (val a) x) (xv t (val b) y)) := by
    intro u v z hu hv lu lv nu nv e1 e2 hev
    rw [e1, e2, cmpI_scale _ _ _ (two_pos _), ← sCmp_sg s u t v hu hv (fun e => nu (hs e)) (fun e => nv (ht e))]
    unfold spec_l4cmp.f
    exact Ev.bind hev (Ev.bind (ev_spec_l3cmp s u t v hu hv (by omega) (by omega)) (Ev.now _))
  by_cases e1 : a = []
  · refine fin a b y ha hb (by omega) (by omega) id id ?_ (xv_own _ _ _) ?_
    · subst e1
      rw [show val [] = 0 from rfl, xv_zero]
      cases s <;> simp [sg]
    · unfold spec_l4align.f
      exact ev_if_pos ((nil_iff a).2 e1) (Ev.now _)
  · by_cases e2 : b = []
    · refine fin a b x ha hb (by omega) (by omega) id id (xv_own _ _ _) ?_ ?_
      · subst e2
        rw [show val [] = 0 from rfl, xv_zero]
        cases t <;> simp [sg]
      · unfold spec_l4align.f
        exact ev_if_neg (fun h => e1 ((nil_iff a).1 h)) (ev_if_pos ((nil_iff b).2 e2) (Ev.now _))
    · by_cases h : x ≤ y
      · obtain ⟨q, q1, q2, q3, q4, q5, q6⟩ := shl_side t b y x hb hl2 e2 hy hx0 h
        refine fin a q x ha q3 (by omega) q4 id (fun _ => q5) (xv_own _ _ _) (q6 t) ?_
        unfold spec_l4align.f
        exact ev_if_neg (fun h => e1 ((nil_iff a).1 h)) (ev_if_neg (fun h => e2 ((nil_iff b).1 h)) (ev_if_pos h (Ev.bind q1 (Ev.bind q2 (Ev.now _)))))
      · obtain ⟨q, q1, q2, q3, q4, q5, q6⟩ := shl_side s a x y ha hl e1 hx hy0 (by omega)
        refine fin q b y q3 hb q4 (by omega) (fun _ => q5) id (q6 s) (xv_own _ _ _) ?_
        unfold spec_l4align.f
        exact ev_if_neg (fun h => e1 ((nil_iff a).1 h)) (ev_if_neg (fun h => e2 ((nil_iff b).1 h)) (ev_if_neg h (Ev.bind q1 (Ev.bind q2 (Ev.now _)))))

/-! #### l2bitS -/
theorem spec_l2bit_eq (l : List Int) (h : Limbs l) (i : Nat) (hi : i < 16 * l.length) (hb : l.length ≤ 1000000) : spec_l2bit.f l (i : Int) = some (rd l ((i / 16 : Nat) : Int) / 2 ^ (i % 16) % 2) := by
  have hx := rd_limb h ((i / 16 : Nat) : Int)
  have q : (i : Int) / 16 = ((i / 16 : Nat) : Int) := by omega
  have m : (i : Int) % 16 = ((i % 16 : Nat) : Int) := by omega
  have hp := two_pow_bd (show i % 16 < 16 by omega)
  unfold spec_l2bit.f
  rw [td _ _ (by omega), tm _ _ (by omega), q, m, w64 (by omega) (by omega), if_neg (by omega), if_neg (by omega), if_pos (by omega), if_pos (by omega), if_pos (by omega)]
  rw [shr_in (by omega) (by omega), Int.toNat_natCast]
  have h0 : 0 ≤ rd l ((i / 16 : Nat) : Int) / 2 ^ (i % 16) := Int.ediv_nonneg hx.1 (by omega)
  have h1 : rd l ((i / 16 : Nat) : Int) / 2 ^ (i % 16) ≤ 65535 := Int.le_trans (Int.ediv_le_self _ hx.1) hx.2
  rw [and_1 _ h0 (by omega)]

/-! #### strail -/
theorem bit_val {l : List Int} (h : Limbs l) (i : Nat) (hi : i < 16 * l.length) : rd l ((i / 16 : Nat) : Int) / 2 ^ (i % 16) % 2 = val l / 2 ^ i % 2 := by
  have e := shrI_two h (i : Int) (by omega)
  rw [Int.toNat_natCast] at e
  rw [← e]
  unfold shrI
  have e1 : ((i : Int) / 16).toNat = i / 16 := by omega
  have e2 : ((i : Int) % 16).toNat = i % 16 := by omega
  rw [e1, e2, val_drop_at (by omega)]
  generalize rd l ((i / 16 : Nat) : Int) = x
  generalize val (l.drop (i / 16 + 1)) = v
  rcases r16 (show i % 16 < 16 by omega) with c | c | c | c | c | c | c | c | c | c | c | c | c | c | c | c <;> rw [c] <;> simp only [Int.reducePow] <;> omega
theorem ev_spec_trail (l : List Int) (h : Norm l) (hn : l ≠ []) (hb : l.length ≤ 100000) : ∃ r : Nat, Ev (fun k => spec_l2trail.f k l) (r : Int) ∧ r ≤ 16 * l.length ∧ val l % 2 ^ r = 0 ∧ val l / 2 ^ r % 2 = 1 := by
  unfold spec_l2trail.f
  have hw : wrap64 (16 * (l.length : Int)) = 16 * (l.length : Int) := w64 (by omega) (by omega)
  have hp := h.pos hn
  have hv := val_lt h.1
  rw [pw_two] at hv
  have key : ∀ d i : Nat, i + d = 16 * l.length → val l % 2 ^ i = 0 → ∃ r : Nat, Ev (fun k => spec_l2trail.l0 k (i : Int) l) (r : Int) ∧ r ≤ 16 * l.length ∧ val l % 2 ^ r = 0 ∧ val l / 2 ^ r % 2 = 1 := by
    intro d
    induction d with
    | zero =>
      intro i hi hz
      rw [show i = 16 * l.length by omega, Int.emod_eq_of_lt (by omega) hv] at hz
      omega
    | succ d ih =>
      intro i hi hz
      have hbit := spec_l2bit_eq l h.1 i (by omega) (by omega)
      rw [bit_val h.1 i (by omega)] at hbit
      have hm : val l / 2 ^ i % 2 = 0 ∨ val l / 2 ^ i % 2 = 1 := by omega
      rcases hm with hm | hm
      · have hz2 : val l % 2 ^ (i + 1) = 0 := by
          have h1 := Int.mul_ediv_add_emod (val l) (2 ^ i)
          have h2 : val l / 2 ^ i = 2 * (val l / 2 ^ i / 2) := by omega
          rw [hz, Int.add_zero, h2, ← Int.mul_assoc, Int.mul_comm _ 2, Int.mul_comm 2, ← Int.pow_succ] at h1
          rw [← h1]
          exact Int.mul_emod_right _ _
        obtain ⟨r, hr, h3⟩ := ih (i + 1) (by omega) hz2
        refine ⟨r, Ev.step (fun k => ?_) hr, h3⟩
        simp only [spec_l2trail.l0]
        rw [if_pos (by omega), hbit]
        simp only [Option.bind_some]
        rw [if_neg (by omega), w64 (by omega) (by omega), show (i : Int) + 1 = ((i + 1 : Nat) : Int) by omega]
      · refine ⟨i, Ev.step (f := fun _ => some (i : Int)) (fun k => ?_) (Ev.now _), by omega, hz, hm⟩
        simp only [spec_l2trail.l0]
        rw [if_pos (by omega), hbit]
        simp only [Option.bind_some]
        rw [if_pos hm]
  exact key (16 * l.length) 0 (by omega) (by simp)

/-! #### small2 -/
theorem ev_spec_l2small (a : List Int) (D : Int) (ha : Limbs a) (hb : a.length ≤ 1000000) (hD : 1 ≤ D) (hD2 : D ≤ 65536) :
    ∃ q : List Int, Ev (fun k => spec_l2small.f k a D) (q, val a % D) ∧ Norm q ∧ val q = val a / D ∧ q.length ≤ a.length := by
  unfold spec_l2small.f
  have key : ∀ d : Nat, d ≤ a.length → ∀ (x : List Int) (r : Int), x.length = a.length → Limbs x → 0 ≤ r → r < D → val (a.drop d) = val (x.drop d) * D + r →
      ∃ q : List Int, Ev (fun k => spec_l2small.l0 k D x r ((d : Int) - 1) a) (q, val a % D) ∧ Norm q ∧ val q = val a / D ∧ q.length ≤ a.length := by
    intro d
    induction d with
    | zero =>
      intro _ x r hx hl h0 h1 hv
      simp only [List.drop_zero] at hv
      obtain ⟨e1, e2⟩ := div_unique hD hv h0 h1
      refine ⟨strip x, ?_, strip_norm hl, by rw [val_strip]; exact e1, by have := strip_len x; omega⟩
      have hn := ev_spec_l2norm x (by omega)
      refine Ev.step (f := fun k => (spec_l2norm.f k x).bind fun t => some (t, r)) (fun k => ?_) ?_
      · simp only [spec_l2small.l0]
        rw [if_neg (by omega)]
      · rw [← e2]; exact Ev.bind hn (Ev.now _)
    | succ d ih =>
      intro hd x r hx hl h0 h1 hv
      have hy := rd_limb ha (d : Int)
      have hdg := small_digit D r (rd a (d : Int)) hD h0 h1 hy.1 hy.2
      have hm0 := Int.emod_nonneg (r * 65536 + rd a (d : Int)) (show D ≠ 0 by omega)
      have hm1 := Int.emod_lt_of_pos (r * 65536 + rd a (d : Int)) (show 0 < D by omega)
      obtain ⟨q, hq, hrest⟩ := ih (by omega) (x.set d ((r * 65536 + rd a (d : Int)) / D)) ((r * 65536 + rd a (d : Int)) % D) (by simpa using hx) (hl.set d hdg.1 hdg.2) hm0 hm1 (by
        rw [val_set_drop _ _ _ (by omega), val_drop_at (by omega)]
        exact small_step D r _ _ _ hD hv)
      refine ⟨q, Ev.step (fun k => ?_) hq, hrest⟩
      simp only [spec_l2small.l0]
      rw [show ((d + 1 : Nat) : Int) - 1 = (d : Int) by omega]
      rw [if_pos (by omega), if_pos (by omega), if_pos (by omega), if_neg (by omega), if_pos (by omega), w64 (x := r * 65536) (by omega) (by omega), w64 (x := r * 65536 + rd a (d : Int)) (by omega) (by omega), td _ _ (by omega), tm _ _ (by omega), w64 (by omega) (by omega), w64 (by omega) (by omega), Int.toNat_natCast]
  obtain ⟨q, hq, h2⟩ := key a.length (Nat.le_refl _) (List.replicate a.length 0) 0 (by simp) (Limbs.zeros _) (by omega) (by omega) (by rw [List.drop_length]; simp [val])
  refine ⟨q, ?_, h2⟩
  refine ev_if_pos (by omega) (ev_if_pos (by omega) ?_)
  rw [w64 (by omega) (by omega), Int.toNat_natCast]
  exact hq

/-! #### l2shr -/
theorem ev_spec_l2shr (a : List Int) (k : Int) (ha : Limbs a) (hb : a.length ≤ 1000000) (h0 : 0 ≤ k) (h1 : k ≤ 9223372036854775807) :
    ∃ q : List Int, Ev (fun n => spec_l2shr.f n a k) q ∧ Norm q ∧ val q = shrI a k ∧ q.length ≤ a.length := by
  unfold spec_l2shr.f shrI
  rw [td _ _ h0, tm _ _ h0, w64 (x := k / 16) (by omega) (by omega)]
  by_cases hl : k / 16 ≥ (a.length : Int)
  · refine ⟨[], ev_if_pos hl (Ev.now _), Norm.nil, ?_, by simp⟩
    rw [List.drop_eq_nil_of_le (by omega)]; simp [val]
  · have hp := two_pow_bd (show (k % 16).toNat < 16 by omega)
    obtain ⟨q, hq, h2, h3, h4⟩ := ev_spec_l2small (a.drop (k / 16).toNat) (2 ^ (k % 16).toNat) (ha.drop _) (by simp; omega) hp.1 (by omega)
    refine ⟨q, ?_, h2, h3, by simp at h4; omega⟩
    refine ev_if_neg hl (ev_if_pos (by omega) (ev_if_pos (by omega) (ev_if_pos (by omega) ?_)))
    have e : shl .i64 1 (k % 16) = 2 ^ (k % 16).toNat := by rw [shl_in (by omega) (by omega) (by omega) (by omega)]; omega
    rw [e]
    exact Ev.bind hq (Ev.now _)

/-! #### smake -/
/-- The reference's one form of a number that isn't 0: the same number. -/
theorem ev_spec_l4make_x (s : Bool) (l : List Int) (e : Int) (h : Norm l) (hn : l ≠ []) (hb : l.length ≤ 1000) (h0 : -20000 ≤ e) (h1 : e ≤ 20000) :
    ∃ (q : List Int) (z : Int), Ev (fun k => spec_l4make.f k s l e) (s, q, z) ∧ Norm q ∧ q ≠ [] ∧ q.length ≤ l.length ∧ e ≤ z ∧ z ≤ e + 16 * l.length ∧ val q % 2 = 1 ∧ ∀ t : Bool, xv t (val q) z = xv t (val l) e := by
  obtain ⟨r, r1, r2, r3, r4⟩ := ev_spec_trail l h hn (by omega)
  obtain ⟨q, q1, q2, q3, q4⟩ := ev_spec_l2shr l (r : Int) h.1 (by omega) (by omega) (by omega)
  rw [shrI_two h.1 _ (by omega), Int.toNat_natCast] at q3
  have hne : q ≠ [] := by
    intro c
    rw [c] at q3
    simp only [val] at q3
    omega
  have hm := ev_spec_l3make s q q2 (by omega)
  have ht : (s && !q.isEmpty) = s := by
    cases hq : q with
    | nil => exact absurd hq hne
    | cons c q => simp
  rw [ht] at hm
  refine ⟨q, e + r, ?_, q2, hne, q4, by omega, by omega, by rw [q3]; exact r4, fun t => ?_⟩
  · unfold spec_l4make.f
    refine ev_if_neg (by have := List.length_pos_iff.2 hn; omega) (Ev.bind r1 (Ev.bind q1 (Ev.bind hm ?_)))
    rw [w64 (by omega) (by omega)]
    exact Ev.now _
  · unfold xv
    have h2 := Int.mul_ediv_add_emod (val l) (2 ^ r)
    rw [r3, Int.add_zero] at h2
    rw [q3, show (e + (r : Int) + 20000).toNat = r + (e + 20000).toNat by omega, two_add, ← Int.mul_assoc, Int.mul_comm _ (2 ^ r), h2]

/-! #### within -/
theorem within_eq (a b c : Int) : impl_within.f a b c = some (decide (b ≤ a ∧ a ≤ c)) := by
  unfold impl_within.f
  by_cases h : b ≤ a <;> simp [h]

/-! #### FlOk -/
/-- Is a float valid? -/
def flOkB (k : Int) (s : Bool) (m e : Int) : Bool :=
  if k = 1 then decide (-1074 ≤ e ∧ e ≤ 971 ∧ 1 ≤ m ∧ m ≤ 9007199254740991 ∧ (4503599627370496 ≤ m ∨ e = -1074))
  else if k = 0 ∨ k = 2 then decide (m = 0 ∧ e = 0) else decide (k = 3 ∧ m = 0 ∧ e = 0 ∧ s = false)
theorem spec_FlOk_1 (k : Int) (s : Bool) (m e : Int) : spec_FlOk.f 1 k s m e = some (flOkB k s m e) := by
  unfold spec_FlOk.f flOkB
  simp only [spec_FlOk.j0]
  by_cases k1 : k = 1
  · subst k1
    simp only [Int.reduceEq, if_false, if_true, Int.reduceBEq, Bool.false_eq_true]
    by_cases h1 : e < -1074
    · rw [if_pos h1]; simp; omega
    rw [if_neg h1]
    by_cases h2 : e > 971
    · rw [if_pos h2]; simp; omega
    rw [if_neg h2]
    by_cases h3 : m < 1
    · rw [if_pos h3]; simp; omega
    rw [if_neg h3]
    by_cases h4 : m ≥ 9007199254740992
    · rw [if_pos h4]; simp; omega
    rw [if_neg h4]
    by_cases h5 : m ≥ 4503599627370496
    · rw [if_pos h5]; simp; omega
    rw [if_neg h5]
    by_cases h6 : e = -1074
    · subst h6; simp; omega
    · rw [show (e == -1074) = false from by simpa using h6]; simp; omega
  · rw [if_neg k1]
    by_cases k0 : k = 0
    · subst k0
      by_cases hm : m = 0 <;> by_cases he : e = 0 <;> simp [hm, he]
    · rw [if_neg k0]
      by_cases k2 : k = 2
      · subst k2
        by_cases hm : m = 0 <;> by_cases he : e = 0 <;> simp [hm, he]
      · by_cases k3 : k = 3
        · subst k3
          by_cases hm : m = 0 <;> by_cases he : e = 0 <;> cases s <;> simp [hm, he]
        · simp [k0, k1, k2, k3]
theorem impl_FlOk_eq (k : Int) (s : Bool) (m e : Int) : impl_FlOk.f k s m e = some (flOkB k s m e) := by
  unfold impl_FlOk.f flOkB
  simp only [within_eq, Option.bind_some, decide_eq_true_eq]
  by_cases k1 : k = 1
  · rw [if_pos k1, if_pos k1]
    by_cases h1 : -1074 ≤ e ∧ e ≤ 971
    · rw [if_pos h1]
      by_cases h2 : 4503599627370496 ≤ m ∧ m ≤ 9007199254740991
      · rw [if_pos h2]; simp; omega
      · rw [if_neg h2]
        by_cases h3 : 1 ≤ m ∧ m ≤ 4503599627370495
        · rw [if_pos h3]
          by_cases h6 : e = -1074
          · subst h6; simp; omega
          · rw [show (e == -1074) = false from by simpa using h6]; simp; omega
        · rw [if_neg h3]; simp; omega
    · rw [if_neg h1]; simp; omega
  · rw [if_neg k1, if_neg k1]
    by_cases k0 : k = 0
    · subst k0
      by_cases hm : m = 0 <;> by_cases he : e = 0 <;> simp [hm, he]
    · rw [if_neg k0]
      by_cases k2 : k = 2
      · subst k2
        by_cases hm : m = 0 <;> by_cases he : e = 0 <;> simp [hm, he]
      · rw [if_neg k2]
        by_cases k3 : k = 3
        · subst k3
          by_cases hm : m = 0 <;> by_cases he : e = 0 <;> cases s <;> simp [hm, he]
        · simp [k0, k2, k3]
theorem ev_spec_FlOk (k : Int) (s : Bool) (m e : Int) : Ev (fun n => spec_FlOk.f n k s m e) (flOkB k s m e) := Ev.of (fun n => spec_FlOk.mono k s m e n) (spec_FlOk_1 k s m e)

/-! #### FlOkM -/
theorem flOk_num {s : Bool} {m e : Int} (h : flOkB 1 s m e = true) : -1074 ≤ e ∧ e ≤ 971 ∧ 1 ≤ m ∧ m ≤ 9007199254740991 ∧ (4503599627370496 ≤ m ∨ e = -1074) := by
  simpa [flOkB] using h
theorem flOk_kind {k : Int} {s : Bool} {m e : Int} (h : flOkB k s m e = true) : k = 0 ∨ k = 1 ∨ k = 2 ∨ k = 3 := by
  unfold flOkB at h
  by_cases k1 : k = 1
  · exact .inr (.inl k1)
  rw [if_neg k1] at h
  by_cases k2 : k = 0 ∨ k = 2
  · omega
  rw [if_neg k2] at h
  simp at h; omega
theorem flOk_zero {k : Int} {s : Bool} {m e : Int} (h : flOkB k s m e = true) (hk : k ≠ 1) : m = 0 ∧ e = 0 ∧ (k = 3 → s = false) := by
  unfold flOkB at h
  rw [if_neg hk] at h
  by_cases k2 : k = 0 ∨ k = 2
  · rw [if_pos k2] at h
    simp at h
    exact ⟨h.1, h.2, fun e => by omega⟩
  rw [if_neg k2] at h
  simp at h
  exact ⟨h.2.1, h.2.2.1, fun _ => h.2.2.2⟩

/-! #### small -/
theorem ev_impl_small (n : Int) (h1 : n ≤ 9223372036854775807) : Ev (fun k => impl_small.f k n) (dig n) := by
  unfold impl_small.f dig
  have key : ∀ f : Nat, ∀ x : Int, ∀ acc : List Int, x < pw f → x ≤ 9223372036854775807 → acc.length + f < 1000 → Ev (fun k => impl_small.l0 k x acc) (acc ++ digF f x) := by
    intro f
    induction f with
    | zero =>
      intro x acc hx hb ha
      simp [pw] at hx
      refine Ev.step (f := fun _ => some (acc ++ digF 0 x)) (fun k => ?_) (Ev.now _)
      simp only [impl_small.l0]
      rw [if_neg (by omega)]; simp [digF]
    | succ f ih =>
      intro x acc hx hb ha
      by_cases h : x ≤ 0
      · refine Ev.step (f := fun _ => some (acc ++ digF (f + 1) x)) (fun k => ?_) (Ev.now _)
        simp only [impl_small.l0]
        rw [if_neg (by omega)]; simp [digF, h]
      · have e : acc ++ digF (f + 1) x = (acc ++ [x % 65536]) ++ digF f (x / 65536) := by
          simp [digF, h]
        rw [e]
        simp only [pw] at hx
        refine Ev.step (f := fun k => impl_small.l0 k (x / 65536) (acc ++ [x % 65536])) (fun k => ?_) (ih _ _ (by omega) (by omega) (by simp; omega))
        simp only [impl_small.l0]
        rw [if_pos (by omega), if_pos (by omega), td _ _ (by omega), tm _ _ (by omega), w64 (by omega) (by omega)]
  have := key 4 n [] (by rw [pw4]; omega) h1 (by simp)
  simpa using this

/-! #### law_FnExactFlCmp -/
/-- The reference's number of a float that is one: sign, magnitude, power. -/
theorem spec_flnum (s : Bool) (m e : Int) (h : flOkB 1 s m e = true) : ∃ (q : List Int) (z : Int), Ev (fun k => spec_l5dy.f k 1 s m e) (s, q, z) ∧ Norm q ∧ q ≠ [] ∧ q.length ≤ 4 ∧ -2000 ≤ z ∧ z ≤ 2000 ∧ ∀ t : Bool, xv t (val q) z = xv t m e := by
  have hn := flOk_num h
  have dn : dig m ≠ [] := by
    intro y
    have := dig_val (n := m) (by omega) (by omega)
    rw [y] at this
    simp [val] at this
    omega
  have dl := dig_len m
  have nd := dig_norm (n := m) (by omega) (by omega)
  obtain ⟨q, z, q1, q2, q3, q4, q5, q6, _, q7⟩ := ev_spec_l4make_x s (dig m) e nd dn (by omega) (by omega) (by omega)
  have mk := ev_spec_l3make s (dig m) nd (by omega)
  have es : (s && !(dig m).isEmpty) = s := by
    cases hd : dig m with
    | nil => exact absurd hd dn
    | cons c q => simp
  rw [es] at mk
  refine ⟨q, z, ?_, q2, q3, by omega, by omega, by omega, fun t => ?_⟩
  · unfold spec_l5dy.f
    exact ev_if_pos rfl (Ev.bind (ev_spec_l2of m (by omega)) (Ev.bind mk (Ev.bind q1 (Ev.now _))))
  · rw [q7 t, dig_val (by omega) (by omega)]
theorem spec_flzero (k : Int) (s : Bool) (m e : Int) (hk : k ≠ 1) : Ev (fun n => spec_l5dy.f n k s m e) (false, [], 0) := by
  unfold spec_l5dy.f
  exact ev_if_neg hk (Ev.now _)
/-- What a float that is a number is worth. -/
def fv (k : Int) (s : Bool) (m e : Int) : Int := if k = 1 then xv s m e else 0
theorem spec_fl (k : Int) (s : Bool) (m e : Int) (h : flOkB k s m e = true) : ∃ (t : Bool) (q : List Int) (z : Int), Ev (fun n => spec_l5dy.f n k s m e) (t, q, z) ∧ Norm q ∧ (t = true → q ≠ []) ∧ q.length ≤ 4 ∧ -2000 ≤ z ∧ z ≤ 2000 ∧ xv t (val q) z = fv k s m e := by
  by_cases hk : k = 1
  · subst hk
    obtain ⟨q, z, q1, q2, q3, q4, q5, q6, q7⟩ := spec_flnum s m e h
    exact ⟨s, q, z, q1, q2, fun _ => q3, q4, q5, q6, by rw [q7]; rfl⟩
  · exact ⟨false, [], 0, spec_flzero k s m e hk, Norm.nil, (fun h => by cases h), by simp, by omega, by omega, by unfold fv; rw [if_neg hk, show val [] = 0 from rfl, xv_zero]⟩
theorem impl_fl (k : Int) (s : Bool) (m e : Int) (h : flOkB k s m e = true) : ∃ (t : Bool) (q : List Int), Ev (fun n => impl_Fl_exact.f n k s m e) (t, q, e) ∧ Norm q ∧ (t = true → q ≠ []) ∧ q.length ≤ 4 ∧ -2000 ≤ e ∧ e ≤ 2000 ∧ xv t (val q) e = fv k s m e := by
  have hm : 0 ≤ m ∧ m ≤ 9007199254740991 ∧ -2000 ≤ e ∧ e ≤ 2000 ∧ (k ≠ 1 → m = 0) ∧ (k = 1 → 1 ≤ m) := by
    by_cases hk : k = 1
    · subst hk
      have := flOk_num h
      omega
    · have := flOk_zero h hk
      omega
  have dv := dig_val (n := m) (by omega) (by omega)
  have nd := dig_norm (n := m) (by omega) (by omega)
  have hs := ev_impl_small m (by omega)
  refine ⟨s && decide (k = 1), dig m, ?_, nd, ?_, by have := dig_len m; omega, by omega, by omega, ?_⟩
  · unfold impl_Fl_exact.f
    cases s
    · exact ev_if_neg (by simp) (Ev.bind hs (Ev.now _))
    · refine ev_if_pos rfl (Ev.bind hs ?_)
      have e1 : (k == 1) = (true && decide (k = 1)) := by
        by_cases hk : k = 1 <;> simp [hk]
      rw [e1]
      exact Ev.now _
  · intro ht hq
    rw [hq] at dv
    simp only [val] at dv
    simp at ht
    omega
  · unfold fv
    rw [dv]
    by_cases hk : k = 1
    · rw [if_pos hk]; simp [hk]
    · rw [if_neg hk, hm.2.2.2.2.1 hk, xv_zero]
/-- How two valid floats compare, none of them FkNan. -/
def flRank (k : Int) (s : Bool) : Int := if k = 2 then (if s = true then -1 else 1) else 0
def flCmpV (k : Int) (s : Bool) (m e : Int) (k' : Int) (s' : Bool) (m' e' : Int) : Int :=
  if k = 2 ∨ k' = 2 then cmpI (flRank k s) (flRank k' s') else cmpI (fv k s m e) (fv k' s' m' e')
theorem ev_spec_FlCmp_ok (k : Int) (s : Bool) (m e : Int) (k' : Int) (s' : Bool) (m' e' : Int) (h : flOkB k s m e = true) (h' : flOkB k' s' m' e' = true) (n1 : k ≠ 3) (n2 : k' ≠ 3) :
    Ev (fun n => spec_FlCmp.f n k s m e k' s' m' e') (flCmpV k s m e k' s' m' e', true) := by
  unfold spec_FlCmp.f
  refine Ev.bind (ev_spec_FlOk k s m e) (ev_if_pos h (Ev.bind (ev_spec_FlOk k' s' m' e') (ev_if_pos h' (ev_if_neg n1 ?_))))
  refine Ev.step (fun n => by simp only [spec_FlCmp.j0]; rfl) (ev_if_neg (by simpa using n2) ?_)
  have hr : ∀ (k : Int) (s : Bool) (m e : Int), spec_l5rank.f k s m e = some (2 * flRank k s) := by
    intro k s m e
    unfold spec_l5rank.f flRank
    by_cases c : k = 2
    · rw [if_pos c, if_pos c]; cases s <;> simp
    · rw [if_neg c, if_neg c]; rfl
  refine ev_bind0 (hr _ _ _ _) (ev_bind0 (hr _ _ _ _) ?_)
  have rb : ∀ (k : Int) (s : Bool), (k = 2 → flRank k s = 1 ∨ flRank k s = -1) ∧ (k ≠ 2 → flRank k s = 0) := by
    intro k s
    unfold flRank
    constructor
    · intro c; rw [if_pos c]; cases s <;> simp
    · intro c; rw [if_neg c]
  have r1 := rb k s
  have r2 := rb k' s'
  have cmp : k = 2 ∨ k' = 2 → Ev (fun n => spec_FlCmp.j1 n (2 * flRank k s) (2 * flRank k' s') true k s m e k' s' m' e') (flCmpV k s m e k' s' m' e', true) := by
    intro c
    refine Ev.step (fun n => by simp only [spec_FlCmp.j1]; rfl) (ev_if_pos (by trivial) ?_)
    unfold flCmpV
    rw [if_pos c]
    by_cases lt : flRank k s < flRank k' s'
    · rw [cmpI_lt lt]; exact ev_if_pos (by omega) (Ev.now _)
    · by_cases gt : flRank k' s' < flRank k s
      · rw [cmpI_gt gt]; exact ev_if_neg (by omega) (ev_if_pos (by omega) (Ev.now _))
      · rw [cmpI_eq (by omega)]; exact ev_if_neg (by omega) (ev_if_neg (by omega) (Ev.now _))
  by_cases c : k = 2
  · by_cases q : 2 * flRank k s = 2 * flRank k' s'
    · refine ev_if_pos q ?_
      by_cases p : 2 * flRank k s = 2
      · exact ev_if_pos p (cmp (.inl c))
      · refine ev_if_neg p ?_
        have hb : (2 * flRank k s == -2) = true := by
          have := r1.1 c
          simp
          omega
        rw [hb]
        exact cmp (.inl c)
    · exact ev_if_neg q (cmp (.inl c))
  · by_cases c' : k' = 2
    · exact ev_if_neg (by have := r1.2 c; have := r2.1 c'; omega) (cmp (.inr c'))
    · have z1 := r1.2 c
      have z2 := r2.2 c'
      rw [z1, z2]
      refine ev_if_pos rfl (ev_if_neg (by omega) ?_)
      refine Ev.step (fun n => by simp only [spec_FlCmp.j1]; rfl) (ev_if_neg (by simp) ?_)
      obtain ⟨t, q, z, q1, q2, q3, q4, q5, q6, q7⟩ := spec_fl k s m e h
      obtain ⟨t', p, y, p1, p2, p3, p4, p5, p6, p7⟩ := spec_fl k' s' m' e' h'
      have hc := ev_spec_l4cmp t q z t' p y q2 p2 (by omega) (by omega) (by omega) (by omega) (by omega) (by omega) q3 p3
      rw [q7, p7] at hc
      unfold flCmpV
      rw [if_neg (by omega)]
      exact Ev.bind q1 (Ev.bind p1 (Ev.bind hc (Ev.now _)))
theorem ev_impl_FlCmp_ok (k : Int) (s : Bool) (m e : Int) (k' : Int) (s' : Bool) (m' e' : Int) (h : flOkB k s m e = true) (h' : flOkB k' s' m' e' = true) (n1 : k ≠ 3) (n2 : k' ≠ 3) :
    Ev (fun n => impl_FlCmp.f n k s m e k' s' m' e') (flCmpV k s m e k' s' m' e', true) := by
  unfold impl_FlCmp.f
  have hk : impl_hasKind.f 3 k s m e k' s' m' e' = some false := by
    unfold impl_hasKind.f
    rw [if_neg n1]
    simp [n2]
  refine ev_bind0 (impl_FlOk_eq k s m e) (ev_if_pos h (ev_bind0 (impl_FlOk_eq k' s' m' e') (ev_if_pos h' (ev_bind0 hk (ev_if_neg (by simp) ?_)))))
  have hr : ∀ (k : Int) (s : Bool) (m e : Int), impl_compareFloats_1.f k s m e = some (flRank k s) := by
    intro k s m e
    unfold impl_compareFloats_1.f flRank
    by_cases c : k = 2
    · rw [if_pos c, if_pos c]; cases s <;> rfl
    · rw [if_neg c, if_neg c]
  have rb : ∀ (k : Int) (s : Bool), (k = 2 → flRank k s = 1 ∨ flRank k s = -1) ∧ (k ≠ 2 → flRank k s = 0) := by
    intro k s
    unfold flRank
    constructor
    · intro c; rw [if_pos c]; cases s <;> simp
    · intro c; rw [if_neg c]
  have r1 := rb k s
  have r2 := rb k' s'
  refine Ev.bind (a := flCmpV k s m e k' s' m' e') ?_ (Ev.now _)
  unfold impl_compareFloats.f
  refine ev_bind0 (hr _ _ _ _) (ev_bind0 (hr _ _ _ _) (ev_bind0 (cmp_Compare_eq _ _) ?_))
  by_cases c : k = 2 ∨ k' = 2
  · have ev : flCmpV k s m e k' s' m' e' = cmpI (flRank k s) (flRank k' s') := by unfold flCmpV; rw [if_pos c]
    rw [ev]
    by_cases q : cmpI (flRank k s) (flRank k' s') = 0
    · refine ev_if_pos q (ev_bind0 (hr _ _ _ _) ?_)
      have hb : (flRank k s != 0) = true := by
        have e1 : flRank k s = flRank k' s' := by
          unfold cmpI at q
          by_cases l : flRank k s < flRank k' s'
          · rw [if_pos l] at q; omega
          · rw [if_neg l] at q
            by_cases g : flRank k s > flRank k' s'
            · rw [if_pos g] at q; omega
            · omega
        simp
        rcases c with c | c
        · have := r1.1 c; omega
        · have := r2.1 c; omega
      rw [hb]
      exact Ev.step (fun n => by simp only [impl_compareFloats.j0]; rfl) (ev_if_pos (by trivial) (Ev.now _))
    · refine ev_if_neg q ?_
      exact Ev.step (fun n => by simp only [impl_compareFloats.j0]; rfl) (ev_if_pos (by trivial) (Ev.now _))
  · have z1 := r1.2 (by omega)
    have z2 := r2.2 (by omega)
    rw [z1, z2]
    refine ev_if_pos (cmpI_eq rfl) (ev_bind0 (hr _ _ _ _) ?_)
    rw [z1]
    refine Ev.step (fun n => by simp only [impl_compareFloats.j0]; rfl) (ev_if_neg (by simp) ?_)
    obtain ⟨t, q, q1, q2, q3, q4, q5, q6, q7⟩ := impl_fl k s m e h
    obtain ⟨t', p, p1, p2, p3, p4, p5, p6, p7⟩ := impl_fl k' s' m' e' h'
    have hc := ev_impl_exact_compare t q e t' p e' q2 p2 (by omega) (by omega) (by omega) (by omega) (by omega) (by omega) q3 p3
    rw [q7, p7] at hc
    unfold flCmpV
    rw [if_neg c]
    exact Ev.bind q1 (Ev.bind p1 (Ev.bind hc (Ev.now _)))
theorem flcmp_agree (k : Int) (s : Bool) (m e : Int) (k' : Int) (s' : Bool) (m' e' : Int) : ∃ r : Int × Bool, Ev (fun n => spec_FlCmp.f n k s m e k' s' m' e') r ∧ Ev (fun n => impl_FlCmp.f n k s m e k' s' m' e') r := by
  have bad : ∀ k s m e k' s' m' e', Ev (fun n => spec_FlCmp.j0 n true k s m e k' s' m' e') (0, false) := fun k s m e k' s' m' e' => Ev.step (fun n => by simp only [spec_FlCmp.j0]; rfl) (ev_if_pos (by trivial) (Ev.now _))
  by_cases h : flOkB k s m e = true
  · by_cases h' : flOkB k' s' m' e' = true
    · by_cases n1 : k = 3
      · refine ⟨(0, false), ?_, ?_⟩
        · unfold spec_FlCmp.f
          exact Ev.bind (ev_spec_FlOk k s m e) (ev_if_pos h (Ev.bind (ev_spec_FlOk k' s' m' e') (ev_if_pos h' (ev_if_pos n1 (bad _ _ _ _ _ _ _ _)))))
        · unfold impl_FlCmp.f
          refine ev_bind0 (impl_FlOk_eq k s m e) (ev_if_pos h (ev_bind0 (impl_FlOk_eq k' s' m' e') (ev_if_pos h' (ev_bind0 (a := true) ?_ (ev_if_pos rfl (Ev.now _))))))
          unfold impl_hasKind.f
          rw [if_pos n1]
      · by_cases n2 : k' = 3
        · refine ⟨(0, false), ?_, ?_⟩
          · unfold spec_FlCmp.f
            refine Ev.bind (ev_spec_FlOk k s m e) (ev_if_pos h (Ev.bind (ev_spec_FlOk k' s' m' e') (ev_if_pos h' (ev_if_neg n1 ?_))))
            rw [show (k' == 3) = true by simp [n2]]
            exact bad _ _ _ _ _ _ _ _
          · unfold impl_FlCmp.f
            refine ev_bind0 (impl_FlOk_eq k s m e) (ev_if_pos h (ev_bind0 (impl_FlOk_eq k' s' m' e') (ev_if_pos h' (ev_bind0 (a := true) ?_ (ev_if_pos rfl (Ev.now _))))))
            unfold impl_hasKind.f
            rw [if_neg n1]
            simp [n2]
        · exact ⟨_, ev_spec_FlCmp_ok k s m e k' s' m' e' h h' n1 n2, ev_impl_FlCmp_ok k s m e k' s' m' e' h h' n1 n2⟩
    · refine ⟨(0, false), ?_, ?_⟩
      · unfold spec_FlCmp.f
        exact Ev.bind (ev_spec_FlOk k s m e) (ev_if_pos h (Ev.bind (ev_spec_FlOk k' s' m' e') (ev_if_neg h' (bad _ _ _ _ _ _ _ _))))
      · unfold impl_FlCmp.f
        exact ev_bind0 (impl_FlOk_eq k s m e) (ev_if_pos h (ev_bind0 (impl_FlOk_eq k' s' m' e') (ev_if_neg h' (Ev.now _))))
  · refine ⟨(0, false), ?_, ?_⟩
    · unfold spec_FlCmp.f
      exact Ev.bind (ev_spec_FlOk k s m e) (ev_if_neg h (bad _ _ _ _ _ _ _ _))
    · unfold impl_FlCmp.f
      exact ev_bind0 (impl_FlOk_eq k s m e) (ev_if_neg h (Ev.now _))
theorem FnExactFlCmp : laws_FnExactFlCmp.Pure := by
  intro k s m e k' s' m' e'
  intros
  have ev : Ev (fun n => laws_FnExactFlCmp.f n k s m e k' s' m' e') true := by
    unfold laws_FnExactFlCmp.f laws_toFl.f
    obtain ⟨r, h1, h2⟩ := flcmp_agree k s m e k' s' m' e'
    refine ev_bind0 rfl (ev_bind0 rfl (Ev.bind h1 (ev_bind0 rfl (ev_bind0 rfl (Ev.bind h2 (ev_if_pos rfl (ev_if_neg (by simp) (Ev.now _))))))))
  exact ev.rounds

end Go.Proofs.Ytgjpahofopoflaa.Pure
