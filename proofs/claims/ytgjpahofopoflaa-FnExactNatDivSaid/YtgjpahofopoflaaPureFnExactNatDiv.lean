/- The pure statement of the law FnExactNatDiv: at every input that its guards let in the program's answer is the reference's. -/
import Derived.Test.YtgjpahofopoflaaPFnExactNatDivx24
import Derived.Test.YtgjpahofopoflaaVFnExactNatDivb
import Derived.WalkKit
namespace Go.Proofs.Ytgjpahofopoflaa.Pure
open Go.RowKit Go.Proofs.Ytgjpahofopoflaa.PFnExactNatDiv Go.Proofs.YtgjpahofopoflaaW.PrintWords Go.Proofs.YtgjpahofopoflaaW.PrintLast Go.Proofs.Ytgjpahofopoflaa.Lib
set_option linter.unusedVariables false
set_option linter.unusedSimpArgs false

/-! #### l2norm -/
theorem ev_spec_l2norm (l : List Int) (hb : l.length ≤ 1000000000) : Ev (fun k => spec_l2norm.f k l) (strip l) := by
  unfold spec_l2norm.f
  have key : ∀ n : Nat, n ≤ l.length → strip (l.take n) = strip l → Ev (fun k => spec_l2norm.l0 k l (n : Int)) (strip l) := by
    intro n
    induction n with
    | zero =>
      intro _ hs
      refine Ev.step (f := fun _ => some (strip l)) (fun k => ?_) (Ev.now _)
      simp only [spec_l2norm.l0, Option.bind_some]
      rw [if_neg (by omega), if_pos (by omega), if_pos (by omega), if_pos (by simp)]
      simpa [strip] using hs
    | succ n ih =>
      intro hn hs
      by_cases h0 : l[n] = 0
      · refine Ev.step (f := fun k => spec_l2norm.l0 k l (n : Int)) (fun k => ?_) (ih (by omega) ?_)
        · simp only [spec_l2norm.l0]
          rw [show ((n + 1 : Nat) : Int) - 1 = (n : Int) by omega, w64 (x := (n : Int)) (by omega) (by omega), if_pos (by omega), if_pos (by omega), if_pos (by omega), rd_get _ _ (by omega), if_pos h0]
        · rw [← hs, strip_take_zero (by omega) h0]
      · refine Ev.step (f := fun _ => some (strip l)) (fun k => ?_) (Ev.now _)
        simp only [spec_l2norm.l0, Option.bind_some]
        rw [show ((n + 1 : Nat) : Int) - 1 = (n : Int) by omega, w64 (x := (n : Int)) (by omega) (by omega), if_pos (by omega), if_pos (by omega), if_pos (by omega), rd_get _ _ (by omega), if_neg h0, if_pos (by omega), if_pos (by omega), if_pos (by simp; omega)]
        rw [← hs, strip_take_ne (by omega) h0]
        simp
  have := key l.length (Nat.le_refl _) (by simp)
  exact this

/-! #### l2mul -/
theorem mul_step (S P y t c p V : Int) (h : S + c * P = V) (ht : t = y + p + c) : S + (t % 65536 - y) * P + (t / 65536) * (65536 * P) = V + p * P := by
  have e := Int.mul_ediv_add_emod t 65536
  generalize t / 65536 = q at *
  generalize t % 65536 = r at *
  grind
theorem val_set (l : List Int) (i : Nat) (x : Int) (h : i < l.length) : val (l.set i x) = val l + (x - rd l (i : Int)) * pw i := by
  have h1 := val_take_drop (l.set i x) i (by simp; omega)
  have h2 := val_take_drop l i (by omega)
  rw [val_set_drop l i x h, List.take_set_of_le (by omega)] at h1
  rw [val_drop_at h] at h2
  rw [h1, h2]
  grind
theorem rd_set (l : List Int) (i j : Nat) (x : Int) (h : i < l.length) : rd (l.set i x) (j : Int) = if i = j then x else rd l (j : Int) := by
  rw [rd_nat, rd_nat, List.getD_eq_getElem?_getD, List.getD_eq_getElem?_getD, List.getElem?_set]
  by_cases e : i = j
  · subst e; simp [h]
  · simp [e]
theorem val_take_succ (l : List Int) (k : Nat) (h : k < l.length) : val (l.take (k + 1)) = val (l.take k) + pw k * rd l (k : Int) := by
  rw [take_snoc h, val_snoc, List.length_take, Nat.min_eq_left (by omega), rd_get _ _ h]
theorem mul_bound {x y : Int} (hx : 0 ≤ x ∧ x ≤ 65535) (hy : 0 ≤ y ∧ y ≤ 65535) : 0 ≤ x * y ∧ x * y ≤ 4294836225 := by
  refine ⟨Int.mul_nonneg hx.1 hy.1, ?_⟩
  exact Int.le_trans (Int.mul_le_mul hx.2 hy.2 hy.1 (by omega)) (by omega)
theorem spec_mul_row (a b : List Int) (ha : Limbs a) (hb : Limbs b) (hl : a.length ≤ 1000000) (hl2 : b.length ≤ 1000000) (i : Nat) (hi : i < a.length) (V0 : Int) (d : Nat) :
    ∀ (k : Nat) (out : List Int) (c : Int), k + d = b.length → out.length = a.length + b.length → Limbs out → 0 ≤ c → c ≤ 65535 → (∀ j : Nat, i + b.length ≤ j → rd out (j : Int) = 0) → val out + c * pw (i + k) = V0 + rd a (i : Int) * val (b.take k) * pw i →
      ∃ out' : List Int, out'.length = a.length + b.length ∧ Limbs out' ∧ (∀ j : Nat, i + 1 + b.length ≤ j → rd out' (j : Int) = 0) ∧ val out' = V0 + rd a (i : Int) * val b * pw i ∧
        ∀ r, Ev (fun n => spec_l2mul.l0 n out' ((i + 1 : Nat) : Int) a b) r → Ev (fun n => spec_l2mul.l1 n out (i : Int) c (k : Int) a b) r := by
  induction d with
  | zero =>
    intro k out c hk hlen ho c0 c1 hz hv
    have hkk : k = b.length := by omega
    subst hkk
    have w : wrap64 ((i : Int) + (b.length : Int)) = ((i + b.length : Nat) : Int) := by rw [w64 (by omega) (by omega)]; omega
    have z := hz (i + b.length) (Nat.le_refl _)
    refine ⟨out.set (i + b.length) c, by simpa using hlen, ho.set _ c0 c1, ?_, ?_, ?_⟩
    · intro j hj
      rw [rd_set _ _ _ _ (by omega), if_neg (by omega)]
      exact hz j (by omega)
    · rw [val_set _ _ _ (by omega), z, Int.sub_zero, hv, List.take_length]
    · intro r hr
      refine Ev.step (fun n => by simp only [spec_l2mul.l1]; rfl) (ev_if_neg (by omega) ?_)
      rw [w, z, w64 (x := 0 + c) (by omega) (by omega), w64 (x := (i : Int) + 1) (by omega) (by omega), Int.zero_add]
      exact ev_if_pos (by omega) (ev_if_pos (by omega) hr)
  | succ d ih =>
    intro k out c hk hlen ho c0 c1 hz hv
    have w : wrap64 ((i : Int) + (k : Int)) = ((i + k : Nat) : Int) := by rw [w64 (by omega) (by omega)]; omega
    have hik : i + k < out.length := by
      clear hv hz
      omega
    have hkb : k < b.length := by
      clear hv hz
      omega
    have x1 := rd_limb ha (i : Int)
    have x2 := rd_limb hb (k : Int)
    have x3 := rd_limb ho ((i + k : Nat) : Int)
    have mb := mul_bound x1 x2
    have tb : 0 ≤ rd out ((i + k : Nat) : Int) + rd a (i : Int) * rd b (k : Int) + c ∧ rd out ((i + k : Nat) : Int) + rd a (i : Int) * rd b (k : Int) + c ≤ 4294967295 := by omega
    generalize ht : rd out ((i + k : Nat) : Int) + rd a (i : Int) * rd b (k : Int) + c = t at *
    have tq : (0 ≤ t % 65536 ∧ t % 65536 ≤ 65535) ∧ 0 ≤ t / 65536 ∧ t / 65536 ≤ 65535 := by
      clear hv hz ih mb
      omega
    have nlen : (out.set (i + k) (t % 65536)).length = a.length + b.length := by simpa using hlen
    have nz : ∀ j : Nat, i + b.length ≤ j → rd (out.set (i + k) (t % 65536)) (j : Int) = 0 := by
      intro j hj
      have hne : ¬ i + k = j := by
        clear hv hz ih tq tb mb x1 x2 x3
        omega
      rw [rd_set _ _ _ _ hik, if_neg hne]
      exact hz j hj
    have nv : val (out.set (i + k) (t % 65536)) + t / 65536 * pw (i + (k + 1)) = V0 + rd a (i : Int) * val (b.take (k + 1)) * pw i := by
      have ht' : t = rd out ((i + k : Nat) : Int) + rd a (i : Int) * rd b (k : Int) + c := ht.symm
      have hs := mul_step (val out) (pw (i + k)) (rd out ((i + k : Nat) : Int)) t c (rd a (i : Int) * rd b (k : Int)) _ hv ht'
      rw [val_set _ _ _ hik, val_take_succ _ _ hkb, show i + (k + 1) = (i + k) + 1 from rfl, show pw (i + k + 1) = 65536 * pw (i + k) from rfl, hs, pw_add]
      clear hs hv hz nz ih tb tq
      grind
    have hkd : k + 1 + d = b.length := by
      clear hv hz nv nz mb tb tq ih
      omega
    clear hv hz
    obtain ⟨out', g1, g2, g3, g4, g5⟩ := ih (k + 1) _ _ hkd nlen (ho.set _ tq.1.1 tq.1.2) tq.2.1 tq.2.2 nz nv
    have g4_ := g4
    clear ih nv nz g4
    refine ⟨out', g1, g2, g3, g4_, fun r hr => ?_⟩
    refine Ev.step (fun n => by simp only [spec_l2mul.l1]; rfl) (ev_if_pos (by omega) ?_)
    rw [w, w64 (x := rd a (i : Int) * rd b (k : Int)) (by omega) (by omega), w64 (x := rd out ((i + k : Nat) : Int) + rd a (i : Int) * rd b (k : Int)) (by omega) (by omega), ht, w64 (x := t) (by omega) (by omega), td t _ (by omega), tm t _ (by omega), w64 (x := t / 65536) (by omega) (by omega), w64 (x := (k : Int) + 1) (by omega) (by omega)]
    exact ev_if_pos (by omega) (ev_if_pos (by omega) (ev_if_pos (by omega) (ev_if_pos (by omega) (ev_if_pos (by omega) (g5 r hr)))))
theorem spec_mul_rows (a b : List Int) (ha : Limbs a) (hb : Limbs b) (hl : a.length ≤ 1000000) (hl2 : b.length ≤ 1000000) (d : Nat) :
    ∀ (i : Nat) (out : List Int), i + d = a.length → out.length = a.length + b.length → Limbs out → (∀ j : Nat, i + b.length ≤ j → rd out (j : Int) = 0) → val out = val (a.take i) * val b →
      ∃ q : List Int, Ev (fun n => spec_l2mul.l0 n out (i : Int) a b) q ∧ Norm q ∧ val q = val a * val b ∧ q.length ≤ a.length + b.length := by
  induction d with
  | zero =>
    intro i out hi hlen ho hz hv
    have hii : i = a.length := by omega
    subst hii
    refine ⟨strip out, ?_, strip_norm ho, by rw [val_strip, hv, List.take_length], by have := strip_len out; omega⟩
    refine Ev.step (fun n => by simp only [spec_l2mul.l0]; rfl) (ev_if_neg (by omega) ?_)
    exact Ev.bind (ev_spec_l2norm out (by omega)) (Ev.now _)
  | succ d ih =>
    intro i out hi hlen ho hz hv
    obtain ⟨out', g1, g2, g3, g4, g5⟩ := spec_mul_row a b ha hb hl hl2 i (by omega) (val out) b.length 0 out 0 (by omega) hlen ho (by omega) (by omega) hz (by simp [val])
    obtain ⟨q, q1, q2, q3, q4⟩ := ih (i + 1) out' (by omega) g1 g2 g3 (by
      rw [g4, hv, val_take_succ _ _ (by omega)]
      grind)
    refine ⟨q, ?_, q2, q3, q4⟩
    refine Ev.step (fun n => by simp only [spec_l2mul.l0]; rfl) (ev_if_pos (by omega) ?_)
    exact g5 q q1
theorem ev_spec_l2mul (a b : List Int) (ha : Limbs a) (hb : Limbs b) (hl : a.length ≤ 1000000) (hl2 : b.length ≤ 1000000) : ∃ q : List Int, Ev (fun n => spec_l2mul.f n a b) q ∧ Norm q ∧ val q = val a * val b ∧ q.length ≤ a.length + b.length := by
  obtain ⟨q, q1, q2, q3, q4⟩ := spec_mul_rows a b ha hb hl hl2 a.length 0 (List.replicate (a.length + b.length) 0) (by omega) (by simp) (Limbs.zeros _) (by
    intro j _
    rw [rd_nat, List.getD_eq_getElem?_getD, List.getElem?_replicate]
    split <;> rfl) (by rw [val_zeros]; simp [val])
  refine ⟨q, ?_, q2, q3, q4⟩
  unfold spec_l2mul.f
  have w : wrap64 ((a.length : Int) + (b.length : Int)) = ((a.length + b.length : Nat) : Int) := by rw [w64 (by omega) (by omega)]; omega
  rw [w]
  refine ev_if_pos (by omega) (ev_if_pos (by omega) ?_)
  rw [Int.toNat_natCast]
  exact q1

/-! #### kdigit -/
/-- The least estimate is not too small. -/
theorem kd_upper {P V U T q r v1 v2 vr u3 ur : Int} (hP : 1 ≤ P) (hV : V = vr + P * (v2 + 65536 * v1)) (hU : U = ur + P * (u3 + 65536 * T)) (h1 : 0 ≤ vr) (h2 : 0 ≤ v2) (h3 : ur < P) (h4 : u3 ≤ 65535) (hv1 : 1 ≤ v1)
    (hq : q * v1 + r = T) (hr : r < v1) (q0 : 0 ≤ q) (qt : Int) (ht : qt * V ≤ U) : qt ≤ q := by
  by_cases h : qt ≤ q
  · exact h
  · have hVp : 0 ≤ V := by
      have : 0 ≤ P * (v2 + 65536 * v1) := Int.mul_nonneg (by omega) (by omega)
      omega
    have a1 : (q + 1) * V ≤ qt * V := Int.mul_le_mul_of_nonneg_right (by omega) hVp
    have a2 : (q + 1) * v1 ≥ T + 1 := by rw [Int.add_mul]; omega
    have a3 : P * (65536 * v1) ≤ V := by
      have : P * (65536 * v1) ≤ P * (v2 + 65536 * v1) := Int.mul_le_mul_of_nonneg_left (by omega) (by omega)
      omega
    have a4 : (q + 1) * (P * (65536 * v1)) ≤ (q + 1) * V := Int.mul_le_mul_of_nonneg_left a3 (by omega)
    have a5 : (q + 1) * (P * (65536 * v1)) = P * 65536 * ((q + 1) * v1) := by grind
    have a6 : P * 65536 * (T + 1) ≤ P * 65536 * ((q + 1) * v1) := Int.mul_le_mul_of_nonneg_left a2 (by omega)
    have a7 : P * (u3 + 65536 * T) ≤ P * (65535 + 65536 * T) := Int.mul_le_mul_of_nonneg_left (by omega) (by omega)
    have a8 : P * (65535 + 65536 * T) + P = P * 65536 * (T + 1) := by grind
    omega
/-- Where the test tells it, the estimate is too great. -/
theorem kd_over {P V U T q r v1 v2 vr u3 ur : Int} (hP : 1 ≤ P) (hV : V = vr + P * (v2 + 65536 * v1)) (hU : U = ur + P * (u3 + 65536 * T)) (h1 : 0 ≤ vr) (hv2 : 0 ≤ v2) (hv1 : 1 ≤ v1) (h3 : ur < P)
    (hq : q * v1 + r = T) (q0 : 0 ≤ q) (hlt : r * 65536 + u3 < q * v2) (qt : Int) (ht : qt * V ≤ U) : qt ≤ q - 1 := by
  by_cases h : qt ≤ q - 1
  · exact h
  · have hVp : 0 ≤ V := by
      have : 0 ≤ P * (v2 + 65536 * v1) := Int.mul_nonneg (by omega) (by omega)
      omega
    have a1 : q * V ≤ qt * V := Int.mul_le_mul_of_nonneg_right (by omega) hVp
    have a2 : q * (P * (v2 + 65536 * v1)) ≤ q * V := Int.mul_le_mul_of_nonneg_left (by omega) q0
    have a3 : q * (P * (v2 + 65536 * v1)) = P * (q * v2 + 65536 * (q * v1)) := by grind
    have a4 : u3 + 65536 * T + 1 ≤ q * v2 + 65536 * (q * v1) := by omega
    have a5 : P * (u3 + 65536 * T + 1) ≤ P * (q * v2 + 65536 * (q * v1)) := Int.mul_le_mul_of_nonneg_left a4 (by omega)
    have a6 : P * (u3 + 65536 * T + 1) = P * (u3 + 65536 * T) + P := by grind
    omega
/-- Where the test is passed, the estimate is at the most 1 too great. -/
theorem kd_lower {P V U T q r v1 v2 vr u3 ur : Int} (hP : 1 ≤ P) (hV : V = vr + P * (v2 + 65536 * v1)) (hU : U = ur + P * (u3 + 65536 * T)) (h1 : 0 ≤ vr) (h1' : vr < P) (hv2 : 0 ≤ v2) (hv1 : 32768 ≤ v1) (h3 : 0 ≤ ur) (hu3 : 0 ≤ u3) (hT : 0 ≤ T)
    (hq : q * v1 + r = T) (q0 : 0 ≤ q) (q1 : q ≤ 65535) (hle : q * v2 ≤ r * 65536 + u3) : (q - 1) * V ≤ U := by
  have hU0 : P * (q * v2 + 65536 * (q * v1)) ≤ P * (u3 + 65536 * T) := Int.mul_le_mul_of_nonneg_left (by omega) (by omega)
  by_cases hz : q = 0
  · subst hz
    have b1 : 0 ≤ P * (v2 + 65536 * v1) := Int.mul_nonneg (by omega) (by omega)
    have b2 : 0 ≤ P * (u3 + 65536 * T) := Int.mul_nonneg (by omega) (by omega)
    have : (0 - 1) * V = -V := by grind
    omega
  · have b1 : (q - 1) * vr ≤ (q - 1) * P := Int.mul_le_mul_of_nonneg_left (by omega) (by omega)
    have b2 : P * (q - 1) ≤ P * (v2 + 65536 * v1) := Int.mul_le_mul_of_nonneg_left (by omega) (by omega)
    have b3 : (q - 1) * V = (q - 1) * vr + (P * (q * v2 + 65536 * (q * v1)) - P * (v2 + 65536 * v1)) := by rw [hV]; grind
    have b4 : (q - 1) * P = P * (q - 1) := Int.mul_comm _ _
    omega

/-! #### digitQ -/
theorem ev_impl_digitOf (u v : List Int) (j : Nat) (hu : Limbs u) (hv : Limbs v) (hn : 2 ≤ v.length) (hnl : v.length ≤ 1000) (hul : u.length ≤ 10000) (hj : j + v.length < u.length) (hz : val (u.drop (j + v.length + 1)) = 0) (htop : 32768 ≤ rd v ((v.length - 1 : Nat) : Int))
    (hlt : val (u.drop j) < val v * 65536) :
    ∃ q : Int, Ev (fun k => impl_digitOf.f k u v (j : Int)) q ∧ 0 ≤ q ∧ q ≤ 65535 ∧ val (u.drop j) / val v ≤ q ∧ (q - 1) * val v ≤ val (u.drop j) := by
  obtain ⟨n, hn2⟩ : ∃ n : Nat, v.length = n + 2 := ⟨v.length - 2, by omega⟩
  have w : ∀ y : Int, -100000000000 ≤ y → y ≤ 100000000000 → wrap64 y = y := fun y h0 h1 => w64 (by omega) (by omega)
  -- the parts of v
  have hvv : val v = val (v.take n) + pw n * (rd v (n : Int) + 65536 * rd v ((n + 1 : Nat) : Int)) := by
    rw [val_take_drop v n (by omega), val_drop_at (show n < v.length by omega), val_drop_at (show n + 1 < v.length by omega), List.drop_eq_nil_of_le (by omega)]
    simp [val]
  have hvr := val_take_lt hv n (by omega)
  have hv2 := rd_limb hv (n : Int)
  have hv1 := rd_limb hv ((n + 1 : Nat) : Int)
  rw [show v.length - 1 = n + 1 by omega] at htop
  -- the parts of u
  have huu : val (u.drop j) = val ((u.drop j).take n) + pw n * (rd u ((j + n : Nat) : Int) + 65536 * (rd u ((j + n + 2 : Nat) : Int) * 65536 + rd u ((j + n + 1 : Nat) : Int))) := by
    rw [show j + v.length + 1 = j + n + 3 by omega] at hz
    rw [val_take_drop (u.drop j) n (by rw [List.length_drop]; omega), List.drop_drop, val_drop_at (show j + n < u.length by omega), val_drop_at (show j + n + 1 < u.length by omega), val_drop_at (show j + n + 1 + 1 < u.length by omega)]
    rw [show j + n + 1 + 1 + 1 = j + n + 3 by omega, hz, show j + n + 1 + 1 = j + n + 2 by omega]
    exact congrArg (fun t => val ((u.drop j).take n) + pw n * t) (by omega)
  have hur := val_take_lt (hu.drop j) n (by rw [List.length_drop]; omega)
  have hu3 := rd_limb hu ((j + n : Nat) : Int)
  have hu2 := rd_limb hu ((j + n + 1 : Nat) : Int)
  have hu1 := rd_limb hu ((j + n + 2 : Nat) : Int)
  have hP := pw_pos n
  have hU0 := val_nonneg (hu.drop j)
  have e1 : (j : Int) + (v.length : Int) = ((j + n + 2 : Nat) : Int) := by omega
  have e2 : ((j + n + 2 : Nat) : Int) - 1 = ((j + n + 1 : Nat) : Int) := by omega
  have e3 : (v.length : Int) - 1 = ((n + 1 : Nat) : Int) := by omega
  have e4 : (v.length : Int) - 2 = (n : Int) := by omega
  have e5 : ((j + n + 2 : Nat) : Int) - 2 = ((j + n : Nat) : Int) := by omega
  have ex1 : rd u ((j + n + 2 : Nat) : Int) ≤ rd v ((n + 1 : Nat) : Int) := by
    generalize val (u.drop j) = U at *
    generalize val v = V at *
    generalize val (v.take n) = vr at *
    generalize val ((u.drop j).take n) = ur at *
    generalize rd v (n : Int) = v2 at *
    generalize rd v ((n + 1 : Nat) : Int) = v1 at *
    generalize rd u ((j + n : Nat) : Int) = u3 at *
    generalize rd u ((j + n + 1 : Nat) : Int) = u2 at *
    generalize rd u ((j + n + 2 : Nat) : Int) = u1 at *
    generalize pw n = P at *
    by_cases h : u1 ≤ v1
    · exact h
    · have b1 : P * (65536 * ((v1 + 1) * 65536)) ≤ P * (u3 + 65536 * (u1 * 65536 + u2)) := Int.mul_le_mul_of_nonneg_left (by omega) (by omega)
      have b2 : P * (v2 + 65536 * v1) ≤ P * (65535 + 65536 * v1) := Int.mul_le_mul_of_nonneg_left (by omega) (by omega)
      have b3 : (P * (65535 + 65536 * v1) + P) * 65536 = P * (65536 * ((v1 + 1) * 65536)) := by grind
      omega
  have hT0 : 0 ≤ rd u ((j + n + 2 : Nat) : Int) * 65536 + rd u ((j + n + 1 : Nat) : Int) := by omega
  have hT1 : rd u ((j + n + 2 : Nat) : Int) * 65536 + rd u ((j + n + 1 : Nat) : Int) ≤ 4294967295 := by omega
  have hqt : val (u.drop j) / val v * val v ≤ val (u.drop j) := Int.ediv_mul_le _ (by
    have : 0 ≤ pw n * (rd v (n : Int) + 65536 * rd v ((n + 1 : Nat) : Int)) := Int.mul_nonneg (by omega) (by omega)
    have h2 : pw n * 1 ≤ pw n * (rd v (n : Int) + 65536 * rd v ((n + 1 : Nat) : Int)) := Int.mul_le_mul_of_nonneg_left (by omega) (by omega)
    omega)
  have hVp : 1 ≤ val v := by
    have h2 : pw n * 1 ≤ pw n * (rd v (n : Int) + 65536 * rd v ((n + 1 : Nat) : Int)) := Int.mul_le_mul_of_nonneg_left (by omega) (by omega)
    omega
  have hqt0 : 0 ≤ val (u.drop j) / val v := Int.ediv_nonneg hU0 (by omega)
  have hqt1 : val (u.drop j) / val v ≤ 65535 := by
    have := Int.ediv_lt_of_lt_mul (show 0 < val v by omega) (show val (u.drop j) < 65536 * val v by rw [Int.mul_comm]; exact hlt)
    omega
  generalize hQ : val (u.drop j) / val v = qt at *
  generalize hT : rd u ((j + n + 2 : Nat) : Int) * 65536 + rd u ((j + n + 1 : Nat) : Int) = T at *
  have loop : ∀ (d : Nat) (q r : Int), 65536 - r ≤ d → 0 ≤ r → r < 65536 → 0 ≤ q → q ≤ 200000 → q * rd v ((n + 1 : Nat) : Int) + r = T → qt ≤ q →
      ∃ z : Int, Ev (fun k => impl_digitOf.l0 k u v (j : Int) (v.length : Int) q r) z ∧ 0 ≤ z ∧ z ≤ 65535 ∧ qt ≤ z ∧ (z - 1) * val v ≤ val (u.drop j) := by
    intro d
    induction d with
    | zero => intro q r h1 h2 h3; omega
    | succ d ih =>
      intro q r hd r0 r1 q0 q1 hq hqq
      have down : qt ≤ q - 1 → (65536 ≤ q ∨ r * 65536 + rd u ((j + n : Nat) : Int) < q * rd v (n : Int)) →
          ∃ z : Int, Ev (fun k => impl_digitOf.j1 k u v (j : Int) (v.length : Int) q r true) z ∧ 0 ≤ z ∧ z ≤ 65535 ∧ qt ≤ z ∧ (z - 1) * val v ≤ val (u.drop j) := by
        intro h1 _
        have hnew : (q - 1) * rd v ((n + 1 : Nat) : Int) + (r + rd v ((n + 1 : Nat) : Int)) = T := by rw [Int.sub_mul]; omega
        by_cases hb : r + rd v ((n + 1 : Nat) : Int) ≥ 65536
        · have hq1 : q - 1 ≤ 65535 := by
            by_cases h : q - 1 ≤ 65535
            · exact h
            · have b1 : 65536 * rd v ((n + 1 : Nat) : Int) ≤ (q - 1) * rd v ((n + 1 : Nat) : Int) := Int.mul_le_mul_of_nonneg_right (by omega) (by omega)
              omega
          have hmul : (q - 1) * rd v (n : Int) ≤ 65535 * 65535 := Int.mul_le_mul hq1 hv2.2 hv2.1 (by omega)
          refine ⟨q - 1, Ev.step (f := fun _ => some (q - 1)) (fun k => ?_) (Ev.now _), by omega, hq1, h1, kd_lower hP hvv huu hvr.1 hvr.2 hv2.1 htop hur.1 hu3.1 hT0 hnew (by omega) hq1 (by omega)⟩
          simp only [impl_digitOf.j1]
          rw [e3, if_pos trivial, w ((n + 1 : Nat) : Int) (by omega) (by omega), if_pos (by omega), if_pos (by omega), w (r + rd v ((n + 1 : Nat) : Int)) (by omega) (by omega), if_pos hb, w (q - 1) (by omega) (by omega)]
        · obtain ⟨z, z1, z2⟩ := ih (q - 1) (r + rd v ((n + 1 : Nat) : Int)) (by omega) (by omega) (by omega) (by omega) (by omega) hnew h1
          refine ⟨z, Ev.step (fun k => ?_) z1, z2⟩
          simp only [impl_digitOf.j1]
          rw [e3, if_pos trivial, w ((n + 1 : Nat) : Int) (by omega) (by omega), if_pos (by omega), if_pos (by omega), w (r + rd v ((n + 1 : Nat) : Int)) (by omega) (by omega), if_neg hb, w (q - 1) (by omega) (by omega)]
      by_cases hbig : q ≥ 65536
      · obtain ⟨z, z1, z2⟩ := down (by omega) (.inl hbig)
        refine ⟨z, Ev.step (fun k => ?_) z1, z2⟩
        simp only [impl_digitOf.l0]
        rw [if_pos hbig]
      · have hmul : q * rd v (n : Int) ≤ 65535 * 65535 := Int.mul_le_mul (by omega) hv2.2 hv2.1 (by omega)
        have hmul0 : 0 ≤ q * rd v (n : Int) := Int.mul_nonneg q0 hv2.1
        have estep : ∀ k, impl_digitOf.l0 (k + 1) u v (j : Int) (v.length : Int) q r = impl_digitOf.j1 k u v (j : Int) (v.length : Int) q r (decide (q * rd v (n : Int) > r * 65536 + rd u ((j + n : Nat) : Int))) := by
          intro k
          simp only [impl_digitOf.l0]
          rw [if_neg hbig, e4, w (n : Int) (by omega) (by omega), e1, w ((j + n + 2 : Nat) : Int) (by omega) (by omega), e5, w ((j + n : Nat) : Int) (by omega) (by omega), if_pos (by omega), if_pos (by omega), if_pos (by omega), if_pos (by omega), w (q * rd v (n : Int)) (by omega) (by omega), w (r * 65536) (by omega) (by omega), w (r * 65536 + rd u ((j + n : Nat) : Int)) (by omega) (by omega)]
        by_cases htest : q * rd v (n : Int) > r * 65536 + rd u ((j + n : Nat) : Int)
        · have hov := kd_over hP hvv huu hvr.1 hv2.1 (by omega) hur.2 hq q0 htest qt hqt
          obtain ⟨z, z1, z2⟩ := down hov (.inr htest)
          refine ⟨z, Ev.step estep ?_, z2⟩
          rw [decide_eq_true htest]
          exact z1
        · refine ⟨q, Ev.step estep ?_, q0, by omega, hqq, kd_lower hP hvv huu hvr.1 hvr.2 hv2.1 htop hur.1 hu3.1 hT0 hq q0 (by omega) (by omega)⟩
          rw [decide_eq_false htest]
          refine Ev.step (f := fun _ => some q) (fun k => ?_) (Ev.now _)
          simp only [impl_digitOf.j1]
          rw [if_neg (by decide)]
  have hdm := Int.mul_ediv_add_emod T (rd v ((n + 1 : Nat) : Int))
  have hm0 := Int.emod_nonneg T (show rd v ((n + 1 : Nat) : Int) ≠ 0 by omega)
  have hm1 := Int.emod_lt_of_pos T (show 0 < rd v ((n + 1 : Nat) : Int) by omega)
  have hq0 : 0 ≤ T / rd v ((n + 1 : Nat) : Int) := Int.ediv_nonneg hT0 (by omega)
  have hq1 : T / rd v ((n + 1 : Nat) : Int) ≤ 131071 := by
    have := Int.ediv_lt_of_lt_mul (show 0 < rd v ((n + 1 : Nat) : Int) by omega) (show T < 131072 * rd v ((n + 1 : Nat) : Int) by omega)
    omega
  have hqv : T / rd v ((n + 1 : Nat) : Int) * rd v ((n + 1 : Nat) : Int) + T % rd v ((n + 1 : Nat) : Int) = T := by rw [Int.mul_comm]; exact hdm
  have hup := kd_upper hP hvv huu hvr.1 hv2.1 hur.2 hu3.2 (by omega) hqv hm1 hq0 qt hqt
  obtain ⟨z, z1, z2⟩ := loop 65536 (T / rd v ((n + 1 : Nat) : Int)) (T % rd v ((n + 1 : Nat) : Int)) (by omega) hm0 (by omega) hq0 (by omega) hqv hup
  refine ⟨z, ?_, z2⟩
  unfold impl_digitOf.f
  rw [e1, e3, w ((j + n + 2 : Nat) : Int) (by omega) (by omega), e2, w ((j + n + 1 : Nat) : Int) (by omega) (by omega), w ((n + 1 : Nat) : Int) (by omega) (by omega), w (rd u ((j + n + 2 : Nat) : Int) * 65536) (by omega) (by omega), hT, w T (by omega) (by omega), td _ _ hT0, tm _ _ hT0, w (T / _) (by omega) (by omega)]
  refine ev_if_pos (by omega) (ev_if_pos (by omega) (ev_if_pos (by omega) (ev_if_pos (by omega) (ev_if_pos (by omega) (ev_if_pos (by omega) (ev_if_neg (by omega) z1))))))

/-! #### takeAway -/
theorem ev_impl_takeAway (u v : List Int) (j : Nat) (q : Int) (hu : Limbs u) (hv : Limbs v) (hnl : v.length ≤ 1000) (hul : u.length ≤ 10000) (hj : j + v.length < u.length) (q0 : 0 ≤ q) (q1 : q ≤ 65536) :
    ∃ x : List Int, Ev (fun k => impl_takeAway.f k u v (j : Int) q) (decide (rd x ((j + v.length : Nat) : Int) < 0), x) ∧ x.length = u.length ∧ val x = val u - pw j * (q * val v) ∧ (∀ i : Nat, i ≠ j + v.length → 0 ≤ rd x (i : Int) ∧ rd x (i : Int) ≤ 65535) ∧
      -65536 ≤ rd x ((j + v.length : Nat) : Int) ∧ rd x ((j + v.length : Nat) : Int) ≤ 65535 ∧ x.drop (j + v.length + 1) = u.drop (j + v.length + 1) ∧ x.take j = u.take j := by
  have w : ∀ y : Int, -100000000000 ≤ y → y ≤ 100000000000 → wrap64 y = y := fun y h0 h1 => w64 (by omega) (by omega)
  have key : ∀ (d i : Nat), i + d = v.length → ∀ (x : List Int) (c : Int), x.length = u.length → Limbs x → 0 ≤ c → c ≤ 65536 → val x = val u - pw j * (q * val (v.take i)) + c * pw (j + i) → x.drop (j + i) = u.drop (j + i) → x.take j = u.take j →
      ∃ y : List Int, Ev (fun k => impl_takeAway.l0 k x v (j : Int) q c v (v.length : Int) (i : Int)) (decide (rd y ((j + v.length : Nat) : Int) < 0), y) ∧ y.length = u.length ∧ val y = val u - pw j * (q * val v) ∧ (∀ i : Nat, i ≠ j + v.length → 0 ≤ rd y (i : Int) ∧ rd y (i : Int) ≤ 65535) ∧
        -65536 ≤ rd y ((j + v.length : Nat) : Int) ∧ rd y ((j + v.length : Nat) : Int) ≤ 65535 ∧ y.drop (j + v.length + 1) = u.drop (j + v.length + 1) ∧ y.take j = u.take j := by
    intro d
    induction d with
    | zero =>
      intro i hi x c hx hlim c0 c1 hval hdrop htake
      have hin : i = v.length := by omega
      subst hin
      have hr := rd_limb hlim ((j + v.length : Nat) : Int)
      refine ⟨x.set (j + v.length) (rd x ((j + v.length : Nat) : Int) - c), ?_, by simpa using hx, ?_, fun m hm => ?_, ?_, ?_, ?_, ?_⟩
      · refine Ev.step (f := fun _ => some (decide (rd (x.set (j + v.length) (rd x ((j + v.length : Nat) : Int) - c)) ((j + v.length : Nat) : Int) < 0), x.set (j + v.length) (rd x ((j + v.length : Nat) : Int) - c))) (fun k => ?_) (Ev.now _)
        simp only [impl_takeAway.l0]
        rw [if_neg (by omega), show (j : Int) + (v.length : Int) = ((j + v.length : Nat) : Int) by omega, w ((j + v.length : Nat) : Int) (by omega) (by omega), if_pos (by omega), if_pos (by omega), Int.toNat_natCast, w (rd x ((j + v.length : Nat) : Int) - c) (by omega) (by omega)]
        rfl
      · rw [val_set _ _ _ (by omega), hval, List.take_length]
        generalize rd x ((j + v.length : Nat) : Int) = y
        generalize pw (j + v.length) = P
        grind
      · rw [rd_set _ _ _ _ (by omega), if_neg (by omega)]
        exact rd_limb hlim _
      · rw [rd_set _ _ _ _ (by omega), if_pos rfl]; omega
      · rw [rd_set _ _ _ _ (by omega), if_pos rfl]; omega
      · rw [len_set_drop, ← List.drop_drop (i := 1), hdrop, List.drop_drop]
      · rw [List.take_set_of_le (by omega)]; exact htake
    | succ d ih =>
      intro i hi x c hx hlim c0 c1 hval hdrop htake
      have hy := rd_limb hlim ((j + i : Nat) : Int)
      have hvx := rd_limb hv (i : Int)
      have hqx : q * rd v (i : Int) ≤ 65536 * 65535 := Int.mul_le_mul q1 hvx.2 hvx.1 (by omega)
      have hqx0 : 0 ≤ q * rd v (i : Int) := Int.mul_nonneg q0 hvx.1
      have step : ∀ (D c' : Int), 0 ≤ D → D ≤ 65535 → 0 ≤ c' → c' ≤ 65536 → D = rd x ((j + i : Nat) : Int) - q * rd v (i : Int) - c + c' * 65536 →
          (∀ k, impl_takeAway.l0 (k + 1) x v (j : Int) q c v (v.length : Int) (i : Int) = impl_takeAway.l0 k (x.set (j + i) D) v (j : Int) q c' v (v.length : Int) ((i + 1 : Nat) : Int)) →
          ∃ y : List Int, Ev (fun k => impl_takeAway.l0 k x v (j : Int) q c v (v.length : Int) (i : Int)) (decide (rd y ((j + v.length : Nat) : Int) < 0), y) ∧ y.length = u.length ∧ val y = val u - pw j * (q * val v) ∧ (∀ i : Nat, i ≠ j + v.length → 0 ≤ rd y (i : Int) ∧ rd y (i : Int) ≤ 65535) ∧
            -65536 ≤ rd y ((j + v.length : Nat) : Int) ∧ rd y ((j + v.length : Nat) : Int) ≤ 65535 ∧ y.drop (j + v.length + 1) = u.drop (j + v.length + 1) ∧ y.take j = u.take j := by
        intro D c' D0 D1 c0' c1' hD hstep
        obtain ⟨y, y1, y2⟩ := ih (i + 1) (by omega) (x.set (j + i) D) c' (by simpa using hx) (hlim.set _ D0 D1) c0' c1' (by
          rw [val_set _ _ _ (by omega), hval, val_take_succ v i (by omega), hD, show j + (i + 1) = j + i + 1 by omega]
          simp only [pw]
          rw [pw_add]
          generalize rd x ((j + i : Nat) : Int) = y
          generalize rd v (i : Int) = z
          generalize val (v.take i) = t
          generalize val u = U
          generalize pw j = A
          generalize pw i = B
          grind) (by rw [show j + (i + 1) = j + i + 1 by omega, len_set_drop, ← List.drop_drop (i := 1), hdrop, List.drop_drop]) (by rw [List.take_set_of_le (by omega)]; exact htake)
        exact ⟨y, Ev.step hstep y1, y2⟩
      have e1 : (j : Int) + (i : Int) = ((j + i : Nat) : Int) := by omega
      by_cases hneg : rd x ((j + i : Nat) : Int) - q * rd v (i : Int) - c < 0
      · refine step (rd x ((j + i : Nat) : Int) - q * rd v (i : Int) - c + (-(rd x ((j + i : Nat) : Int) - q * rd v (i : Int) - c) + 65536 - 1) / 65536 * 65536) ((-(rd x ((j + i : Nat) : Int) - q * rd v (i : Int) - c) + 65536 - 1) / 65536) (by omega) (by omega) (by omega) (by omega) rfl (fun k => ?_)
        simp only [impl_takeAway.l0]
        rw [if_pos (by omega), if_pos (by omega), if_pos (by omega), e1, w ((j + i : Nat) : Int) (by omega) (by omega), if_pos (by omega), if_pos (by omega), w (q * rd v (i : Int)) (by omega) (by omega), w (rd x ((j + i : Nat) : Int) - q * rd v (i : Int)) (by omega) (by omega)]
        generalize hD : rd x ((j + i : Nat) : Int) - q * rd v (i : Int) - c = D at *
        rw [w D (by omega) (by omega), if_pos hneg, w (-D) (by omega) (by omega), w (-D + 65536) (by omega) (by omega), w (-D + 65536 - 1) (by omega) (by omega), td _ _ (by omega), w ((-D + 65536 - 1) / 65536) (by omega) (by omega), w ((-D + 65536 - 1) / 65536 * 65536) (by omega) (by omega), w (D + (-D + 65536 - 1) / 65536 * 65536) (by omega) (by omega), w ((i : Int) + 1) (by omega) (by omega), Int.toNat_natCast]
        rfl
      · refine step (rd x ((j + i : Nat) : Int) - q * rd v (i : Int) - c) 0 (by omega) (by omega) (by omega) (by omega) (by omega) (fun k => ?_)
        simp only [impl_takeAway.l0]
        rw [if_pos (by omega), if_pos (by omega), if_pos (by omega), e1, w ((j + i : Nat) : Int) (by omega) (by omega), if_pos (by omega), if_pos (by omega), w (q * rd v (i : Int)) (by omega) (by omega), w (rd x ((j + i : Nat) : Int) - q * rd v (i : Int)) (by omega) (by omega)]
        generalize hD : rd x ((j + i : Nat) : Int) - q * rd v (i : Int) - c = D at *
        rw [w D (by omega) (by omega), if_neg hneg, w ((i : Int) + 1) (by omega) (by omega), Int.toNat_natCast]
        rfl
  have h := key v.length 0 (by omega) u 0 rfl hu (by omega) (by omega) (by simp [val]) rfl rfl
  exact h

/-! #### addBack -/
theorem ev_impl_addBack (u v : List Int) (j : Nat) (hu : ∀ i : Nat, i ≠ j + v.length → 0 ≤ rd u (i : Int) ∧ rd u (i : Int) ≤ 65535) (ht0 : -65536 ≤ rd u ((j + v.length : Nat) : Int)) (ht1 : rd u ((j + v.length : Nat) : Int) ≤ 65535) (hv : Limbs v) (hnl : v.length ≤ 1000) (hul : u.length ≤ 10000) (hj : j + v.length < u.length) :
    ∃ x : List Int, Ev (fun k => impl_addBack.f k u v (j : Int)) x ∧ x.length = u.length ∧ val x = val u + pw j * val v ∧ (∀ i : Nat, i ≠ j + v.length → 0 ≤ rd x (i : Int) ∧ rd x (i : Int) ≤ 65535) ∧ x.drop (j + v.length + 1) = u.drop (j + v.length + 1) ∧ x.take j = u.take j := by
  have w : ∀ y : Int, -100000000000 ≤ y → y ≤ 100000000000 → wrap64 y = y := fun y h0 h1 => w64 (by omega) (by omega)
  have key : ∀ (d i : Nat), i + d = v.length → ∀ (x : List Int) (c : Int), x.length = u.length → (∀ m : Nat, m ≠ j + v.length → 0 ≤ rd x (m : Int) ∧ rd x (m : Int) ≤ 65535) → rd x ((j + v.length : Nat) : Int) = rd u ((j + v.length : Nat) : Int) → 0 ≤ c → c ≤ 1 → val x = val u + pw j * val (v.take i) - c * pw (j + i) → x.drop (j + v.length + 1) = u.drop (j + v.length + 1) → x.take j = u.take j →
      ∃ y : List Int, Ev (fun k => impl_addBack.l0 k x v (j : Int) c v (v.length : Int) (i : Int)) y ∧ y.length = u.length ∧ val y = val u + pw j * val v ∧ (∀ i : Nat, i ≠ j + v.length → 0 ≤ rd y (i : Int) ∧ rd y (i : Int) ≤ 65535) ∧ y.drop (j + v.length + 1) = u.drop (j + v.length + 1) ∧ y.take j = u.take j := by
    intro d
    induction d with
    | zero =>
      intro i hi x c hx hlim htop c0 c1 hval hdrop htake
      have hin : i = v.length := by omega
      subst hin
      refine ⟨x.set (j + v.length) (rd x ((j + v.length : Nat) : Int) + c), ?_, by simpa using hx, ?_, fun m hm => ?_, ?_, ?_⟩
      · refine Ev.step (f := fun _ => some (x.set (j + v.length) (rd x ((j + v.length : Nat) : Int) + c))) (fun k => ?_) (Ev.now _)
        simp only [impl_addBack.l0]
        rw [if_neg (by omega), show (j : Int) + (v.length : Int) = ((j + v.length : Nat) : Int) by omega, w ((j + v.length : Nat) : Int) (by omega) (by omega), if_pos (by omega), if_pos (by omega), Int.toNat_natCast, w (rd x ((j + v.length : Nat) : Int) + c) (by omega) (by omega)]
      · rw [val_set _ _ _ (by omega), hval, List.take_length]
        generalize rd x ((j + v.length : Nat) : Int) = y
        generalize pw (j + v.length) = P
        grind
      · rw [rd_set _ _ _ _ (by omega), if_neg (by omega)]
        exact hlim m hm
      · rw [len_set_drop]; exact hdrop
      · rw [List.take_set_of_le (by omega)]; exact htake
    | succ d ih =>
      intro i hi x c hx hlim htop c0 c1 hval hdrop htake
      have hy := hlim (j + i) (by omega)
      have hvx := rd_limb hv (i : Int)
      obtain ⟨y, y1, y2⟩ := ih (i + 1) (by omega) (x.set (j + i) ((c + (rd x ((j + i : Nat) : Int) + rd v (i : Int))) % 65536)) ((c + (rd x ((j + i : Nat) : Int) + rd v (i : Int))) / 65536) (by simpa using hx) (fun m hm => by
          rw [rd_set _ _ _ _ (by omega)]
          by_cases e : j + i = m
          · rw [if_pos e]; omega
          · rw [if_neg e]; exact hlim m hm) (by rw [rd_set _ _ _ _ (by omega), if_neg (by omega)]; exact htop) (by omega) (by omega) (by
          rw [val_set _ _ _ (by omega), hval, val_take_succ v i (by omega), show j + (i + 1) = j + i + 1 by omega]
          simp only [pw]
          rw [pw_add]
          have e := Int.mul_ediv_add_emod (c + (rd x ((j + i : Nat) : Int) + rd v (i : Int))) 65536
          generalize (c + (rd x ((j + i : Nat) : Int) + rd v (i : Int))) / 65536 = c' at *
          generalize (c + (rd x ((j + i : Nat) : Int) + rd v (i : Int))) % 65536 = m' at *
          generalize rd x ((j + i : Nat) : Int) = y at *
          generalize rd v (i : Int) = z at *
          generalize val (v.take i) = t
          generalize val u = U
          generalize pw j = A
          generalize pw i = B
          grind) (by rw [List.drop_set_of_lt (by omega)]; exact hdrop) (by rw [List.take_set_of_le (by omega)]; exact htake)
      refine ⟨y, Ev.step (fun k => ?_) y1, y2⟩
      simp only [impl_addBack.l0]
      rw [if_pos (by omega), if_pos (by omega), if_pos (by omega), show (j : Int) + (i : Int) = ((j + i : Nat) : Int) by omega, w ((j + i : Nat) : Int) (by omega) (by omega), if_pos (by omega), if_pos (by omega), w (rd x ((j + i : Nat) : Int) + rd v (i : Int)) (by omega) (by omega), w (c + (rd x ((j + i : Nat) : Int) + rd v (i : Int))) (by omega) (by omega), tm _ _ (by omega), td _ _ (by omega), w ((c + (rd x ((j + i : Nat) : Int) + rd v (i : Int))) / 65536) (by omega) (by omega), w ((i : Int) + 1) (by omega) (by omega), Int.toNat_natCast]
      rfl
  exact key v.length 0 (by omega) u 0 rfl hu rfl (by omega) (by omega) (by simp [val]) rfl rfl

/-! #### trim -/
theorem ev_impl_trim (l : List Int) (hb : l.length ≤ 1000000000) : Ev (fun k => impl_trim.f k l) (strip l) := by
  unfold impl_trim.f
  have key : ∀ n : Nat, n ≤ l.length → strip (l.take n) = strip l → Ev (fun k => impl_trim.l0 k (l.take n)) (strip l) := by
    intro n
    induction n with
    | zero =>
      intro _ hs
      refine Ev.step (f := fun _ => some (strip l)) (fun k => ?_) (Ev.now _)
      simp only [impl_trim.l0]
      rw [if_neg (by simp)]
      simpa [strip] using hs
    | succ n ih =>
      intro hn hs
      have hlen : (l.take (n + 1)).length = n + 1 := by simp; omega
      have hrd : rd (l.take (n + 1)) (n : Int) = l[n] := by
        rw [rd_get _ _ (by omega)]; simp
      by_cases h0 : l[n] = 0
      · refine Ev.step (f := fun k => impl_trim.l0 k (l.take n)) (fun k => ?_) (ih (by omega) ?_)
        · simp only [impl_trim.l0]
          rw [hlen, show ((n + 1 : Nat) : Int) - 1 = (n : Int) by omega, w64 (x := (n : Int)) (by omega) (by omega), if_pos (by omega), if_pos (by omega), if_pos (by omega), hrd, if_pos h0, if_pos (by omega)]
          rw [Int.toNat_natCast, List.take_take, Nat.min_eq_left (by omega)]
        · rw [← hs, strip_take_zero (by omega) h0]
      · refine Ev.step (f := fun _ => some (strip l)) (fun k => ?_) (Ev.now _)
        simp only [impl_trim.l0]
        rw [hlen, show ((n + 1 : Nat) : Int) - 1 = (n : Int) by omega, w64 (x := (n : Int)) (by omega) (by omega), if_pos (by omega), if_pos (by omega), if_pos (by omega), hrd, if_neg h0]
        rw [← hs, strip_take_ne (by omega) h0]
  have := key l.length (Nat.le_refl _) (by simp)
  rw [List.take_length] at this
  exact this

/-! #### upD -/
/-- The value of a number shifted to the left. -/
def shlI (l : List Int) (k : Int) : Int := pw (k / 16).toNat * (val l * 2 ^ (k % 16).toNat)

/-! #### up -/
theorem up_step (O P c x R A T : Int) (h : O + P * (c + (x + 65536 * A) * R) = T) : O + P * ((c + x * R) % 65536) + 65536 * P * ((c + x * R) / 65536 + A * R) = T := by
  have e := Int.mul_ediv_add_emod (c + x * R) 65536
  have e2 : c + (x + 65536 * A) * R = (c + x * R) % 65536 + 65536 * ((c + x * R) / 65536 + A * R) := by
    rw [Int.add_mul, Int.mul_assoc]; omega
  rw [e2, Int.mul_add, ← Int.mul_assoc, Int.mul_comm P 65536] at h
  omega
theorem ev_impl_up (a : List Int) (k : Int) (ha : Limbs a) (hb : a.length ≤ 1000000) (h0 : 0 ≤ k) (h1 : k ≤ 10000000) :
    ∃ q : List Int, Ev (fun n => impl_up.f n a k) q ∧ Norm q ∧ val q = shlI a k := by
  unfold impl_up.f shlI
  rw [td _ _ h0, w64 (x := k / 16) (by omega) (by omega)]
  by_cases hl : (a.length : Int) = 0
  · have e : a = [] := List.eq_nil_of_length_eq_zero (by omega)
    subst e
    exact ⟨[], ev_if_pos hl (Ev.now _), Norm.nil, by simp [val]⟩
  · have hr : (k % 16).toNat < 16 := by omega
    have hp := two_pow_bd hr
    rw [w64 (x := k / 16 + (a.length : Int)) (by omega) (by omega), w64 (by omega) (by omega)]
    generalize hR : (2 : Int) ^ (k % 16).toNat = R at *
    have key : ∀ d i : Nat, i + d = a.length → ∀ (out : List Int) (c : Int), out.length = (k / 16).toNat + i → Limbs out → 0 ≤ c → c ≤ 65535 →
        val out + pw ((k / 16).toNat + i) * (c + val (a.drop i) * R) = pw (k / 16).toNat * (val a * R) →
        ∃ q : List Int, Ev (fun n => impl_up.l0 n k out c a (a.length : Int) (i : Int)) q ∧ Norm q ∧ val q = pw (k / 16).toNat * (val a * R) := by
      intro d
      induction d with
      | zero =>
        intro i hi out c ho hlim hc0 hc1 hv
        rw [List.drop_eq_nil_of_le (by omega)] at hv
        simp only [val, Int.zero_mul, Int.add_zero] at hv
        refine ⟨strip (out ++ [c]), ?_, strip_norm (hlim.append (Limbs.cons hc0 hc1 Limbs.nil)), by rw [val_strip, val_snoc, ho]; exact hv⟩
        refine Ev.step (f := fun n => (impl_trim.f n (out ++ [c])).bind fun t => some t) (fun n => ?_) ?_
        · simp only [impl_up.l0]
          rw [if_neg (by omega), if_pos (by omega)]
        · exact Ev.bind (ev_impl_trim _ (by simp; omega)) (Ev.now _)
      | succ d ih =>
        intro i hi out c ho hlim hc0 hc1 hv
        have hx := rd_limb ha (i : Int)
        rw [val_drop_at (by omega)] at hv
        have hs := up_step _ _ _ _ _ _ _ hv
        have hxr : 0 ≤ rd a (i : Int) * R := Int.mul_nonneg hx.1 (by omega)
        have hxr2 : rd a (i : Int) * R ≤ 65535 * 32768 := Int.mul_le_mul hx.2 hp.2 (by omega) (by omega)
        have hxr3 : (c + rd a (i : Int) * R) / 65536 ≤ 65535 := by omega
        have hm : 0 ≤ (c + rd a (i : Int) * R) % 65536 ∧ (c + rd a (i : Int) * R) % 65536 ≤ 65535 := by omega
        obtain ⟨q, hq, hrest⟩ := ih (i + 1) (by omega) (out ++ [(c + rd a (i : Int) * R) % 65536]) ((c + rd a (i : Int) * R) / 65536) (by simp; omega) (hlim.append (Limbs.cons hm.1 hm.2 Limbs.nil)) (by omega) hxr3 (by
          rw [val_snoc, ho, show (k / 16).toNat + (i + 1) = ((k / 16).toNat + i) + 1 by omega]; simp only [pw]; exact hs)
        refine ⟨q, Ev.step (fun n => ?_) hq, hrest⟩
        simp only [impl_up.l0]
        rw [tm _ _ h0, if_pos (by omega), if_pos (by omega), if_pos (by omega), if_pos (by omega), if_pos (by omega), shl_in (by omega) (by omega) hx.1 hx.2, hR, w64 (x := c + rd a (i : Int) * R) (by omega) (by omega), tm _ _ (by omega), td _ _ (by omega), w64 (by omega) (by omega), w64 (by omega) (by omega)]
        rfl
    obtain ⟨q, hq, h2⟩ := key a.length 0 (by omega) (List.replicate (k / 16).toNat 0) 0 (by simp) (Limbs.zeros _) (by omega) (by omega) (by rw [val_zeros]; simp)
    refine ⟨q, ?_, h2⟩
    refine ev_if_neg hl (ev_if_pos (by omega) (ev_if_pos (by omega) (ev_if_pos (by omega) ?_)))
    exact hq

/-! #### alD -/
theorem shlI_two (l : List Int) (k : Int) (h0 : 0 ≤ k) : shlI l k = val l * 2 ^ k.toNat := by
  unfold shlI
  rw [← pw_two_toNat k h0, ← Int.mul_assoc, ← Int.mul_assoc, Int.mul_comm (pw _) (val l)]

/-! #### aligned0 -/

/-! #### down -/
theorem ev_impl_down (a : List Int) (k : Int) (ha : Limbs a) (hb : a.length ≤ 1000000) (h0 : 0 ≤ k) (h1 : k ≤ 9223372036854775807) :
    ∃ q : List Int, Ev (fun n => impl_down.f n a k) q ∧ Norm q ∧ val q = shrI a k ∧ q.length ≤ a.length := by
  unfold impl_down.f shrI
  rw [td _ _ h0, w64 (x := k / 16) (by omega) (by omega)]
  by_cases hl : k / 16 ≥ (a.length : Int)
  · refine ⟨[], ev_if_pos hl (Ev.now _), Norm.nil, ?_, by simp⟩
    rw [List.drop_eq_nil_of_le (by omega)]; simp [val]
  · have hr : (k % 16).toNat < 16 := by omega
    have hw := ha.drop (k / 16).toNat
    have hlen : (a.drop (k / 16).toNat).length ≤ a.length := by simp
    generalize a.drop (k / 16).toNat = w at *
    refine ⟨strip (dnl (k % 16).toNat w), ?_, strip_norm (dnl_limbs _ _), by rw [val_strip, dnl_val hr hw], by have := strip_len (dnl (k % 16).toNat w); rw [dnl_length] at this; omega⟩
    refine ev_if_neg hl (ev_if_pos (by omega) (ev_if_pos (by omega) (ev_if_pos (by omega) (ev_if_pos (by omega) ?_))))
    have key : ∀ d i : Nat, i + d = w.length → ∀ out : List Int, out.length = i → Ev (fun n => impl_down.l0 n k w out w (w.length : Int) (i : Int)) (strip (out ++ dnl (k % 16).toNat (w.drop i))) := by
      intro d
      induction d with
      | zero =>
        intro i hi out ho
        refine Ev.step (f := fun n => (impl_trim.f n out).bind fun t => some t) (fun n => ?_) ?_
        · simp only [impl_down.l0]
          rw [if_neg (by omega)]
        · rw [List.drop_eq_nil_of_le (by omega)]
          simp only [dnl, List.append_nil]
          exact Ev.bind (ev_impl_trim out (by omega)) (Ev.now _)
      | succ d ih =>
        intro i hi out ho
        have hx := rd_limb hw (i : Int)
        have hy := rd_limb hw ((i + 1 : Nat) : Int)
        have hp := two_pow_bd hr
        have e1 : w.drop i = rd w (i : Int) :: w.drop (i + 1) := by rw [List.drop_eq_getElem_cons (by omega), rd_get _ _ (by omega)]
        have e2 : out ++ dnl (k % 16).toNat (w.drop i) = (out ++ [(rd w (i : Int) + 65536 * rd w ((i + 1 : Nat) : Int)) / 2 ^ (k % 16).toNat % 65536]) ++ dnl (k % 16).toNat (w.drop (i + 1)) := by
          rw [e1]; simp only [dnl, headD_drop, List.append_assoc, List.singleton_append]
        rw [e2]
        refine Ev.step (fun n => ?_) (ih (i + 1) (by omega) _ (by simp; omega))
        simp only [impl_down.l0]
        rw [tm _ _ h0, w64 (x := (i : Int) + 1) (by omega) (by omega), if_pos (by omega), if_pos (by omega), if_pos (by omega)]
        have hn : 0 ≤ (rd w (i : Int) + 65536 * rd w ((i + 1 : Nat) : Int)) / 2 ^ (k % 16).toNat := Int.ediv_nonneg (by omega) (by omega)
        have c1 : ((i + 1 : Nat) : Int) = (i : Int) + 1 := by omega
        by_cases hlast : (i : Int) + 1 < (w.length : Int)
        · rw [if_pos hlast, if_pos (by omega), if_pos (by omega), if_pos (by omega)]
          rw [c1] at hy hn ⊢
          rw [w64 (x := rd w ((i : Int) + 1) * 65536) (by omega) (by omega), Int.mul_comm (rd w ((i : Int) + 1)) 65536, w64 (by omega) (by omega), shr_in (by omega) (by omega), tm _ _ hn]
        · rw [if_neg hlast, if_pos (by omega), if_pos (by omega)]
          have z : rd w ((i + 1 : Nat) : Int) = 0 := rd_out w (i + 1) (by omega)
          rw [z] at hn ⊢
          rw [shr_in (by omega) (by omega), show rd w (i : Int) + 65536 * 0 = rd w (i : Int) by omega] 
          rw [show rd w (i : Int) + 65536 * 0 = rd w (i : Int) by omega] at hn
          rw [tm _ _ hn, c1]
    have := key w.length 0 (by omega) [] rfl
    simpa using this

/-! #### divideSmall -/
theorem ev_impl_divideSmall (a : List Int) (D : Int) (ha : Limbs a) (hb : a.length ≤ 1000000) (hD : 1 ≤ D) (hD2 : D ≤ 65536) :
    ∃ q : List Int, Ev (fun k => impl_divideSmall.f k a D) (q, val a % D) ∧ Norm q ∧ val q = val a / D ∧ q.length ≤ a.length := by
  unfold impl_divideSmall.f
  have key : ∀ d : Nat, d ≤ a.length → ∀ (x : List Int) (r : Int), x.length = a.length → Limbs x → 0 ≤ r → r < D → val (a.drop d) = val (x.drop d) * D + r →
      ∃ q : List Int, Ev (fun k => impl_divideSmall.l0 k a D x r ((d : Int) - 1)) (q, val a % D) ∧ Norm q ∧ val q = val a / D ∧ q.length ≤ a.length := by
    intro d
    induction d with
    | zero =>
      intro _ x r hx hl h0 h1 hv
      simp only [List.drop_zero] at hv
      obtain ⟨e1, e2⟩ := div_unique hD hv h0 h1
      refine ⟨strip x, ?_, strip_norm hl, by rw [val_strip]; exact e1, by have := strip_len x; omega⟩
      have hn := ev_impl_trim x (by omega)
      refine Ev.step (f := fun k => (impl_trim.f k x).bind fun t => some (t, r)) (fun k => ?_) ?_
      · simp only [impl_divideSmall.l0]
        rw [if_neg (by omega)]
      · rw [← e2]; exact Ev.bind hn (Ev.now _)
    | succ d ih =>
      intro hd x r hx hl h0 h1 hv
      have hy := rd_limb ha (d : Int)
      have hdg := small_digit D r (rd a (d : Int)) hD h0 h1 hy.1 hy.2
      have hm0 := Int.emod_nonneg (r * 65536 + rd a (d : Int)) (show D ≠ 0 by omega)
      have hm1 := Int.emod_lt_of_pos (r * 65536 + rd a (d : Int)) (show 0 < D by omega)
      obtain ⟨q, hq, hrest⟩ := ih (by omega) (x.set d ((r * 65536 + rd a (d : Int)) / D)) ((r * 65536 + rd a (d : Int)) % D) (by simpa using hx) (hl.set d hdg.1 hdg.2) hm0 hm1 (by
        rw [val_set_drop _ _ _ (by omega), val_drop_at (by omega)]
        exact small_step D r _ _ _ hD hv)
      refine ⟨q, Ev.step (fun k => ?_) hq, hrest⟩
      simp only [impl_divideSmall.l0]
      rw [show ((d + 1 : Nat) : Int) - 1 = (d : Int) by omega]
      rw [if_pos (by omega), if_pos (by omega), if_pos (by omega), if_neg (by omega), if_pos (by omega), w64 (x := r * 65536) (by omega) (by omega), w64 (x := r * 65536 + rd a (d : Int)) (by omega) (by omega), td _ _ (by omega), tm _ _ (by omega), w64 (by omega) (by omega), w64 (by omega) (by omega), Int.toNat_natCast]
  obtain ⟨q, hq, h2⟩ := key a.length (Nat.le_refl _) (List.replicate a.length 0) 0 (by simp) (Limbs.zeros _) (by omega) (by omega) (by rw [List.drop_length]; simp [val])
  refine ⟨q, ?_, h2⟩
  refine ev_if_pos (by omega) (ev_if_pos (by omega) ?_)
  rw [w64 (by omega) (by omega), Int.toNat_natCast]
  exact hq

/-! #### small -/
theorem ev_impl_small (n : Int) (h1 : n ≤ 9223372036854775807) : Ev (fun k => impl_small.f k n) (dig n) := by
  unfold impl_small.f dig
  have key : ∀ f : Nat, ∀ x : Int, ∀ acc : List Int, x < pw f → x ≤ 9223372036854775807 → acc.length + f < 1000 → Ev (fun k => impl_small.l0 k x acc) (acc ++ digF f x) := by
    intro f
    induction f with
    | zero =>
      intro x acc hx hb ha
      simp [pw] at hx
      refine Ev.step (f := fun _ => some (acc ++ digF 0 x)) (fun k => ?_) (Ev.now _)
      simp only [impl_small.l0]
      rw [if_neg (by omega)]; simp [digF]
    | succ f ih =>
      intro x acc hx hb ha
      by_cases h : x ≤ 0
      · refine Ev.step (f := fun _ => some (acc ++ digF (f + 1) x)) (fun k => ?_) (Ev.now _)
        simp only [impl_small.l0]
        rw [if_neg (by omega)]; simp [digF, h]
      · have e : acc ++ digF (f + 1) x = (acc ++ [x % 65536]) ++ digF f (x / 65536) := by
          simp [digF, h]
        rw [e]
        simp only [pw] at hx
        refine Ev.step (f := fun k => impl_small.l0 k (x / 65536) (acc ++ [x % 65536])) (fun k => ?_) (ih _ _ (by omega) (by omega) (by simp; omega))
        simp only [impl_small.l0]
        rw [if_pos (by omega), if_pos (by omega), td _ _ (by omega), tm _ _ (by omega), w64 (by omega) (by omega)]
  have := key 4 n [] (by rw [pw4]; omega) h1 (by simp)
  simpa using this

/-! #### cmpI -/
theorem cmp_Compare_eq (a b : Int) : cmp_Compare_int.f a b = some (cmpI a b) := by
  unfold cmp_Compare_int.f cmp_isNaN_int.f cmpI
  simp only [Option.bind_some, bne_self_eq_false, Bool.false_eq_true, if_false]
  by_cases h : a < b
  · rw [if_pos h, if_pos h]
  · rw [if_neg h, if_neg h]
    by_cases h2 : a > b
    · rw [if_pos h2, if_pos h2]
    · rw [if_neg h2, if_neg h2]
theorem ev_impl_compare (a b : List Int) (ha : Norm a) (hb : Norm b) (hl : a.length ≤ 1000000) (hl2 : b.length ≤ 1000000) : Ev (fun k => impl_compare.f k a b) (cmpI (val a) (val b)) := by
  unfold impl_compare.f
  simp only [cmp_Compare_eq, Option.bind_some]
  by_cases he : (a.length : Int) = (b.length : Int)
  · refine ev_if_pos he ?_
    rw [w64 (by omega) (by omega)]
    have key : ∀ d : Nat, d ≤ a.length → val (a.drop d) = val (b.drop d) → Ev (fun k => impl_compare.l0 k a b ((d : Int) - 1)) (cmpI (val a) (val b)) := by
      intro d
      induction d with
      | zero =>
        intro _ hv
        simp at hv
        rw [cmpI_eq hv]
        refine Ev.step (f := fun _ => some 0) (fun k => ?_) (Ev.now _)
        simp only [impl_compare.l0]
        rw [if_neg (by omega)]
      | succ d ih =>
        intro hd hv
        rw [show ((d + 1 : Nat) : Int) - 1 = (d : Int) by omega]
        by_cases h0 : rd a (d : Int) = rd b (d : Int)
        · refine Ev.step (f := fun k => impl_compare.l0 k a b ((d : Int) - 1)) (fun k => ?_) (ih (by omega) ?_)
          · simp only [impl_compare.l0]
            rw [if_pos (by omega), if_pos (by omega), if_pos (by omega), if_pos (by omega), if_pos h0, w64 (by omega) (by omega)]
          · rw [rd_get _ _ (by omega), rd_get _ _ (by omega)] at h0
            rw [List.drop_eq_getElem_cons (show d < a.length by omega), List.drop_eq_getElem_cons (show d < b.length by omega)]
            simp only [val, h0, hv]
        · have e : cmpI (rd a (d : Int)) (rd b (d : Int)) = cmpI (val a) (val b) := by
            by_cases h1 : rd a (d : Int) < rd b (d : Int)
            · rw [cmpI_lt h1, cmpI_lt (val_lt_at ha.1 hb.1 (i := d) (by omega) (by omega) hv (by rwa [rd_get _ _ (by omega), rd_get _ _ (by omega)] at h1))]
            · have h2 : rd b (d : Int) < rd a (d : Int) := by omega
              rw [cmpI_gt h2, cmpI_gt (val_lt_at hb.1 ha.1 (i := d) (by omega) (by omega) hv.symm (by rwa [rd_get _ _ (by omega), rd_get _ _ (by omega)] at h2))]
          rw [← e]
          refine Ev.step (f := fun _ => some (cmpI (rd a (d : Int)) (rd b (d : Int)))) (fun k => ?_) (Ev.now _)
          simp only [impl_compare.l0, cmp_Compare_eq, Option.bind_some]
          rw [if_pos (by omega), if_pos (by omega), if_pos (by omega), if_pos (by omega), if_neg h0]
    exact key a.length (Nat.le_refl _) (by rw [List.drop_length, show a.length = b.length by omega, List.drop_length])
  · refine ev_if_neg he ?_
    have e : cmpI (a.length : Int) (b.length : Int) = cmpI (val a) (val b) := by
      by_cases h : (a.length : Int) < (b.length : Int)
      · rw [cmpI_lt h, cmpI_lt (val_lt_len ha.1 hb (by omega))]
      · rw [cmpI_gt (show (b.length : Int) < (a.length : Int) by omega), cmpI_gt (val_lt_len hb.1 ha (by omega))]
    rw [e]; exact Ev.now _

/-! #### bitTop -/
theorem bitLen_top (t : Int) (h0 : 1 ≤ t) (h1 : t ≤ 65535) : ∃ L : Nat, Go.Lib.bitLen t.toNat = L ∧ 1 ≤ L ∧ L ≤ 16 ∧ t < 2 ^ L ∧ 2 ^ (L - 1) ≤ t := by
  have hle : Go.Lib.bitLen t.toNat ≤ 16 := Go.Lib.bitLen_le _ 16 (by decide) (by omega)
  have hp := bitLen_pos t.toNat (by omega) (by omega)
  refine ⟨_, rfl, hp, hle, ?_, ?_⟩
  · have := bitLen_lt t.toNat (Go.Lib.bitLen t.toNat) (Nat.le_refl _) (by omega)
    have e : ((2 ^ Go.Lib.bitLen t.toNat : Nat) : Int) = 2 ^ Go.Lib.bitLen t.toNat := by simp
    rw [← e]; omega
  · by_cases h : (2 : Int) ^ (Go.Lib.bitLen t.toNat - 1) ≤ t
    · exact h
    · have e : ((2 ^ (Go.Lib.bitLen t.toNat - 1) : Nat) : Int) = 2 ^ (Go.Lib.bitLen t.toNat - 1) := by simp
      rw [← e] at h
      have := Go.Lib.bitLen_le t.toNat (Go.Lib.bitLen t.toNat - 1) (by omega) (by omega)
      omega

/-! #### divide -/
/-- The limbs of a list that are told one by one. -/
theorem limbs_of_rd {l : List Int} (h : ∀ i : Nat, i < l.length → 0 ≤ rd l (i : Int) ∧ rd l (i : Int) ≤ 65535) : Limbs l := by
  intro x hx
  obtain ⟨i, hi, rfl⟩ := List.mem_iff_getElem.1 hx
  have := h i hi
  rwa [rd_get _ _ hi] at this
theorem limbs_take_drop {l : List Int} {j n m : Nat} (h : ∀ i : Nat, i ≠ m → 0 ≤ rd l (i : Int) ∧ rd l (i : Int) ≤ 65535) (hm : j + n ≤ m) (hl : j + n ≤ l.length) : Limbs ((l.drop j).take n) := by
  apply limbs_of_rd
  intro i hi
  rw [List.length_take, List.length_drop] at hi
  have := h (j + i) (by omega)
  rw [rd_get _ _ (by rw [List.length_take, List.length_drop]; omega), List.getElem_take, List.getElem_drop]
  rwa [rd_get _ _ (by omega)] at this
/-- The value from a place on: n limbs, the limb above them, nothing more. -/
theorem val_seg {l : List Int} {j n : Nat} (hl : j + n < l.length) (hz : val (l.drop (j + n + 1)) = 0) : val (l.drop j) = val ((l.drop j).take n) + pw n * rd l ((j + n : Nat) : Int) := by
  rw [val_take_drop (l.drop j) n (by rw [List.length_drop]; omega), List.drop_drop, val_drop_at hl, hz]
  simp
theorem high_zero {l : List Int} (h : Limbs l) (i : Nat) (hi : i ≤ l.length) (hv : val l < pw i) : val (l.drop i) = 0 := by
  have h1 := val_take_drop l i hi
  have h2 := val_nonneg (h.take i)
  have h3 := val_nonneg (h.drop i)
  by_cases h4 : val (l.drop i) = 0
  · exact h4
  · have h5 : pw i * 1 ≤ pw i * val (l.drop i) := Int.mul_le_mul_of_nonneg_left (by omega) (by have := pw_pos i; omega)
    omega
/-- One digit of a long division: what the program leaves, told of values. -/
theorem div_step (u v : List Int) (j : Nat) (hu : Limbs u) (hv : Limbs v) (hn : 2 ≤ v.length) (hnl : v.length ≤ 1000) (hul : u.length ≤ 10000) (hj : j + v.length < u.length) (htop : 32768 ≤ rd v ((v.length - 1 : Nat) : Int)) (hlt : val u < val v * pw (j + 1)) :
    ∃ (x : List Int), x.length = u.length ∧ Limbs x ∧ val x = val (u.take j) + pw j * (val (u.drop j) % val v) ∧ 0 ≤ val (u.drop j) / val v ∧ val (u.drop j) / val v ≤ 65535 ∧
      ∃ q : Int, Ev (fun k => impl_digitOf.f k u v (j : Int)) q ∧
        ((Ev (fun k => impl_takeAway.f k u v (j : Int) q) (false, x) ∧ q = val (u.drop j) / val v) ∨ ∃ y : List Int, Ev (fun k => impl_takeAway.f k u v (j : Int) q) (true, y) ∧ Ev (fun k => impl_addBack.f k y v (j : Int)) x ∧ q - 1 = val (u.drop j) / val v ∧ 0 ≤ q ∧ q ≤ 65535) := by
  have hV : 1 ≤ val v := by
    have h1 := val_take_drop v (v.length - 1) (by omega)
    rw [val_drop_at (show v.length - 1 < v.length by omega), List.drop_eq_nil_of_le (by omega)] at h1
    have h2 := val_nonneg (hv.take (v.length - 1))
    have h3 : pw (v.length - 1) * 1 ≤ pw (v.length - 1) * (rd v ((v.length - 1 : Nat) : Int) + 65536 * val []) := Int.mul_le_mul_of_nonneg_left (by simp only [val]; omega) (by have := pw_pos (v.length - 1); omega)
    have h4 := pw_pos (v.length - 1)
    omega
  have hVn : val v < pw v.length := val_lt hv
  have hpj := pw_pos j
  have hz : val (u.drop (j + v.length + 1)) = 0 := by
    refine high_zero hu _ (by omega) ?_
    have h1 : val v * pw (j + 1) ≤ pw v.length * pw (j + 1) := Int.mul_le_mul_of_nonneg_right (by omega) (by have := pw_pos (j + 1); omega)
    rw [← pw_add, show v.length + (j + 1) = j + v.length + 1 by omega] at h1
    omega
  have huj := val_take_drop u j (by omega)
  have hA := val_take_lt hu j (by omega)
  have hU0 := val_nonneg (hu.drop j)
  have hUlt : val (u.drop j) < val v * 65536 := by
    by_cases h : val (u.drop j) < val v * 65536
    · exact h
    · have h1 : pw j * (val v * 65536) ≤ pw j * val (u.drop j) := Int.mul_le_mul_of_nonneg_left (by omega) (by omega)
      have h2 : val v * pw (j + 1) = pw j * (val v * 65536) := by simp only [pw]; grind
      omega
  obtain ⟨q, q1, q0, qm, qt, ql⟩ := ev_impl_digitOf u v j hu hv hn hnl hul hj hz htop hUlt
  obtain ⟨x, x1, xl, xv, xlim, xt0, xt1, xd, xtk⟩ := ev_impl_takeAway u v j q hu hv hnl hul hj q0 (by omega)
  have hdm := Int.mul_ediv_add_emod (val (u.drop j)) (val v)
  have hm0 := Int.emod_nonneg (val (u.drop j)) (show val v ≠ 0 by omega)
  have hm1 := Int.emod_lt_of_pos (val (u.drop j)) (show 0 < val v by omega)
  have hq0 : 0 ≤ val (u.drop j) / val v := Int.ediv_nonneg hU0 (by omega)
  have hq1 : val (u.drop j) / val v ≤ 65535 := by omega
  have hqq : q - 1 ≤ val (u.drop j) / val v := Int.le_ediv_of_mul_le (by omega) ql
  -- what takeAway leaves
  have hxz : val (x.drop (j + v.length + 1)) = 0 := by rw [xd]; exact hz
  have hxj := val_take_drop x j (by omega)
  rw [xtk] at hxj
  have hxU : val (x.drop j) = val (u.drop j) - q * val v := by
    have h1 : pw j * val (x.drop j) = pw j * (val (u.drop j) - q * val v) := by
      rw [Int.mul_sub]
      omega
    exact Int.eq_of_mul_eq_mul_left (by omega) h1
  have hseg := val_seg (show j + v.length < x.length by omega) hxz
  have hL := limbs_take_drop xlim (Nat.le_refl (j + v.length)) (show j + v.length ≤ x.length by omega)
  have hL0 := val_nonneg hL
  have hL1 : val ((x.drop j).take v.length) < pw v.length := by
    have := val_lt hL
    rwa [List.length_take, List.length_drop, Nat.min_eq_left (by omega)] at this
  have hpn := pw_pos v.length
  by_cases hneg : rd x ((j + v.length : Nat) : Int) < 0
  · -- too great by one
    have hlt0 : val (u.drop j) - q * val v < 0 := by
      have : pw v.length * rd x ((j + v.length : Nat) : Int) ≤ pw v.length * (-1) := Int.mul_le_mul_of_nonneg_left (by omega) (by omega)
      omega
    have hqe : q - 1 = val (u.drop j) / val v := by
      have h1 : val v * (val (u.drop j) / val v) < val v * q := by rw [Int.mul_comm (val v) q]; omega
      have h2 := Int.lt_of_mul_lt_mul_left h1 (by omega)
      omega
    obtain ⟨y, y1, yl, yv, ylim, yd, ytk⟩ := ev_impl_addBack x v j xlim xt0 xt1 hv hnl (by omega) (by omega)
    have hyj := val_take_drop y j (by omega)
    rw [ytk, xtk] at hyj
    have hyU : val (y.drop j) = val (u.drop j) % val v := by
      have h1 : pw j * val (y.drop j) = pw j * (val (x.drop j) + val v) := by
        rw [Int.mul_add]
        omega
      have h2 := Int.eq_of_mul_eq_mul_left (by omega) h1
      rw [h2, hxU]
      have h3 : q * val v = val v * (val (u.drop j) / val v) + val v := by
        rw [← hqe]; grind
      omega
    have hyz : val (y.drop (j + v.length + 1)) = 0 := by rw [yd]; exact hxz
    have hyseg := val_seg (show j + v.length < y.length by omega) hyz
    have hyL := limbs_take_drop ylim (Nat.le_refl (j + v.length)) (show j + v.length ≤ y.length by omega)
    have hyL0 := val_nonneg hyL
    have hyL1 : val ((y.drop j).take v.length) < pw v.length := by
      have := val_lt hyL
      rwa [List.length_take, List.length_drop, Nat.min_eq_left (by omega)] at this
    have hyt : rd y ((j + v.length : Nat) : Int) = 0 := by
      rcases Int.lt_trichotomy (rd y ((j + v.length : Nat) : Int)) 0 with h | h | h
      · have : pw v.length * rd y ((j + v.length : Nat) : Int) ≤ pw v.length * (-1) := Int.mul_le_mul_of_nonneg_left (by omega) (by omega)
        omega
      · exact h
      · have : pw v.length * 1 ≤ pw v.length * rd y ((j + v.length : Nat) : Int) := Int.mul_le_mul_of_nonneg_left (by omega) (by omega)
        omega
    have hylimbs : Limbs y := limbs_of_rd (fun i _ => by
      by_cases e : i = j + v.length
      · rw [e, hyt]; omega
      · exact ylim i e)
    refine ⟨y, by omega, hylimbs, by rw [hyj, hyU], hq0, hq1, q, q1, .inr ⟨x, ?_, y1, hqe, q0, qm⟩⟩
    rw [decide_eq_true hneg] at x1
    exact x1
  · have hge0 : 0 ≤ val (u.drop j) - q * val v := by
      have : 0 ≤ pw v.length * rd x ((j + v.length : Nat) : Int) := Int.mul_nonneg (by omega) (by omega)
      omega
    have hqe : q = val (u.drop j) / val v := by
      have h1 : q ≤ val (u.drop j) / val v := Int.le_ediv_of_mul_le (by omega) (by omega)
      omega
    have hxm : val (x.drop j) = val (u.drop j) % val v := by
      rw [hxU, hqe, Int.mul_comm]; omega
    have hxt : rd x ((j + v.length : Nat) : Int) = 0 := by
      by_cases h : rd x ((j + v.length : Nat) : Int) = 0
      · exact h
      · have : pw v.length * 1 ≤ pw v.length * rd x ((j + v.length : Nat) : Int) := Int.mul_le_mul_of_nonneg_left (by omega) (by omega)
        omega
    have hxlimbs : Limbs x := limbs_of_rd (fun i _ => by
      by_cases e : i = j + v.length
      · rw [e, hxt]; omega
      · exact xlim i e)
    refine ⟨x, xl, hxlimbs, by rw [hxj, hxm], hq0, hq1, q, q1, .inl ⟨?_, hqe⟩⟩
    rw [decide_eq_false hneg] at x1
    exact x1
/-- All digits. -/
theorem div_loop (v : List Int) (s : Int) (s0 : 0 ≤ s) (s1 : s ≤ 15) (hv : Limbs v) (hn : 2 ≤ v.length) (hnl : v.length ≤ 1000) (htop : 32768 ≤ rd v ((v.length - 1 : Nat) : Int)) (W : Int) (hV : 1 ≤ val v) :
    ∀ (i : Nat) (u out : List Int), Limbs u → Limbs out → i ≤ out.length → out.length + v.length = u.length → u.length ≤ 10000 → val u < val v * pw i → W = pw i * (val (out.drop i) * val v) + val u →
      ∃ q r : List Int, Ev (fun k => impl_divide.l0 k s v u out ((i : Int) - 1)) (q, r) ∧ Norm q ∧ Norm r ∧ val q = W / val v ∧ val r = W % val v / 2 ^ s.toNat := by
  intro i
  induction i with
  | zero =>
    intro u out hu ho _ hlen hul hlt hW
    simp only [pw, List.drop_zero, Int.mul_one, Int.one_mul] at hlt hW
    obtain ⟨e1, e2⟩ := div_unique hV hW (val_nonneg hu) hlt
    obtain ⟨r, r1, r2, r3, r4⟩ := ev_impl_down (strip u) s (strip_limbs hu) (by have := strip_len u; omega) s0 (by omega)
    rw [shrI_two (strip_limbs hu) s s0, val_strip, e2] at r3
    refine ⟨strip out, r, ?_, strip_norm ho, r2, by rw [val_strip]; exact e1, r3⟩
    refine Ev.step (f := fun k => (impl_trim.f k out).bind fun t205 => ((impl_trim.f k u).bind fun t208 => ((impl_down.f k t208 s).bind fun t211 => (some (t205, t211))))) (fun k => ?_) ?_
    · simp only [impl_divide.l0]
      rw [if_neg (by omega)]
    · exact Ev.bind (ev_impl_trim out (by omega)) (Ev.bind (ev_impl_trim u (by omega)) (Ev.bind r1 (Ev.now _)))
  | succ j ih =>
    intro u out hu ho hi hlen hul hlt hW
    obtain ⟨x, xl, xlim, xv, d0, d1, q, q1, hcase⟩ := div_step u v j hu hv hn hnl hul (by omega) htop hlt
    have hA := val_take_lt hu j (by omega)
    have huj := val_take_drop u j (by omega)
    have hdm := Int.mul_ediv_add_emod (val (u.drop j)) (val v)
    have hm0 := Int.emod_nonneg (val (u.drop j)) (show val v ≠ 0 by omega)
    have hm1 := Int.emod_lt_of_pos (val (u.drop j)) (show 0 < val v by omega)
    have hpj := pw_pos j
    have hxlt : val x < val v * pw j := by
      have h1 : pw j * (val (u.drop j) % val v) ≤ pw j * (val v - 1) := Int.mul_le_mul_of_nonneg_left (by omega) (by omega)
      have h2 : pw j * (val v - 1) + pw j = val v * pw j := by grind
      omega
    obtain ⟨qq, r, hq, h2⟩ := ih x (out.set j (val (u.drop j) / val v)) xlim (ho.set j d0 d1) (by simp; omega) (by simp; omega) (by omega) hxlt (by
      rw [val_set_drop _ _ _ (by omega), hW, xv, huj]
      simp only [pw]
      generalize val (out.drop (j + 1)) = O at *
      generalize val (u.drop j) / val v = t at *
      generalize val (u.drop j) % val v = m at *
      generalize val v = V at *
      generalize val (u.take j) = A at *
      generalize pw j = P at *
      rw [← hdm]
      grind)
    refine ⟨qq, r, ?_, h2⟩
    have e0 : ∀ k, impl_divide.l0 (k + 1) s v u out (((j + 1 : Nat) : Int) - 1) = ((impl_digitOf.f k u v (j : Int)).bind fun t214 => ((impl_takeAway.f k u v (j : Int) t214).bind fun bt215 => (if bt215.1 = true then ((impl_addBack.f k bt215.2 v (j : Int)).bind fun t217 => (impl_divide.l0 k s v t217 (out.set j (wrap64 (t214 - 1))) ((j : Int) - 1))) else (impl_divide.l0 k s v bt215.2 (out.set j t214) ((j : Int) - 1))))) := by
      intro k
      simp only [impl_divide.l0]
      rw [show ((j + 1 : Nat) : Int) - 1 = (j : Int) by omega, if_pos (by omega)]
      have a1 : (0 : Int) ≤ (j : Int) := by omega
      have a2 : (j : Int) < (out.length : Int) := by omega
      simp only [if_pos a1, if_pos a2, Int.toNat_natCast]
      rw [w64 (x := (j : Int) - 1) (by omega) (by omega)]
    refine Ev.step e0 (Ev.bind q1 ?_)
    rcases hcase with ⟨h1, hqe⟩ | ⟨y, h1, h3, hqe, qa, qb⟩
    · refine Ev.bind h1 (ev_if_neg (by simp) ?_)
      rw [hqe]
      exact hq
    · refine Ev.bind h1 (ev_if_pos rfl (Ev.bind h3 ?_))
      rw [w64 (x := q - 1) (by omega) (by omega), hqe]
      exact hq
theorem ev_impl_divide (a b : List Int) (ha : Norm a) (hb : Norm b) (hal : a.length ≤ 900) (hbl : b.length ≤ 900) (hn : b ≠ []) :
    ∃ q r : List Int, Ev (fun k => impl_divide.f k a b) (q, r) ∧ Norm q ∧ Norm r ∧ val q = val a / val b ∧ val r = val a % val b := by
  have hV := hb.pos hn
  have hbp := List.length_pos_iff.2 hn
  have hA0 := val_nonneg ha.1
  have hcmp := ev_impl_compare a b ha hb (by omega) (by omega)
  unfold impl_divide.f
  by_cases hlt : val a < val b
  · refine ⟨[], a, ?_, Norm.nil, ha, by rw [Int.ediv_eq_zero_of_lt hA0 hlt]; rfl, (Int.emod_eq_of_lt hA0 hlt).symm⟩
    rw [cmpI_lt hlt] at hcmp
    refine Ev.bind hcmp (ev_if_pos (by omega) (ev_bind0 (a := a) ?_ (Ev.now _)))
    unfold slices_Clone_int_int.f
    rw [if_pos (by omega)]
  · have hc : ¬ cmpI (val a) (val b) < 0 := by
      by_cases h : val b < val a
      · rw [cmpI_gt h]; omega
      · rw [cmpI_eq (by omega)]; omega
    by_cases h1 : (b.length : Int) = 1
    · obtain ⟨D, rfl⟩ : ∃ D, b = [D] := List.length_eq_one_iff.1 (by omega)
      have hD : 1 ≤ D ∧ D ≤ 65535 := by
        have := hb.1.head
        simp only [val] at hV
        omega
      have hv : val [D] = D := by simp [val]
      obtain ⟨q, q1, q2, q3, q4⟩ := ev_impl_divideSmall a D ha.1 (by omega) (by omega) (by omega)
      have hm := Int.emod_lt_of_pos (val a) (show 0 < D by omega)
      have hm0 := Int.emod_nonneg (val a) (show D ≠ 0 by omega)
      refine ⟨q, dig (val a % D), ?_, q2, dig_norm hm0 (by omega), by rw [hv]; exact q3, by rw [hv]; exact dig_val hm0 (by omega)⟩
      exact Ev.bind hcmp (ev_if_neg hc (ev_if_pos h1 (ev_if_pos (by simp) (Ev.bind q1 (Ev.bind (ev_impl_small _ (by omega)) (Ev.now _))))))
    · have hlen : b.length ≤ a.length := len_le_of_val hb ha.1 (by omega)
      have ht := okB_top hb hbp
      rw [show (b.length : Int) - 1 = ((b.length - 1 : Nat) : Int) by omega] at ht
      obtain ⟨L, hL, L1, L2, L3, L4⟩ := bitLen_top (rd b ((b.length - 1 : Nat) : Int)) ht.1 ht.2
      have hbits : bits_Len.f (IntKind.u64.wrap (rd b ((b.length - 1 : Nat) : Int))) = some (L : Int) := by
        unfold bits_Len.f bits_Len64.f
        rw [u64_in (by omega) (by omega), if_pos (by omega), hL]
        rfl
      obtain ⟨v, v1, v2, v3⟩ := ev_impl_up b (16 - (L : Int)) hb.1 (by omega) (by omega) (by omega)
      obtain ⟨u, u1, u2, u3⟩ := ev_impl_up a (16 - (L : Int)) ha.1 (by omega) (by omega) (by omega)
      rw [shlI_two _ _ (by omega)] at v3 u3
      have hs : (16 - (L : Int)).toNat = 16 - L := by omega
      rw [hs] at v3 u3
      have hp2 := two_pos (16 - L)
      have hp2' : (2 : Int) ^ (16 - L) ≤ 32768 := by
        have := two_le (show 16 - L ≤ 15 by omega)
        have e : (2 : Int) ^ 15 = 32768 := by decide
        omega
      have hLL : (2 : Int) ^ (16 - L) * 2 ^ L = 65536 := by
        rw [← two_add, show 16 - L + L = 16 by omega]; decide
      have hLM : (2 : Int) ^ (16 - L) * 2 ^ (L - 1) = 32768 := by
        rw [← two_add, show 16 - L + (L - 1) = 15 by omega]; decide
      -- the parts of b
      have hbv := val_take_drop b (b.length - 1) (by omega)
      rw [val_drop_at (show b.length - 1 < b.length by omega), List.drop_eq_nil_of_le (by omega)] at hbv
      have hbt := val_take_lt hb.1 (b.length - 1) (by omega)
      have hpb := pw_pos (b.length - 1)
      have hpw : pw b.length = 65536 * pw (b.length - 1) := by
        obtain ⟨m, hm⟩ : ∃ m, b.length = m + 1 := ⟨b.length - 1, by omega⟩
        rw [hm]; rfl
      simp only [val] at hbv
      have hvlt : val v < pw b.length := by
        have c1 : val b + 1 ≤ pw (b.length - 1) * 2 ^ L := by
          have : pw (b.length - 1) * (rd b ((b.length - 1 : Nat) : Int) + 1) ≤ pw (b.length - 1) * 2 ^ L := Int.mul_le_mul_of_nonneg_left (by omega) (by omega)
          have e : pw (b.length - 1) * (rd b ((b.length - 1 : Nat) : Int) + 1) = pw (b.length - 1) * (rd b ((b.length - 1 : Nat) : Int) + 65536 * 0) + pw (b.length - 1) := by grind
          omega
        have c2 : (val b + 1) * 2 ^ (16 - L) ≤ pw (b.length - 1) * 2 ^ L * 2 ^ (16 - L) := Int.mul_le_mul_of_nonneg_right c1 (by omega)
        have c3 : pw (b.length - 1) * 2 ^ L * 2 ^ (16 - L) = 65536 * pw (b.length - 1) := by rw [Int.mul_assoc, Int.mul_comm (2 ^ L), hLL, Int.mul_comm]
        rw [Int.add_mul, ← v3] at c2
        omega
      have hvge : 32768 * pw (b.length - 1) ≤ val v := by
        have c1 : pw (b.length - 1) * 2 ^ (L - 1) ≤ val b := by
          have : pw (b.length - 1) * 2 ^ (L - 1) ≤ pw (b.length - 1) * (rd b ((b.length - 1 : Nat) : Int) + 65536 * 0) := Int.mul_le_mul_of_nonneg_left (by omega) (by omega)
          omega
        have c2 : pw (b.length - 1) * 2 ^ (L - 1) * 2 ^ (16 - L) ≤ val b * 2 ^ (16 - L) := Int.mul_le_mul_of_nonneg_right c1 (by omega)
        have c3 : pw (b.length - 1) * 2 ^ (L - 1) * 2 ^ (16 - L) = 32768 * pw (b.length - 1) := by rw [Int.mul_assoc, Int.mul_comm (2 ^ (L - 1)), hLM, Int.mul_comm]
        omega
      have hvl : v.length = b.length := by
        have c1 := len_of_lt v2 hvlt
        have c2 := val_lt v2.1
        by_cases h : b.length ≤ v.length
        · omega
        · have := pw_le (show v.length ≤ b.length - 1 by omega)
          omega
      have hvtop : 32768 ≤ rd v ((v.length - 1 : Nat) : Int) := by
        have c0 := val_take_drop v (v.length - 1) (by omega)
        rw [val_drop_at (show v.length - 1 < v.length by omega), List.drop_eq_nil_of_le (by omega)] at c0
        simp only [val] at c0
        have c1 := val_take_lt v2.1 (v.length - 1) (by omega)
        rw [hvl] at c0 c1 ⊢
        by_cases h : 32768 ≤ rd v ((b.length - 1 : Nat) : Int)
        · exact h
        · have c2 : pw (b.length - 1) * (rd v ((b.length - 1 : Nat) : Int) + 65536 * 0) ≤ pw (b.length - 1) * 32767 := Int.mul_le_mul_of_nonneg_left (by omega) (by omega)
          omega
      have hul : u.length ≤ a.length + 1 := by
        refine len_of_lt u2 ?_
        have c1 := val_lt ha.1
        have c2 : val a * 2 ^ (16 - L) ≤ val a * 32768 := Int.mul_le_mul_of_nonneg_left hp2' hA0
        rw [show pw (a.length + 1) = 65536 * pw a.length from rfl]
        omega
      obtain ⟨z, hz⟩ : ∃ z : Nat, z = a.length + 1 - u.length := ⟨_, rfl⟩
      obtain ⟨m, hm⟩ : ∃ m : Nat, m = a.length - b.length + 1 := ⟨_, rfl⟩
      have hu0 : val (u ++ List.replicate z 0) = val a * 2 ^ (16 - L) := by rw [val_append, val_zeros]; omega
      have hstart : val (u ++ List.replicate z 0) < val v * pw m := by
        rw [hu0]
        have c1 := val_lt ha.1
        have c2 : val a * 2 ^ (16 - L) ≤ val a * 32768 := Int.mul_le_mul_of_nonneg_left hp2' hA0
        have c3 : 32768 * pw (b.length - 1) * pw m ≤ val v * pw m := Int.mul_le_mul_of_nonneg_right hvge (by have := pw_pos m; omega)
        have c4 : 32768 * pw (b.length - 1) * pw m = 32768 * pw a.length := by rw [Int.mul_assoc, ← pw_add, show b.length - 1 + m = a.length by omega]
        omega
      have hv1 : 1 ≤ val v := by omega
      obtain ⟨q, r, hq, q2, r2, q3, r3⟩ := div_loop v (16 - (L : Int)) (by omega) (by omega) v2.1 (by omega) (by omega) hvtop (val a * 2 ^ (16 - L)) hv1 m (u ++ List.replicate z 0) (List.replicate m 0) (u2.1.append (Limbs.zeros _)) (Limbs.zeros _) (by simp) (by simp; omega) (by simp; omega) hstart (by rw [hu0, List.drop_eq_nil_of_le (by simp)]; simp [val])
      refine ⟨q, r, ?_, q2, r2, ?_, ?_⟩
      · refine Ev.bind hcmp (ev_if_neg hc (ev_if_neg h1 ?_))
        rw [w64 (x := (b.length : Int) - 1) (by omega) (by omega), show (b.length : Int) - 1 = ((b.length - 1 : Nat) : Int) by omega]
        refine ev_if_pos (by omega) (ev_if_pos (by omega) (ev_bind0 hbits ?_))
        rw [w64 (x := 16 - (L : Int)) (by omega) (by omega)]
        refine Ev.bind v1 (Ev.bind u1 ?_)
        rw [w64 (x := (a.length : Int) + 1) (by omega) (by omega), w64 (x := (a.length : Int) + 1 - (u.length : Int)) (by omega) (by omega), w64 (x := (a.length : Int) - (b.length : Int)) (by omega) (by omega), w64 (x := (a.length : Int) - (b.length : Int) + 1) (by omega) (by omega), show ((a.length : Int) + 1 - (u.length : Int)).toNat = z by omega, show ((a.length : Int) - (b.length : Int) + 1).toNat = m by omega]
        refine ev_if_pos (by omega) (ev_if_pos (by omega) (ev_if_pos (by omega) (ev_if_pos (by omega) (ev_bind0 rfl ?_))))
        rw [List.length_replicate, w64 (x := (m : Int) - 1) (by omega) (by omega)]
        exact hq
      · rw [q3, v3]
        exact Int.mul_ediv_mul_of_pos_left _ _ (by omega)
      · have d1 := Int.mul_ediv_add_emod (val a) (val b)
        have d2 := Int.emod_nonneg (val a) (show val b ≠ 0 by omega)
        have d3 := Int.emod_lt_of_pos (val a) (show 0 < val b by omega)
        have d4 : (val a % val b) * 2 ^ (16 - L) < val b * 2 ^ (16 - L) := Int.mul_lt_mul_of_pos_right d3 (by omega)
        have d5 := div_unique (a := val a * 2 ^ (16 - L)) (q := val a / val b) (r := (val a % val b) * 2 ^ (16 - L)) (D := val v) hv1 (by
          rw [v3]
          generalize val a / val b = t at *
          generalize val a % val b = w at *
          rw [← d1]
          grind) (Int.mul_nonneg d2 (by omega)) (by rw [v3]; exact d4)
        rw [r3, ← d5.2, hs]
        exact Int.mul_ediv_cancel _ (by omega)

/-! #### specsub -/
theorem ev_spec_l2sub (a b : List Int) (ha : Norm a) (hb : Norm b) (hl : a.length ≤ 100000) (hv : val b ≤ val a) : ∃ q : List Int, Ev (fun k => spec_l2sub.f k a b) q ∧ Norm q ∧ val q = val a - val b := by
  unfold spec_l2sub.f
  have hbl : b.length ≤ a.length := len_le_of_val hb ha.1 hv
  have rdv : ∀ (l : List Int) (i : Nat), val (l.drop i) = rd l (i : Int) + 65536 * val (l.drop (i + 1)) := by
    intro l i
    by_cases h : i < l.length
    · exact val_drop_at h
    · rw [List.drop_eq_nil_of_le (by omega), List.drop_eq_nil_of_le (by omega), rd_out _ _ (by omega)]
      simp [val]
  have key : ∀ d i : Nat, i + d = a.length → ∀ (x : List Int) (c : Int), x.length = i → Limbs x → (c = 0 ∨ c = 1) → val x + pw i * (val (a.drop i) - val (b.drop i) - c) = val a - val b →
      ∃ q : List Int, Ev (fun k => spec_l2sub.l0 k x c (i : Int) a b) q ∧ Norm q ∧ val q = val a - val b := by
    intro d
    induction d with
    | zero =>
      intro i hi x c hx hlim hc hval
      rw [List.drop_eq_nil_of_le (show a.length ≤ i by omega), List.drop_eq_nil_of_le (show b.length ≤ i by omega)] at hval
      simp only [val] at hval
      have hc0 : c = 0 := by
        rcases hc with h | h
        · exact h
        · have h1 := val_lt hlim
          rw [hx] at h1
          rw [h] at hval
          omega
      rw [hc0] at hval
      refine ⟨strip x, ?_, strip_norm hlim, by rw [val_strip]; omega⟩
      refine Ev.step (f := fun k => (spec_l2norm.f k x).bind fun t => some t) (fun k => ?_) (Ev.bind (ev_spec_l2norm x (by omega)) (Ev.now _))
      simp only [spec_l2sub.l0]
      rw [if_neg (by omega)]
    | succ d ih =>
      intro i hi x c hx hlim hc hval
      have ha1 := rd_limb ha.1 (i : Int)
      have hb1 := rd_limb hb.1 (i : Int)
      rw [rdv a i, rdv b i] at hval
      have w1 : ∀ y : Int, -1000000 ≤ y → y ≤ 1000000 → wrap64 y = y := fun y h0 h1 => w64 (by omega) (by omega)
      by_cases hn : rd a (i : Int) - c - rd b (i : Int) < 0
      · obtain ⟨q, hq, h2⟩ := ih (i + 1) (by omega) (x ++ [rd a (i : Int) - c - rd b (i : Int) + 65536]) 1 (by simp; omega) (hlim.append (Limbs.cons (by omega) (by omega) Limbs.nil)) (.inr rfl) (by
          rw [val_snoc, hx, ← hval]
          simp only [pw]
          generalize val (a.drop (i + 1)) = u
          generalize val (b.drop (i + 1)) = v
          generalize rd a (i : Int) = p
          generalize rd b (i : Int) = r
          generalize pw i = P
          grind)
        refine ⟨q, Ev.step (fun k => ?_) hq, h2⟩
        simp only [spec_l2sub.l0]
        rw [if_pos (by omega), if_pos (by omega)]
        by_cases hib : (i : Int) < (b.length : Int)
        · rw [if_pos hib, w1 (rd a (i : Int) - c) (by omega) (by omega), w1 (rd a (i : Int) - c - rd b (i : Int)) (by omega) (by omega), if_pos hn, if_pos (by omega), w1 _ (by omega) (by omega), w1 _ (by omega) (by omega)]
          rfl
        · have hz : rd b (i : Int) = 0 := rd_out _ _ (by omega)
          rw [hz] at hn ⊢
          rw [if_neg hib, w1 (rd a (i : Int) - c) (by omega) (by omega), if_pos (by omega), if_pos (by omega), w1 _ (by omega) (by omega), w1 _ (by omega) (by omega)]
          simp only [Int.sub_zero]
          rfl
      · obtain ⟨q, hq, h2⟩ := ih (i + 1) (by omega) (x ++ [rd a (i : Int) - c - rd b (i : Int)]) 0 (by simp; omega) (hlim.append (Limbs.cons (by omega) (by omega) Limbs.nil)) (.inl rfl) (by
          rw [val_snoc, hx, ← hval]
          simp only [pw]
          generalize val (a.drop (i + 1)) = u
          generalize val (b.drop (i + 1)) = v
          generalize rd a (i : Int) = p
          generalize rd b (i : Int) = r
          generalize pw i = P
          grind)
        refine ⟨q, Ev.step (fun k => ?_) hq, h2⟩
        simp only [spec_l2sub.l0]
        rw [if_pos (by omega), if_pos (by omega)]
        by_cases hib : (i : Int) < (b.length : Int)
        · rw [if_pos hib, w1 (rd a (i : Int) - c) (by omega) (by omega), w1 (rd a (i : Int) - c - rd b (i : Int)) (by omega) (by omega), if_neg hn, if_pos (by omega), w1 _ (by omega) (by omega)]
          rfl
        · have hz : rd b (i : Int) = 0 := rd_out _ _ (by omega)
          rw [hz] at hn ⊢
          rw [if_neg hib, w1 (rd a (i : Int) - c) (by omega) (by omega), if_neg (by omega), if_pos (by omega), w1 _ (by omega) (by omega)]
          simp only [Int.sub_zero]
          rfl
  exact key a.length 0 (by omega) [] 0 rfl Limbs.nil (.inl rfl) (by simp [val, pw])

/-! #### l2of -/
theorem ev_spec_l2of (n : Int) (h1 : n ≤ 9223372036854775807) : Ev (fun k => spec_l2of.f k n) (dig n) := by
  unfold spec_l2of.f dig
  have key : ∀ f : Nat, ∀ x : Int, ∀ acc : List Int, x < pw f → x ≤ 9223372036854775807 → acc.length + f < 1000 → Ev (fun k => spec_l2of.l0 k x acc) (acc ++ digF f x) := by
    intro f
    induction f with
    | zero =>
      intro x acc hx hb ha
      simp [pw] at hx
      refine Ev.step (f := fun _ => some (acc ++ digF 0 x)) (fun k => ?_) (Ev.now _)
      simp only [spec_l2of.l0]
      rw [if_neg (by omega)]; simp [digF]
    | succ f ih =>
      intro x acc hx hb ha
      by_cases h : x ≤ 0
      · refine Ev.step (f := fun _ => some (acc ++ digF (f + 1) x)) (fun k => ?_) (Ev.now _)
        simp only [spec_l2of.l0]
        rw [if_neg (by omega)]; simp [digF, h]
      · have e : acc ++ digF (f + 1) x = (acc ++ [x % 65536]) ++ digF f (x / 65536) := by
          simp [digF, h]
        rw [e]
        simp only [pw] at hx
        refine Ev.step (f := fun k => spec_l2of.l0 k (x / 65536) (acc ++ [x % 65536])) (fun k => ?_) (ih _ _ (by omega) (by omega) (by simp; omega))
        simp only [spec_l2of.l0]
        rw [if_pos (by omega), if_pos (by omega), td _ _ (by omega), tm _ _ (by omega), w64 (by omega) (by omega)]
  have := key 4 n [] (by rw [pw4]; omega) h1 (by simp)
  simpa using this

/-! #### small2 -/
theorem ev_spec_l2small (a : List Int) (D : Int) (ha : Limbs a) (hb : a.length ≤ 1000000) (hD : 1 ≤ D) (hD2 : D ≤ 65536) :
    ∃ q : List Int, Ev (fun k => spec_l2small.f k a D) (q, val a % D) ∧ Norm q ∧ val q = val a / D ∧ q.length ≤ a.length := by
  unfold spec_l2small.f
  have key : ∀ d : Nat, d ≤ a.length → ∀ (x : List Int) (r : Int), x.length = a.length → Limbs x → 0 ≤ r → r < D → val (a.drop d) = val (x.drop d) * D + r →
      ∃ q : List Int, Ev (fun k => spec_l2small.l0 k D x r ((d : Int) - 1) a) (q, val a % D) ∧ Norm q ∧ val q = val a / D ∧ q.length ≤ a.length := by
    intro d
    induction d with
    | zero =>
      intro _ x r hx hl h0 h1 hv
      simp only [List.drop_zero] at hv
      obtain ⟨e1, e2⟩ := div_unique hD hv h0 h1
      refine ⟨strip x, ?_, strip_norm hl, by rw [val_strip]; exact e1, by have := strip_len x; omega⟩
      have hn := ev_spec_l2norm x (by omega)
      refine Ev.step (f := fun k => (spec_l2norm.f k x).bind fun t => some (t, r)) (fun k => ?_) ?_
      · simp only [spec_l2small.l0]
        rw [if_neg (by omega)]
      · rw [← e2]; exact Ev.bind hn (Ev.now _)
    | succ d ih =>
      intro hd x r hx hl h0 h1 hv
      have hy := rd_limb ha (d : Int)
      have hdg := small_digit D r (rd a (d : Int)) hD h0 h1 hy.1 hy.2
      have hm0 := Int.emod_nonneg (r * 65536 + rd a (d : Int)) (show D ≠ 0 by omega)
      have hm1 := Int.emod_lt_of_pos (r * 65536 + rd a (d : Int)) (show 0 < D by omega)
      obtain ⟨q, hq, hrest⟩ := ih (by omega) (x.set d ((r * 65536 + rd a (d : Int)) / D)) ((r * 65536 + rd a (d : Int)) % D) (by simpa using hx) (hl.set d hdg.1 hdg.2) hm0 hm1 (by
        rw [val_set_drop _ _ _ (by omega), val_drop_at (by omega)]
        exact small_step D r _ _ _ hD hv)
      refine ⟨q, Ev.step (fun k => ?_) hq, hrest⟩
      simp only [spec_l2small.l0]
      rw [show ((d + 1 : Nat) : Int) - 1 = (d : Int) by omega]
      rw [if_pos (by omega), if_pos (by omega), if_pos (by omega), if_neg (by omega), if_pos (by omega), w64 (x := r * 65536) (by omega) (by omega), w64 (x := r * 65536 + rd a (d : Int)) (by omega) (by omega), td _ _ (by omega), tm _ _ (by omega), w64 (by omega) (by omega), w64 (by omega) (by omega), Int.toNat_natCast]
  obtain ⟨q, hq, h2⟩ := key a.length (Nat.le_refl _) (List.replicate a.length 0) 0 (by simp) (Limbs.zeros _) (by omega) (by omega) (by rw [List.drop_length]; simp [val])
  refine ⟨q, ?_, h2⟩
  refine ev_if_pos (by omega) (ev_if_pos (by omega) ?_)
  rw [w64 (by omega) (by omega), Int.toNat_natCast]
  exact hq

/-! #### cmpS -/
theorem ev_spec_l2cmp (a b : List Int) (ha : Norm a) (hb : Norm b) (hl : a.length ≤ 1000000) (hl2 : b.length ≤ 1000000) : Ev (fun k => spec_l2cmp.f k a b) (cmpI (val a) (val b)) := by
  unfold spec_l2cmp.f
  by_cases he : (a.length : Int) = (b.length : Int)
  · refine ev_if_pos he ?_
    rw [w64 (by omega) (by omega)]
    have key : ∀ d : Nat, d ≤ a.length → val (a.drop d) = val (b.drop d) → Ev (fun k => spec_l2cmp.l0 k ((d : Int) - 1) a b) (cmpI (val a) (val b)) := by
      intro d
      induction d with
      | zero =>
        intro _ hv
        simp at hv
        rw [cmpI_eq hv]
        refine Ev.step (f := fun _ => some 0) (fun k => ?_) (Ev.now _)
        simp only [spec_l2cmp.l0]
        rw [if_neg (by omega)]
      | succ d ih =>
        intro hd hv
        rw [show ((d + 1 : Nat) : Int) - 1 = (d : Int) by omega]
        by_cases h1 : rd a (d : Int) < rd b (d : Int)
        · have hlt : val a < val b := val_lt_at ha.1 hb.1 (i := d) (by omega) (by omega) hv (by rwa [rd_get _ _ (by omega), rd_get _ _ (by omega)] at h1)
          rw [cmpI_lt hlt]
          refine Ev.step (f := fun _ => some (-1)) (fun k => ?_) (Ev.now _)
          simp only [spec_l2cmp.l0]
          rw [if_pos (by omega), if_pos (by omega), if_pos (by omega), if_pos (by omega), if_pos h1]
        · by_cases h2 : rd a (d : Int) > rd b (d : Int)
          · have hlt : val b < val a := val_lt_at hb.1 ha.1 (i := d) (by omega) (by omega) hv.symm (by rwa [gt_iff_lt, rd_get _ _ (by omega), rd_get _ _ (by omega)] at h2)
            rw [cmpI_gt hlt]
            refine Ev.step (f := fun _ => some 1) (fun k => ?_) (Ev.now _)
            simp only [spec_l2cmp.l0]
            rw [if_pos (by omega), if_pos (by omega), if_pos (by omega), if_pos (by omega), if_neg h1, if_pos h2]
          · refine Ev.step (f := fun k => spec_l2cmp.l0 k ((d : Int) - 1) a b) (fun k => ?_) (ih (by omega) ?_)
            · simp only [spec_l2cmp.l0]
              rw [if_pos (by omega), if_pos (by omega), if_pos (by omega), if_pos (by omega), if_neg h1, if_neg h2, w64 (by omega) (by omega)]
            · have e : rd a (d : Int) = rd b (d : Int) := by omega
              rw [rd_get _ _ (by omega), rd_get _ _ (by omega)] at e
              rw [List.drop_eq_getElem_cons (show d < a.length by omega), List.drop_eq_getElem_cons (show d < b.length by omega)]
              simp only [val, e, hv]
    exact key a.length (Nat.le_refl _) (by rw [List.drop_length, show a.length = b.length by omega, List.drop_length])
  · refine ev_if_neg he ?_
    by_cases h : (a.length : Int) < (b.length : Int)
    · rw [cmpI_lt (val_lt_len ha.1 hb (by omega))]; exact ev_if_pos h (Ev.now _)
    · rw [cmpI_gt (val_lt_len hb.1 ha (by omega))]; exact ev_if_neg h (Ev.now _)

/-! #### cmp -/

/-! #### specdiv -/
/-- The digit sought by halves. -/
theorem spec_div_digit (a b rest out : List Int) (i : Nat) (hb : Norm b) (hr : Norm rest) (hbl : b.length ≤ 1000) (hrl : rest.length ≤ 2000) (hV : 1 ≤ val b) (hi : i < out.length) (hil : i ≤ 1000000) :
    ∀ (d : Nat) (lo hi : Int), hi - lo ≤ d → 0 ≤ lo → lo < hi → hi ≤ 65536 → val b * lo ≤ val rest → val rest < val b * hi →
      ∃ rest' : List Int, Norm rest' ∧ val rest' = val rest % val b ∧ ∀ X : List Int × List Int, Ev (fun k => spec_l2div.l0 k (out.set i (val rest / val b)) ((i : Int) - 1) a b rest') X → Ev (fun k => spec_l2div.l1 k out (i : Int) lo hi a b rest) X := by
  intro d
  induction d with
  | zero => intro lo hi h1 h2 h3; omega
  | succ d ih =>
    intro lo hi h1 h2 h3 h4 h5 h6
    by_cases hc : hi - lo > 1
    · obtain ⟨m, hm⟩ : ∃ m : Int, m = (lo + hi) / 2 := ⟨_, rfl⟩
      have m0 : lo < m := by omega
      have m1 : m < hi := by omega
      obtain ⟨t, t1, t2, t3, t4⟩ := ev_spec_l2mul b (dig m) hb.1 (dig_norm (by omega) (by omega)).1 (by omega) (by have := dig_len m; omega)
      rw [dig_val (by omega) (by omega)] at t3
      have hcmp := ev_spec_l2cmp t rest t2 hr (by have := dig_len m; omega) (by omega)
      rw [t3] at hcmp
      have e0 : ∀ k, spec_l2div.l1 (k + 1) out (i : Int) lo hi a b rest = ((spec_l2of.f k m).bind fun t348 => ((spec_l2mul.f k b t348).bind fun t351 => ((spec_l2cmp.f k t351 rest).bind fun t354 => (if t354 ≤ 0 then (spec_l2div.l1 k out (i : Int) m hi a b rest) else (spec_l2div.l1 k out (i : Int) lo m a b rest))))) := by
        intro k
        simp only [spec_l2div.l1]
        rw [if_pos (by rw [w64 (by omega) (by omega)]; omega), w64 (x := lo + hi) (by omega) (by omega), td _ _ (by omega), ← hm, w64 (x := m) (by omega) (by omega)]
      by_cases hle : val b * m ≤ val rest
      · obtain ⟨u, u1, u2, u3⟩ := ih m hi (by omega) (by omega) m1 h4 hle h6
        refine ⟨u, u1, u2, fun X hX => Ev.step e0 (Ev.bind (ev_spec_l2of m (by omega)) (Ev.bind t1 (Ev.bind hcmp (ev_if_pos ?_ (u3 X hX)))))⟩
        by_cases hlt : val b * m < val rest
        · rw [cmpI_lt hlt]; omega
        · rw [cmpI_eq (by omega)]; omega
      · obtain ⟨u, u1, u2, u3⟩ := ih lo m (by omega) h2 m0 (by omega) h5 (by omega)
        refine ⟨u, u1, u2, fun X hX => Ev.step e0 (Ev.bind (ev_spec_l2of m (by omega)) (Ev.bind t1 (Ev.bind hcmp (ev_if_neg ?_ (u3 X hX)))))⟩
        rw [cmpI_gt (by omega)]; omega
    · have hh : hi = lo + 1 := by omega
      subst hh
      have r0 := val_nonneg hr.1
      have hq : val b * lo + (val rest - val b * lo) = val rest := by omega
      obtain ⟨e1, e2⟩ := div_unique (a := val rest) (q := lo) (r := val rest - val b * lo) (D := val b) hV (by rw [Int.mul_comm lo]; omega) (by omega) (by rw [Int.mul_add] at h6; omega)
      obtain ⟨t, t1, t2, t3, t4⟩ := ev_spec_l2mul b (dig lo) hb.1 (dig_norm h2 (by omega)).1 (by omega) (by have := dig_len lo; omega)
      rw [dig_val h2 (by omega)] at t3
      obtain ⟨u, u1, u2, u3⟩ := ev_spec_l2sub rest t hr t2 (by omega) (by omega)
      refine ⟨u, u2, by rw [u3, t3]; exact e2, fun X hX => ?_⟩
      rw [← e1] at hX
      have e0 : ∀ k, spec_l2div.l1 (k + 1) out (i : Int) lo (lo + 1) a b rest = ((spec_l2of.f k lo).bind fun t339 => ((spec_l2mul.f k b t339).bind fun t342 => ((spec_l2sub.f k rest t342).bind fun t345 => (spec_l2div.l0 k (out.set i lo) ((i : Int) - 1) a b t345)))) := by
        intro k
        simp only [spec_l2div.l1]
        rw [if_neg (by rw [w64 (by omega) (by omega)]; omega), if_pos (by omega), if_pos (by omega), Int.toNat_natCast, w64 (x := (i : Int) - 1) (by omega) (by omega)]
      exact Ev.step e0 (Ev.bind (ev_spec_l2of lo (by omega)) (Ev.bind t1 (Ev.bind u1 hX)))
theorem ev_spec_l2div (a b : List Int) (ha : Norm a) (hb : Norm b) (hal : a.length ≤ 1000) (hbl : b.length ≤ 1000) (hn : b ≠ []) :
    ∃ q r : List Int, Ev (fun k => spec_l2div.f k a b) (q, r) ∧ Norm q ∧ Norm r ∧ val q = val a / val b ∧ val r = val a % val b := by
  have hV := hb.pos hn
  have hbp := List.length_pos_iff.2 hn
  unfold spec_l2div.f
  by_cases h1 : (b.length : Int) = 1
  · obtain ⟨D, rfl⟩ : ∃ D, b = [D] := List.length_eq_one_iff.1 (by omega)
    have hD : 1 ≤ D ∧ D ≤ 65535 := by
      have := hb.1.head
      simp only [val] at hV
      omega
    obtain ⟨q, q1, q2, q3, q4⟩ := ev_spec_l2small a D ha.1 (by omega) (by omega) (by omega)
    have hm := Int.emod_lt_of_pos (val a) (show 0 < D by omega)
    have hm0 := Int.emod_nonneg (val a) (show D ≠ 0 by omega)
    have hv : val [D] = D := by simp [val]
    refine ⟨q, dig (val a % D), ?_, q2, dig_norm hm0 (by omega), by rw [hv]; exact q3, by rw [hv]; exact dig_val hm0 (by omega)⟩
    exact ev_if_pos h1 (ev_if_pos (by simp) (Ev.bind q1 (Ev.bind (ev_spec_l2of _ (by omega)) (Ev.now _))))
  · refine ?_
    have key : ∀ (i : Nat), i ≤ a.length → ∀ (out rest : List Int), out.length = a.length → Limbs out → Norm rest → val rest < val b → val (a.drop i) = val (out.drop i) * val b + val rest →
        ∃ q r : List Int, Ev (fun k => spec_l2div.l0 k out ((i : Int) - 1) a b rest) (q, r) ∧ Norm q ∧ Norm r ∧ val q = val a / val b ∧ val r = val a % val b := by
      intro i
      induction i with
      | zero =>
        intro _ out rest ho hlim hr hlt hval
        simp only [List.drop_zero] at hval
        obtain ⟨e1, e2⟩ := div_unique hV hval (val_nonneg hr.1) hlt
        refine ⟨strip out, rest, ?_, strip_norm hlim, hr, by rw [val_strip]; exact e1, e2⟩
        refine Ev.step (f := fun k => (spec_l2norm.f k out).bind fun t => some (t, rest)) (fun k => ?_) (Ev.bind (ev_spec_l2norm out (by omega)) (Ev.now _))
        simp only [spec_l2div.l0]
        rw [if_neg (by omega)]
      | succ i ih =>
        intro hi out rest ho hlim hr hlt hval
        have hx := rd_limb ha.1 (i : Int)
        have hrl : rest.length ≤ b.length := len_le_of_val hr hb.1 (by omega)
        have hr0 := val_nonneg hr.1
        have hl2 : Limbs (rd a (i : Int) :: rest) := Limbs.cons hx.1 hx.2 hr.1
        have hs : val (strip (rd a (i : Int) :: rest)) = rd a (i : Int) + 65536 * val rest := by rw [val_strip]; rfl
        have hsn := strip_norm hl2
        have hsl := strip_len (rd a (i : Int) :: rest)
        have hub : val (strip (rd a (i : Int) :: rest)) < val b * 65536 := by rw [hs]; omega
        have hub0 := val_nonneg hsn.1
        generalize hS : strip (rd a (i : Int) :: rest) = s at *
        have hd0 : 0 ≤ val s / val b := Int.ediv_nonneg hub0 (by omega)
        have hd1 : val s / val b ≤ 65535 := by
          have := Int.ediv_lt_of_lt_mul (show 0 < val b by omega) (show val s < 65536 * val b by rw [Int.mul_comm]; exact hub)
          omega
        have hm0 := Int.emod_nonneg (val s) (show val b ≠ 0 by omega)
        have hm1 := Int.emod_lt_of_pos (val s) (show 0 < val b by omega)
        have hdm := Int.mul_ediv_add_emod (val s) (val b)
        have hslen : s.length ≤ 2000 := by
          have : (rd a (i : Int) :: rest).length = rest.length + 1 := by simp
          omega
        obtain ⟨u, u1, u2, u3⟩ := spec_div_digit a b s out i hb hsn hbl hslen hV (by omega) (by omega) 65536 0 65536 (by omega) (by omega) (by omega) (by omega) (by omega) hub
        obtain ⟨q, r, hq, h2⟩ := ih (by omega) (out.set i (val s / val b)) u (by simpa using ho) (hlim.set i hd0 hd1) u1 (by rw [u2]; exact hm1) (by
          rw [val_drop_at (by omega), val_set_drop _ _ _ (by omega), u2, hval]
          generalize val (out.drop (i + 1)) = O at *
          generalize val s / val b = t at *
          generalize val s % val b = w at *
          generalize val b = B at *
          generalize val rest = R at *
          generalize rd a (i : Int) = x at *
          have : x + 65536 * R = B * t + w := by omega
          grind)
        refine ⟨q, r, ?_, h2⟩
        have e0 : ∀ k, spec_l2div.l0 (k + 1) out (((i + 1 : Nat) : Int) - 1) a b rest = ((spec_l2norm.f k (rd a (i : Int) :: rest)).bind fun t335 => (spec_l2div.l1 k out (i : Int) 0 65536 a b t335)) := by
          intro k
          simp only [spec_l2div.l0]
          rw [show ((i + 1 : Nat) : Int) - 1 = (i : Int) by omega, if_pos (by omega), if_pos (by omega), if_pos (by omega)]
          simp only [Option.bind_some]
          rw [if_pos (by simp; omega)]
          rfl
        have hnorm := ev_spec_l2norm (rd a (i : Int) :: rest) (by simp; omega)
        rw [hS] at hnorm
        exact Ev.step e0 (Ev.bind hnorm (u3 _ hq))
    obtain ⟨q, r, hq, h2⟩ := key a.length (Nat.le_refl _) (List.replicate a.length 0) [] (by simp) (Limbs.zeros _) Norm.nil (by simp only [val]; omega) (by rw [List.drop_length, List.drop_eq_nil_of_le (by simp)]; simp [val])
    refine ⟨q, r, ?_, h2⟩
    refine ev_if_neg h1 (ev_if_pos (by omega) (ev_if_pos (by omega) ?_))
    rw [w64 (by omega) (by omega), Int.toNat_natCast]
    exact hq

/-! #### NatOkS -/
theorem getLast_rd (l : List Int) (h : 0 < l.length) : l.getLast? = some (rd l ((l.length : Int) - 1)) := by
  rw [show (l.length : Int) - 1 = ((l.length - 1 : Nat) : Int) by omega, rd_get _ _ (by omega), List.getLast?_eq_getElem?, List.getElem?_eq_getElem]
theorem ev_spec_NatOk (l : List Int) (hb : l.length ≤ 9000000000000000000) : Ev (fun k => spec_NatOk.f k l) (okB l) := by
  unfold spec_NatOk.f
  by_cases hl : (l.length : Int) > 100
  · refine ev_if_pos hl ?_
    have e : okB l = false := by
      have : ¬ l.length ≤ 100 := by omega
      simp [okB, this]
    rw [e]; exact Ev.now _
  · refine ev_if_neg hl ?_
    have hl' : l.length ≤ 100 := by omega
    have key : ∀ d i : Nat, i + d = l.length → (∀ j, j < i → 0 ≤ l.getD j 0 ∧ l.getD j 0 ≤ 65535) → Ev (fun k => spec_NatOk.l0 k (i : Int) l) (okB l) := by
      intro d
      induction d with
      | zero =>
        intro i hi hj
        refine Ev.step (f := fun _ => some (okB l)) (fun k => ?_) (Ev.now _)
        have hall : l.all (fun x => decide (0 ≤ x) && decide (x ≤ 65535)) = true := by
          rw [List.all_eq_true]
          intro x hx
          obtain ⟨j, hjl, rfl⟩ := List.getElem_of_mem hx
          have := hj j (by omega)
          rw [List.getD_eq_getElem?_getD, List.getElem?_eq_getElem hjl, Option.getD_some] at this
          simp; exact this
        simp only [spec_NatOk.l0]
        rw [if_neg (by omega)]
        by_cases h0 : (l.length : Int) = 0
        · rw [if_pos h0]
          have : l = [] := List.eq_nil_of_length_eq_zero (by omega)
          subst this; rfl
        · rw [if_neg h0, w64 (by omega) (by omega), if_pos (by omega), if_pos (by omega)]
          have hlast := getLast_rd l (by omega)
          have hr := hj (l.length - 1) (by omega)
          rw [← rd_nat, show ((l.length - 1 : Nat) : Int) = (l.length : Int) - 1 by omega] at hr
          simp only [okB, hall, hlast, hl', decide_true, Bool.true_and]
          by_cases hz : rd l ((l.length : Int) - 1) = 0
          · simp [hz]
          · have : rd l ((l.length : Int) - 1) > 0 := by omega
            simp [hz, this]
      | succ d ih =>
        intro i hi hj
        by_cases hx : 0 ≤ rd l (i : Int) ∧ rd l (i : Int) ≤ 65535
        · refine Ev.step (f := fun k => spec_NatOk.l0 k ((i + 1 : Nat) : Int) l) (fun k => ?_) (ih (i + 1) (by omega) ?_)
          · simp only [spec_NatOk.l0]
            rw [if_pos (by omega), if_pos (by omega), if_neg (by omega), if_neg (by omega), w64 (by omega) (by omega)]
            rfl
          · intro j hj'
            by_cases e : j = i
            · subst e; rw [rd_nat] at hx; exact hx
            · exact hj j (by omega)
        · refine Ev.step (f := fun _ => some (okB l)) (fun k => ?_) (Ev.now _)
          have hall : l.all (fun x => decide (0 ≤ x) && decide (x ≤ 65535)) = false := by
            rw [List.all_eq_false]
            rw [rd_get _ _ (by omega)] at hx
            exact ⟨l[i], List.getElem_mem (by omega), by simp; omega⟩
          simp only [spec_NatOk.l0]
          rw [if_pos (by omega), if_pos (by omega)]
          have e : okB l = false := by simp [okB, hall]
          rw [e]
          by_cases h1 : rd l (i : Int) < 0
          · rw [if_pos h1]
          · rw [if_neg h1, if_pos (by omega)]
    exact key l.length 0 (by omega) (fun j hj => by omega)

/-! #### NatOk -/
theorem impl_NatOk_eq (l : List Int) : impl_NatOk.f l = some (okB l) := by
  unfold impl_NatOk.f impl_areAll_int.f
  by_cases hl : (l.length : Int) ≤ 100
  · have hl' : l.length ≤ 100 := by omega
    rw [if_pos hl]
    simp only [Option.bind_some]
    have ep : l.all impl_areAll_int.p = l.all (fun x => decide (0 ≤ x) && decide (x ≤ 65535)) := rfl
    rw [ep]
    by_cases hall : l.all (fun x => decide (0 ≤ x) && decide (x ≤ 65535)) = true
    · rw [if_pos hall]
      by_cases h0 : (l.length : Int) = 0
      · rw [if_pos h0]
        have : l = [] := List.eq_nil_of_length_eq_zero (by omega)
        subst this; rfl
      · rw [if_neg h0, w64 (by omega) (by omega), if_pos (by omega), if_pos (by omega)]
        have hlast := getLast_rd l (by omega)
        simp only [okB, hall, hlast, hl', decide_true, Bool.true_and]
        by_cases hz : rd l ((l.length : Int) - 1) = 0
        · simp [hz]
        · have e1 : (rd l ((l.length : Int) - 1) != 0) = true := by simpa using hz
          have e2 : (some (rd l ((l.length : Int) - 1)) != some 0) = true := by simpa using hz
          rw [e1, e2]
    · rw [if_neg hall]
      simp [okB, hall]
  · rw [if_neg hl]
    have : ¬ l.length ≤ 100 := by omega
    simp [okB, this]

/-! #### toNat -/
theorem ev_toIntS (l : List Int) (hb : l.length ≤ 1048576) : Ev (fun k => laws_toIntS.f k l) l := by
  unfold laws_toIntS.f
  refine ev_if_pos (by omega) (ev_if_pos (by simp; omega) ?_)
  have key : ∀ d i : Nat, ∀ x : List Int, i + d = l.length → x.length = l.length → x.take i = l.take i → Ev (fun k => laws_toIntS.l0 k l x (i : Int)) l := by
    intro d
    induction d with
    | zero =>
      intro i x hi hx ht
      refine Ev.step (f := fun _ => some l) (fun k => ?_) (Ev.now _)
      simp only [laws_toIntS.l0]
      rw [if_neg (by omega)]
      rw [List.take_of_length_le (by omega), List.take_of_length_le (by omega)] at ht
      rw [ht]
    | succ d ih =>
      intro i x hi hx ht
      refine Ev.step (f := fun k => laws_toIntS.l0 k l (x.set i (rd l (i : Int))) ((i + 1 : Nat) : Int)) (fun k => ?_) (ih (i + 1) _ (by omega) (by simpa using hx) ?_)
      · simp only [laws_toIntS.l0]
        rw [if_pos (by omega), if_pos (by omega), if_pos (by omega), w64 (by omega) (by omega)]
        simp only [Int.toNat_natCast, Int.natCast_add, Int.natCast_one]
      · rw [List.take_succ_eq_append_getElem (by simp; omega), List.take_succ_eq_append_getElem (by omega), rd_get _ _ (by omega)]
        rw [List.take_set_of_le (by omega), ht]
        simp
  exact key l.length 0 _ (by omega) (by simp) (by simp)
theorem ev_toNat (l : List Int) (hb : l.length ≤ 1048576) : Ev (fun k => laws_toNat.f k l) l := by
  unfold laws_toNat.f
  exact Ev.bind (ev_toIntS l hb) (Ev.now _)
theorem szNat_small (l : List Int) (n : Nat) (hn : n ≤ 1048576) (h : l.length ≤ n) : laws_szNat.f l n = some ((n - l.length : Nat) : Int) := by
  unfold laws_szNat.f laws_szIntS.f
  rw [w64 (by omega) (by omega), if_neg (by omega)]
  simp only [Option.bind_some]
  rw [if_neg (by omega)]
  congr 1; omega
theorem szNat_big (l : List Int) (n : Nat) (hn : n ≤ 1048576) (hm : l.length ≤ maxLen) (h : n < l.length) : laws_szNat.f l n = some (-1) := by
  unfold maxLen at hm
  unfold laws_szNat.f laws_szIntS.f
  rw [w64 (by omega) (by omega), if_pos (by omega)]
  rfl

/-! #### eqIntS -/
theorem ev_eqIntS (l0 l1 : List Int) (hb : l0.length ≤ 9000000000000000000) : Ev (fun k => laws_eqIntS.f k l0 l1) (decide (l0 = l1)) := by
  unfold laws_eqIntS.f
  by_cases hl : (l0.length : Int) = (l1.length : Int)
  · refine ev_if_pos hl ?_
    have key : ∀ d i : Nat, i + d = l0.length → l0.take i = l1.take i → Ev (fun k => laws_eqIntS.l0 k l0 l1 (i : Int)) (decide (l0 = l1)) := by
      intro d
      induction d with
      | zero =>
        intro i hi ht
        have he : l0 = l1 := by rw [List.take_of_length_le (by omega), List.take_of_length_le (by omega)] at ht; exact ht
        refine Ev.step (f := fun _ => some (decide (l0 = l1))) (fun k => ?_) (Ev.now _)
        simp only [laws_eqIntS.l0]
        rw [if_neg (by omega)]; simp [he]
      | succ d ih =>
        intro i hi ht
        by_cases he : rd l0 (i : Int) = rd l1 (i : Int)
        · refine Ev.step (f := fun k => laws_eqIntS.l0 k l0 l1 ((i + 1 : Nat) : Int)) (fun k => ?_) (ih (i + 1) (by omega) ?_)
          · simp only [laws_eqIntS.l0]
            rw [if_pos (by omega), if_pos (by omega), if_pos (by omega), if_pos he, w64 (by omega) (by omega)]
            rfl
          · rw [rd_get _ _ (by omega), rd_get _ _ (by omega)] at he
            rw [List.take_succ_eq_append_getElem (by omega), List.take_succ_eq_append_getElem (by omega), ht, he]
        · refine Ev.step (f := fun _ => some (decide (l0 = l1))) (fun k => ?_) (Ev.now _)
          simp only [laws_eqIntS.l0]
          rw [if_pos (by omega), if_pos (by omega), if_pos (by omega), if_neg he]
          have hne : ¬ l0 = l1 := fun e => he (by rw [e])
          simp [hne]
    exact key l0.length 0 (by omega) (by simp)
  · refine ev_if_neg hl ?_
    have hne : ¬ l0 = l1 := fun e => hl (by rw [e])
    have e : (fun _ : Nat => some false) = fun _ : Nat => some (decide (l0 = l1)) := by simp [hne]
    rw [e]; exact Ev.now _

/-! #### eqNat -/
theorem ev_eqNat (l0 l1 : List Int) (hb : l0.length ≤ 9000000000000000000) : Ev (fun k => laws_eqNat.f k l0 l1) (decide (l0 = l1)) := by
  unfold laws_eqNat.f
  refine Ev.bind (ev_eqIntS l0 l1 hb) ?_
  by_cases h : l0 = l1
  · simp only [h, decide_true, if_true]; exact Ev.now _
  · simp only [h, decide_false]; exact Ev.now _

/-! #### markInt0 -/
/-- Marks from a on. -/
def marks (a : Int) : Nat → List Int
  | 0 => []
  | n + 1 => a :: marks (a + 1) n
theorem marks_length (n : Nat) : ∀ a, (marks a n).length = n := by
  induction n with
  | zero => intro a; rfl
  | succ n ih => intro a; simp [marks, ih]
theorem marks_get (n : Nat) : ∀ a i, i < n → (marks a n).getD i 0 = a + i := by
  induction n with
  | zero => intro a i h; omega
  | succ n ih =>
    intro a i h
    cases i with
    | zero => simp [marks]
    | succ i => simp only [marks, List.getD_cons_succ]; rw [ih _ _ (by omega)]; omega
theorem ev_markIntS (l : List Int) (a : Int) (h0 : 0 ≤ a) (hb : a + l.length ≤ 9000000000000000000) : Ev (fun k => laws_markIntS.f k l a) (a + l.length, marks a l.length) := by
  unfold laws_markIntS.f
  have key : ∀ d i : Nat, ∀ x : List Int, i + d = l.length → x.length = l.length → (∀ j, j < i → x.getD j 0 = a + j) →
      Ev (fun k => laws_markIntS.l0 k x (a + i) (i : Int)) (a + l.length, marks a l.length) := by
    intro d
    induction d with
    | zero =>
      intro i x hi hx hm
      refine Ev.step (f := fun _ => some (a + l.length, marks a l.length)) (fun k => ?_) (Ev.now _)
      simp only [laws_markIntS.l0]
      rw [if_neg (by omega)]
      have e : x = marks a l.length := by
        apply List.ext_getElem
        · rw [hx, marks_length]
        · intro j h1 h2
          have p := hm j (by omega)
          have q := marks_get l.length a j (by omega)
          rw [List.getD_eq_getElem?_getD, List.getElem?_eq_getElem h1, Option.getD_some] at p
          rw [List.getD_eq_getElem?_getD, List.getElem?_eq_getElem h2, Option.getD_some] at q
          omega
      rw [e, show (i : Int) = l.length by omega]
    | succ d ih =>
      intro i x hi hx hm
      refine Ev.step (f := fun k => laws_markIntS.l0 k (x.set i (a + i)) (a + ((i + 1 : Nat) : Int)) ((i + 1 : Nat) : Int)) (fun k => ?_) (ih (i + 1) _ (by omega) (by simpa using hx) ?_)
      · simp only [laws_markIntS.l0]
        rw [if_pos (by omega), if_pos (by omega), w64 (x := a + i + 1) (by omega) (by omega), w64 (x := (i : Int) + 1) (by omega) (by omega)]
        simp only [Int.toNat_natCast, Int.natCast_add, Int.natCast_one, Int.add_assoc]
      · intro j hj
        by_cases e : j = i
        · subst e
          simp [List.getD_eq_getElem?_getD, List.getElem?_set, show j < x.length by omega]
        · have := hm j (by omega)
          rw [List.getD_eq_getElem?_getD] at this ⊢
          rw [List.getElem?_set_ne (by omega)]; exact this
  have := key l.length 0 l (by omega) rfl (fun j hj => by omega)
  simpa using this

/-! #### markIntS -/
theorem ev_heldIntS (n : Nat) (a : Int) (h0 : 0 ≤ a) (hb : a + n ≤ 9000000000000000000) : Ev (fun k => laws_heldIntS.f k (marks a n) a) (a + n) := by
  unfold laws_heldIntS.f
  have hl := marks_length n a
  have key : ∀ d i : Nat, i + d = n → Ev (fun k => laws_heldIntS.l0 k (marks a n) (a + i) (i : Int)) (a + n) := by
    intro d
    induction d with
    | zero =>
      intro i hi
      refine Ev.step (f := fun _ => some (a + n)) (fun k => ?_) (Ev.now _)
      simp only [laws_heldIntS.l0]
      rw [if_neg (by omega), show (i : Int) = n by omega]
    | succ d ih =>
      intro i hi
      refine Ev.step (f := fun k => laws_heldIntS.l0 k (marks a n) (a + ((i + 1 : Nat) : Int)) ((i + 1 : Nat) : Int)) (fun k => ?_) (ih (i + 1) (by omega))
      simp only [laws_heldIntS.l0]
      rw [if_pos (by omega), if_pos (by omega), if_pos (by rw [rd_nat, marks_get n a i (by omega)]), w64 (x := a + i + 1) (by omega) (by omega), w64 (x := (i : Int) + 1) (by omega) (by omega)]
      simp only [Int.natCast_add, Int.natCast_one, Int.add_assoc]
  have := key n 0 (by omega)
  simpa using this

/-! #### markNat0 -/
theorem ev_markNat (l : List Int) (a : Int) (h0 : 0 ≤ a) (hb : a + l.length ≤ 9000000000000000000) : Ev (fun k => laws_markNat.f k l a) (a + l.length, marks a l.length) := by
  unfold laws_markNat.f
  exact Ev.bind (ev_markIntS l a h0 hb) (Ev.now _)

/-! #### markNat -/
theorem ev_heldNat (n : Nat) (a : Int) (h0 : 0 ≤ a) (hb : a + n ≤ 9000000000000000000) : Ev (fun k => laws_heldNat.f k (marks a n) a) (a + n) := by
  unfold laws_heldNat.f
  refine Ev.bind (ev_heldIntS n a h0 hb) ?_
  rw [if_neg (by omega)]
  exact Ev.now _

/-! #### law_FnExactNatDiv -/
theorem areNats_eq (a b : List Int) : impl_areNats.f a b = some (okB a && okB b) := by
  unfold impl_areNats.f
  rw [impl_NatOk_eq, impl_NatOk_eq]
  cases h : okB a <;> simp
theorem div_agree (a b : List Int) (hal : a.length ≤ 1048576) (hbl : b.length ≤ 1048576) : ∃ (q r : List Int) (t : Bool), q.length ≤ 100 ∧ r.length ≤ 100 ∧ Ev (fun k => spec_NatDiv.f k a b) (q, r, t) ∧ Ev (fun k => impl_NatDiv.f k a b) (q, r, t) := by
  by_cases h : okB a = true ∧ okB b = true
  · have hk := (okB_iff a).1 h.1
    have hg := (okB_iff b).1 h.2
    by_cases hn : b = []
    · subst hn
      refine ⟨[], [], false, by simp, by simp, ?_, ?_⟩
      · unfold spec_NatDiv.f
        exact Ev.bind (ev_spec_NatOk a (by omega)) (ev_if_pos h.1 (Ev.bind (ev_spec_NatOk [] (by simp)) (ev_if_pos h.2 (ev_if_pos rfl (Ev.now _)))))
      · unfold impl_NatDiv.f
        exact ev_bind0 (areNats_eq a []) (ev_if_pos (by rw [h.1, h.2]; rfl) (ev_if_pos rfl (Ev.now _)))
    · have hp := List.length_pos_iff.2 hn
      have hV := hg.2.pos hn
      have hA := val_nonneg hk.2.1
      obtain ⟨q, r, e1, q1, r1, q2, r2⟩ := ev_spec_l2div a b hk.2 hg.2 (by omega) (by omega) hn
      obtain ⟨q', r', e2, q1', r1', q2', r2'⟩ := ev_impl_divide a b hk.2 hg.2 (by omega) (by omega) hn
      have eq : q' = q := norm_inj q1' q1 (by rw [q2, q2'])
      have er : r' = r := norm_inj r1' r1 (by rw [r2, r2'])
      subst eq er
      have lq : q'.length ≤ a.length := by
        by_cases c : q'.length ≤ a.length
        · exact c
        · have v := val_lt_len hk.2.1 q1 (by omega)
          have := Int.ediv_le_self (val b) hA
          omega
      have lr : r'.length ≤ b.length := by
        by_cases c : r'.length ≤ b.length
        · exact c
        · have v := val_lt_len hg.2.1 r1 (by omega)
          have := Int.emod_lt_of_pos (val a) (show 0 < val b by omega)
          omega
      refine ⟨q', r', true, by omega, by omega, ?_, ?_⟩
      · unfold spec_NatDiv.f
        exact Ev.bind (ev_spec_NatOk a (by omega)) (ev_if_pos h.1 (Ev.bind (ev_spec_NatOk b (by omega)) (ev_if_pos h.2 (ev_if_neg (by omega) (Ev.bind e1 (Ev.now _))))))
      · unfold impl_NatDiv.f
        exact ev_bind0 (areNats_eq a b) (ev_if_pos (by rw [h.1, h.2]; rfl) (ev_if_neg (by omega) (Ev.bind e2 (Ev.now _))))
  · refine ⟨[], [], false, by simp, by simp, ?_, ?_⟩
    · unfold spec_NatDiv.f
      by_cases h1 : okB a = true
      · exact Ev.bind (ev_spec_NatOk a (by omega)) (ev_if_pos h1 (Ev.bind (ev_spec_NatOk b (by omega)) (ev_if_neg (fun z => h ⟨h1, z⟩) (Ev.now _))))
      · exact Ev.bind (ev_spec_NatOk a (by omega)) (ev_if_neg h1 (Ev.now _))
    · unfold impl_NatDiv.f
      refine ev_bind0 (areNats_eq a b) (ev_if_neg ?_ (Ev.now _))
      cases h1 : okB a <;> cases h2 : okB b <;> simp_all
theorem FnExactNatDiv : laws_FnExactNatDiv.Pure := by
  intro a b ha hwa hb hwb
  have e : Ev (fun k => laws_FnExactNatDiv.f k a b) true := by
    unfold laws_FnExactNatDiv.f
    by_cases hs : a.length ≤ 1048576
    · refine ev_bind0 (szNat_small a 1048576 (Nat.le_refl _) hs) (ev_if_neg (by omega) ?_)
      by_cases ht : b.length ≤ 1048576 - a.length
      · refine ev_bind0 (szNat_small b _ (by omega) ht) (ev_if_neg (by omega) ?_)
        obtain ⟨q, r, t, ql, rl, h1, h2⟩ := div_agree a b hs (by omega)
        have ta := ev_toNat a hs
        have tb := ev_toNat b (show b.length ≤ 1048576 by omega)
        have ea := ev_eqNat a a (by omega)
        have eb := ev_eqNat b b (by omega)
        have eq := ev_eqNat q q (by omega)
        have er := ev_eqNat r r (by omega)
        have m1 := ev_markNat q 1 (by omega) (by omega)
        have m2 := ev_markNat r (1 + q.length) (by omega) (by omega)
        have g1 := ev_heldNat q.length 1 (by omega) (by omega)
        have g2 := ev_heldNat r.length (1 + q.length) (by omega) (by omega)
        simp only [decide_true] at ea eb eq er
        have j2 : Ev (fun n => laws_FnExactNatDiv.j2 n (1 + q.length + r.length) false (marks 1 q.length) (marks (1 + q.length) r.length)) true := by
          refine Ev.step (fun n => by simp only [laws_FnExactNatDiv.j2]; rfl) (ev_if_neg (by simp) ?_)
          exact Ev.bind g1 (ev_if_neg (by omega) (Ev.bind g2 (ev_if_neg (by omega) (ev_if_pos rfl (Ev.now _)))))
        have j1 : Ev (fun n => laws_FnExactNatDiv.j1 n t false a b q r q r) true := by
          refine Ev.step (fun n => by simp only [laws_FnExactNatDiv.j1]; rfl) (ev_if_neg (by simp) ?_)
          refine Ev.bind m1 (Ev.bind m2 (Ev.bind g1 (ev_if_neg (by omega) (Ev.bind g2 (ev_if_neg (by omega) (ev_if_pos rfl (Ev.bind ta (Ev.bind tb (Ev.bind h2 (Ev.bind eq (ev_if_pos rfl (Ev.bind er (ev_if_pos rfl ?_)))))))))))))
          rw [bne_self_eq_false]
          exact j2
        have j0 : Ev (fun n => laws_FnExactNatDiv.j0 n t t false a b q r a b q r) true := by
          refine Ev.step (fun n => by simp only [laws_FnExactNatDiv.j0]; rfl) (ev_if_neg (by simp) ?_)
          refine Ev.bind ta (Ev.bind ea (ev_if_pos rfl (Ev.bind tb (Ev.bind eb (ev_if_pos rfl (Ev.bind (ev_markNat a 1 (by omega) (by omega)) (Ev.bind (ev_markNat b (1 + a.length) (by omega) (by omega)) (ev_if_neg (by dsimp only; omega) (Ev.bind eq (ev_if_pos rfl (Ev.bind er (ev_if_pos rfl ?_))))))))))))
          rw [bne_self_eq_false]
          exact j1
        refine Ev.bind ta (Ev.bind tb (Ev.bind h1 (Ev.bind ta (Ev.bind tb (Ev.bind h2 (Ev.bind eq (ev_if_pos rfl (Ev.bind er (ev_if_pos rfl ?_)))))))))
        rw [bne_self_eq_false]
        exact j0
      · refine ev_bind0 (szNat_big b _ (by omega) hb (by omega)) (ev_if_pos (by omega) (Ev.now _))
    · refine ev_bind0 (szNat_big a 1048576 (Nat.le_refl _) ha (by omega)) (ev_if_pos (by omega) (Ev.now _))
  exact e.rounds

end Go.Proofs.Ytgjpahofopoflaa.Pure
