/- The pure statement of the law FnExactFlUlp: at every input that its guards let in the program's answer is the reference's. -/
import Derived.Test.YtlefbfdeelldjaaDoorPFnExactFlUlpx6
import Derived.Test.YtlefbfdeelldjaaDoorLib
import Derived.WalkKit
namespace Go.Proofs.YtlefbfdeelldjaaDoor.Pure
open Go.RowKit Go.Proofs.YtlefbfdeelldjaaDoor.PFnExactFlUlp Go.Proofs.YtlefbfdeelldjaaDoorW.PrintWords Go.Proofs.YtlefbfdeelldjaaDoorW.PrintLast Go.Proofs.YtlefbfdeelldjaaDoor.Lib
set_option linter.unusedVariables false
set_option linter.unusedSimpArgs false

/-! #### within -/
theorem within_eq (a b c : Int) : impl_within.f a b c = some (decide (b ≤ a ∧ a ≤ c)) := by
  unfold impl_within.f
  by_cases h : b ≤ a <;> simp [h]

/-! #### FlOk -/
/-- Is a float valid? -/
def flOkB (k : Int) (s : Bool) (m e : Int) : Bool :=
  if k = 1 then decide (-1074 ≤ e ∧ e ≤ 971 ∧ 1 ≤ m ∧ m ≤ 9007199254740991 ∧ (4503599627370496 ≤ m ∨ e = -1074))
  else if k = 0 ∨ k = 2 then decide (m = 0 ∧ e = 0) else decide (k = 3 ∧ m = 0 ∧ e = 0 ∧ s = false)
theorem spec_FlOk_1 (k : Int) (s : Bool) (m e : Int) : spec_FlOk.f 1 k s m e = some (flOkB k s m e) := by
  unfold spec_FlOk.f flOkB
  simp only [spec_FlOk.j0]
  by_cases k1 : k = 1
  · subst k1
    simp only [Int.reduceEq, if_false, if_true, Int.reduceBEq, Bool.false_eq_true]
    by_cases h1 : e < -1074
    · rw [if_pos h1]; simp; omega
    rw [if_neg h1]
    by_cases h2 : e > 971
    · rw [if_pos h2]; simp; omega
    rw [if_neg h2]
    by_cases h3 : m < 1
    · rw [if_pos h3]; simp; omega
    rw [if_neg h3]
    by_cases h4 : m ≥ 9007199254740992
    · rw [if_pos h4]; simp; omega
    rw [if_neg h4]
    by_cases h5 : m ≥ 4503599627370496
    · rw [if_pos h5]; simp; omega
    rw [if_neg h5]
    by_cases h6 : e = -1074
    · subst h6; simp; omega
    · rw [show (e == -1074) = false from by simpa using h6]; simp; omega
  · rw [if_neg k1]
    by_cases k0 : k = 0
    · subst k0
      by_cases hm : m = 0 <;> by_cases he : e = 0 <;> simp [hm, he]
    · rw [if_neg k0]
      by_cases k2 : k = 2
      · subst k2
        by_cases hm : m = 0 <;> by_cases he : e = 0 <;> simp [hm, he]
      · by_cases k3 : k = 3
        · subst k3
          by_cases hm : m = 0 <;> by_cases he : e = 0 <;> cases s <;> simp [hm, he]
        · simp [k0, k1, k2, k3]
theorem impl_FlOk_eq (k : Int) (s : Bool) (m e : Int) : impl_FlOk.f k s m e = some (flOkB k s m e) := by
  unfold impl_FlOk.f flOkB
  simp only [within_eq, Option.bind_some, decide_eq_true_eq]
  by_cases k1 : k = 1
  · rw [if_pos k1, if_pos k1]
    by_cases h1 : -1074 ≤ e ∧ e ≤ 971
    · rw [if_pos h1]
      by_cases h2 : 4503599627370496 ≤ m ∧ m ≤ 9007199254740991
      · rw [if_pos h2]; simp; omega
      · rw [if_neg h2]
        by_cases h3 : 1 ≤ m ∧ m ≤ 4503599627370495
        · rw [if_pos h3]
          by_cases h6 : e = -1074
          · subst h6; simp; omega
          · rw [show (e == -1074) = false from by simpa using h6]; simp; omega
        · rw [if_neg h3]; simp; omega
    · rw [if_neg h1]; simp; omega
  · rw [if_neg k1, if_neg k1]
    by_cases k0 : k = 0
    · subst k0
      by_cases hm : m = 0 <;> by_cases he : e = 0 <;> simp [hm, he]
    · rw [if_neg k0]
      by_cases k2 : k = 2
      · subst k2
        by_cases hm : m = 0 <;> by_cases he : e = 0 <;> simp [hm, he]
      · rw [if_neg k2]
        by_cases k3 : k = 3
        · subst k3
          by_cases hm : m = 0 <;> by_cases he : e = 0 <;> cases s <;> simp [hm, he]
        · simp [k0, k2, k3]
theorem ev_spec_FlOk (k : Int) (s : Bool) (m e : Int) : Ev (fun n => spec_FlOk.f n k s m e) (flOkB k s m e) := Ev.of (fun n => spec_FlOk.mono k s m e n) (spec_FlOk_1 k s m e)

/-! #### FlOkM -/
theorem flOk_num {s : Bool} {m e : Int} (h : flOkB 1 s m e = true) : -1074 ≤ e ∧ e ≤ 971 ∧ 1 ≤ m ∧ m ≤ 9007199254740991 ∧ (4503599627370496 ≤ m ∨ e = -1074) := by
  simpa [flOkB] using h
theorem flOk_kind {k : Int} {s : Bool} {m e : Int} (h : flOkB k s m e = true) : k = 0 ∨ k = 1 ∨ k = 2 ∨ k = 3 := by
  unfold flOkB at h
  by_cases k1 : k = 1
  · exact .inr (.inl k1)
  rw [if_neg k1] at h
  by_cases k2 : k = 0 ∨ k = 2
  · omega
  rw [if_neg k2] at h
  simp at h; omega
theorem flOk_zero {k : Int} {s : Bool} {m e : Int} (h : flOkB k s m e = true) (hk : k ≠ 1) : m = 0 ∧ e = 0 ∧ (k = 3 → s = false) := by
  unfold flOkB at h
  rw [if_neg hk] at h
  by_cases k2 : k = 0 ∨ k = 2
  · rw [if_pos k2] at h
    simp at h
    exact ⟨h.1, h.2, fun e => by omega⟩
  rw [if_neg k2] at h
  simp at h
  exact ⟨h.2.1, h.2.2.1, fun _ => h.2.2.2⟩

/-! #### l2of -/
theorem ev_spec_l2of (n : Int) (h1 : n ≤ 9223372036854775807) : Ev (fun k => spec_l2of.f k n) (dig n) := by
  unfold spec_l2of.f dig
  have key : ∀ f : Nat, ∀ x : Int, ∀ acc : List Int, x < pw f → x ≤ 9223372036854775807 → acc.length + f < 1000 → Ev (fun k => spec_l2of.l0 k x acc) (acc ++ digF f x) := by
    intro f
    induction f with
    | zero =>
      intro x acc hx hb ha
      simp [pw] at hx
      refine Ev.step (f := fun _ => some (acc ++ digF 0 x)) (fun k => ?_) (Ev.now _)
      simp only [spec_l2of.l0]
      rw [if_neg (by omega)]; simp [digF]
    | succ f ih =>
      intro x acc hx hb ha
      by_cases h : x ≤ 0
      · refine Ev.step (f := fun _ => some (acc ++ digF (f + 1) x)) (fun k => ?_) (Ev.now _)
        simp only [spec_l2of.l0]
        rw [if_neg (by omega)]; simp [digF, h]
      · have e : acc ++ digF (f + 1) x = (acc ++ [x % 65536]) ++ digF f (x / 65536) := by
          simp [digF, h]
        rw [e]
        simp only [pw] at hx
        refine Ev.step (f := fun k => spec_l2of.l0 k (x / 65536) (acc ++ [x % 65536])) (fun k => ?_) (ih _ _ (by omega) (by omega) (by simp; omega))
        simp only [spec_l2of.l0]
        rw [if_pos (by omega), if_pos (by omega), td _ _ (by omega), tm _ _ (by omega), w64 (by omega) (by omega)]
  have := key 4 n [] (by rw [pw4]; omega) h1 (by simp)
  simpa using this

/-! #### l2norm -/
theorem ev_spec_l2norm (l : List Int) (hb : l.length ≤ 1000000000) : Ev (fun k => spec_l2norm.f k l) (strip l) := by
  unfold spec_l2norm.f
  have key : ∀ n : Nat, n ≤ l.length → strip (l.take n) = strip l → Ev (fun k => spec_l2norm.l0 k l (n : Int)) (strip l) := by
    intro n
    induction n with
    | zero =>
      intro _ hs
      refine Ev.step (f := fun _ => some (strip l)) (fun k => ?_) (Ev.now _)
      simp only [spec_l2norm.l0, Option.bind_some]
      rw [if_neg (by omega), if_pos (by omega), if_pos (by omega), if_pos (by simp)]
      simpa [strip] using hs
    | succ n ih =>
      intro hn hs
      by_cases h0 : l[n] = 0
      · refine Ev.step (f := fun k => spec_l2norm.l0 k l (n : Int)) (fun k => ?_) (ih (by omega) ?_)
        · simp only [spec_l2norm.l0]
          rw [show ((n + 1 : Nat) : Int) - 1 = (n : Int) by omega, w64 (x := (n : Int)) (by omega) (by omega), if_pos (by omega), if_pos (by omega), if_pos (by omega), rd_get _ _ (by omega), if_pos h0]
        · rw [← hs, strip_take_zero (by omega) h0]
      · refine Ev.step (f := fun _ => some (strip l)) (fun k => ?_) (Ev.now _)
        simp only [spec_l2norm.l0, Option.bind_some]
        rw [show ((n + 1 : Nat) : Int) - 1 = (n : Int) by omega, w64 (x := (n : Int)) (by omega) (by omega), if_pos (by omega), if_pos (by omega), if_pos (by omega), rd_get _ _ (by omega), if_neg h0, if_pos (by omega), if_pos (by omega), if_pos (by simp; omega)]
        rw [← hs, strip_take_ne (by omega) h0]
        simp
  have := key l.length (Nat.le_refl _) (by simp)
  exact this

/-! #### l2add -/
theorem add_step (x y c P A B O T : Int) (h : O + P * (c + (x + 65536 * A) + (y + 65536 * B)) = T) : O + P * ((c + x + y) % 65536) + 65536 * P * ((c + x + y) / 65536 + A + B) = T := by
  have e := Int.mul_ediv_add_emod (c + x + y) 65536
  have e2 : P * (c + (x + 65536 * A) + (y + 65536 * B)) = P * ((c + x + y) % 65536) + 65536 * P * ((c + x + y) / 65536 + A + B) := by
    have e3 : c + (x + 65536 * A) + (y + 65536 * B) = (c + x + y) % 65536 + 65536 * ((c + x + y) / 65536 + A + B) := by omega
    rw [e3, Int.mul_add, ← Int.mul_assoc, Int.mul_comm P 65536]
  omega
theorem val_drop_any (l : List Int) (i : Nat) : val (l.drop i) = rd l (i : Int) + 65536 * val (l.drop (i + 1)) := by
  by_cases h : i < l.length
  · exact val_drop_at h
  · rw [List.drop_eq_nil_of_le (by omega), List.drop_eq_nil_of_le (by omega), rd_out _ _ (by omega)]; simp [val]
theorem ev_spec_l2add (a b : List Int) (ha : Limbs a) (hb : Limbs b) (hla : a.length ≤ 1000000) (hlb : b.length ≤ 1000000) :
    ∃ q : List Int, Ev (fun n => spec_l2add.f n a b) q ∧ Norm q ∧ val q = val a + val b ∧ q.length ≤ max a.length b.length + 1 := by
  unfold spec_l2add.f
  have key : ∀ d i : Nat, i + d = max a.length b.length + 1 → ∀ (out : List Int) (c : Int), out.length = i → Limbs out → 0 ≤ c → c ≤ 1 → (d = 0 → c = 0) →
      val out + pw i * (c + val (a.drop i) + val (b.drop i)) = val a + val b →
      ∃ q : List Int, Ev (fun n => spec_l2add.l0 n out c (i : Int) a b) q ∧ Norm q ∧ val q = val a + val b ∧ q.length ≤ max a.length b.length + 1 := by
    intro d
    induction d with
    | zero =>
      intro i hi out c ho hl h0 h1 hc hv
      have hc0 := hc rfl
      subst hc0
      rw [List.drop_eq_nil_of_le (by omega), List.drop_eq_nil_of_le (by omega)] at hv
      simp [val] at hv
      refine ⟨strip out, ?_, strip_norm hl, by rw [val_strip]; exact hv, by have := strip_len out; omega⟩
      refine Ev.step (fun n => by simp only [spec_l2add.l0]; rw [if_neg (by omega), if_neg (by omega)]) ?_
      refine Ev.step (fun n => by simp only [spec_l2add.j1]; rfl) ?_
      simp only [Int.lt_irrefl, gt_iff_lt, decide_false, Bool.false_eq_true, if_false]
      exact Ev.bind (ev_spec_l2norm out (by omega)) (Ev.now _)
    | succ d ih =>
      intro i hi out c ho hl h0 h1 hc hv
      have hx := rd_limb ha (i : Int)
      have hy := rd_limb hb (i : Int)
      have hv2 := hv
      rw [val_drop_any a i, val_drop_any b i] at hv2
      have hs := add_step _ _ _ _ _ _ _ _ hv2
      have hm0 : 0 ≤ (c + rd a (i : Int) + rd b (i : Int)) % 65536 ∧ (c + rd a (i : Int) + rd b (i : Int)) % 65536 ≤ 65535 := by omega
      have hd0 : 0 ≤ (c + rd a (i : Int) + rd b (i : Int)) / 65536 ∧ (c + rd a (i : Int) + rd b (i : Int)) / 65536 ≤ 1 := by omega
      have hnext : val (out ++ [(c + rd a (i : Int) + rd b (i : Int)) % 65536]) + pw (i + 1) * ((c + rd a (i : Int) + rd b (i : Int)) / 65536 + val (a.drop (i + 1)) + val (b.drop (i + 1))) = val a + val b := by
        rw [val_snoc, ho]; simp only [pw]; exact hs
      have hcz : d = 0 → (c + rd a (i : Int) + rd b (i : Int)) / 65536 = 0 := by
        intro hd
        have p1 : rd a (i : Int) = 0 := rd_out _ _ (by omega)
        have p2 : rd b (i : Int) = 0 := rd_out _ _ (by omega)
        omega
      have next := ih (i + 1) (by omega) (out ++ [(c + rd a (i : Int) + rd b (i : Int)) % 65536]) ((c + rd a (i : Int) + rd b (i : Int)) / 65536) (by simp; omega) (hl.append (Limbs.cons hm0.1 hm0.2 Limbs.nil)) hd0.1 hd0.2 hcz hnext
      obtain ⟨q, hq, hrest⟩ := next
      have c1 : ((i + 1 : Nat) : Int) = (i : Int) + 1 := by omega
      rw [c1] at hq
      by_cases hla' : (i : Int) < (a.length : Int)
      · refine ⟨q, ?_, hrest⟩
        refine Ev.step (fun n => by simp only [spec_l2add.l0]; rw [if_pos hla']) ?_
        refine Ev.step (fun n => by simp only [spec_l2add.j1]; rfl) ?_
        simp only [if_true, if_pos hla']
        refine ev_if_pos (by omega) ?_
        by_cases hlb' : (i : Int) < (b.length : Int)
        · simp only [if_pos hlb']
          refine ev_if_pos (by omega) ?_
          rw [w64 (x := c + rd a (i : Int)) (by omega) (by omega), w64 (x := c + rd a (i : Int) + rd b (i : Int)) (by omega) (by omega), tm _ _ (by omega), td _ _ (by omega), w64 (by omega) (by omega), w64 (by omega) (by omega)]
          exact hq
        · simp only [if_neg hlb']
          refine ev_if_pos (by omega) ?_
          have z : rd b (i : Int) = 0 := rd_out _ _ (by omega)
          rw [z] at hq
          rw [w64 (x := c + rd a (i : Int)) (by omega) (by omega), tm _ _ (by omega), td _ _ (by omega), w64 (by omega) (by omega), w64 (by omega) (by omega)]
          simpa using hq
      · have za : rd a (i : Int) = 0 := rd_out _ _ (by omega)
        by_cases hlb' : (i : Int) < (b.length : Int)
        · refine ⟨q, ?_, hrest⟩
          refine Ev.step (fun n => by simp only [spec_l2add.l0]; rw [if_neg hla', if_pos hlb']) ?_
          refine Ev.step (fun n => by simp only [spec_l2add.j1]; rfl) ?_
          simp only [if_true, if_neg hla', if_pos hlb']
          refine ev_if_pos (by omega) (ev_if_pos (by omega) ?_)
          rw [za] at hq
          rw [w64 (x := c + rd b (i : Int)) (by omega) (by omega), tm _ _ (by omega), td _ _ (by omega), w64 (by omega) (by omega), w64 (by omega) (by omega)]
          simpa using hq
        · have zb : rd b (i : Int) = 0 := rd_out _ _ (by omega)
          by_cases hc1 : c > 0
          · refine ⟨q, ?_, hrest⟩
            refine Ev.step (fun n => by simp only [spec_l2add.l0]; rw [if_neg hla', if_neg hlb']) ?_
            refine Ev.step (fun n => by simp only [spec_l2add.j1]; rfl) ?_
            simp only [hc1, decide_true, if_true, if_neg hla', if_neg hlb']
            refine ev_if_pos (by omega) ?_
            rw [za, zb] at hq
            rw [tm _ _ (by omega), td _ _ (by omega), w64 (by omega) (by omega), w64 (by omega) (by omega)]
            simpa using hq
          · have hc0 : c = 0 := by omega
            subst hc0
            rw [List.drop_eq_nil_of_le (by omega), List.drop_eq_nil_of_le (by omega)] at hv
            simp [val] at hv
            refine ⟨strip out, ?_, strip_norm hl, by rw [val_strip]; exact hv, by have := strip_len out; omega⟩
            refine Ev.step (fun n => by simp only [spec_l2add.l0]; rw [if_neg hla', if_neg hlb']) ?_
            refine Ev.step (fun n => by simp only [spec_l2add.j1]; rfl) ?_
            simp only [Int.lt_irrefl, gt_iff_lt, decide_false, Bool.false_eq_true, if_false]
            exact Ev.bind (ev_spec_l2norm out (by omega)) (Ev.now _)
  have := key (max a.length b.length + 1) 0 (by omega) [] 0 rfl Limbs.nil (by omega) (by omega) (by omega) (by simp [val, pw])
  simpa using this

/-! #### l3make -/
theorem ev_spec_l3make (s : Bool) (l : List Int) (h : Norm l) (hb : l.length ≤ 1000000) : Ev (fun n => spec_l3make.f n s l) (s && !l.isEmpty, l) := by
  unfold spec_l3make.f
  have e := ev_spec_l2norm l (by omega)
  rw [strip_of_norm h] at e
  cases s
  · simp only [Bool.false_eq_true, if_false]
    exact Ev.bind e (Ev.now _)
  · simp only [if_true]
    refine Ev.bind e ?_
    cases l
    · exact Ev.now _
    · simp; exact Ev.now _

/-! #### l3of -/
/-- The one form of a magnitude. -/
theorem ev_spec_l3of (n : Int) (h0 : -9223372036854775808 ≤ n) (h1 : n ≤ 9223372036854775807) :
    ∃ l : List Int, Ev (fun k => spec_l3of.f k n) (decide (n < 0), l) ∧ Norm l ∧ val l = (if n < 0 then -n else n) ∧ l.length ≤ 5 := by
  unfold spec_l3of.f
  by_cases h : n < 0
  · have d1 := dig_norm (n := -(n + 1)) (by omega) (by omega)
    have d2 := dig_norm (n := 1) (by omega) (by omega)
    have l1 := dig_len (-(n + 1))
    have l2 := dig_len 1
    obtain ⟨q, hq, q1, q2, q3⟩ := ev_spec_l2add _ _ d1.1 d2.1 (by omega) (by omega)
    rw [dig_val (by omega) (by omega), dig_val (by omega) (by omega)] at q2
    have hne : q ≠ [] := by intro e; subst e; simp [val] at q2; omega
    refine ⟨q, ?_, q1, by rw [if_pos h, q2]; omega, by omega⟩
    refine ev_if_pos h ?_
    rw [w64 (x := n + 1) (by omega) (by omega), w64 (by omega) (by omega)]
    refine Ev.bind (ev_spec_l2of _ (by omega)) (Ev.bind (ev_spec_l2of 1 (by omega)) (Ev.bind hq (Ev.bind (ev_spec_l3make true q q1 (by omega)) ?_)))
    have e : (true && !q.isEmpty) = decide (n < 0) := by cases q <;> simp_all
    rw [e]; exact Ev.now _
  · have d1 := dig_norm (n := n) (by omega) (by omega)
    have l1 := dig_len n
    refine ⟨dig n, ?_, d1, by rw [if_neg h, dig_val (by omega) (by omega)], by omega⟩
    refine ev_if_neg h ?_
    refine Ev.bind (ev_spec_l2of _ (by omega)) (Ev.bind (ev_spec_l3make false _ d1 (by omega)) ?_)
    have e : (false && !(dig n).isEmpty) = decide (n < 0) := by simp [h]
    rw [e]; exact Ev.now _

/-! #### small -/
theorem ev_impl_small (n : Int) (h1 : n ≤ 9223372036854775807) : Ev (fun k => impl_small.f k n) (dig n) := by
  unfold impl_small.f dig
  have key : ∀ f : Nat, ∀ x : Int, ∀ acc : List Int, x < pw f → x ≤ 9223372036854775807 → acc.length + f < 1000 → Ev (fun k => impl_small.l0 k x acc) (acc ++ digF f x) := by
    intro f
    induction f with
    | zero =>
      intro x acc hx hb ha
      simp [pw] at hx
      refine Ev.step (f := fun _ => some (acc ++ digF 0 x)) (fun k => ?_) (Ev.now _)
      simp only [impl_small.l0]
      rw [if_neg (by omega)]; simp [digF]
    | succ f ih =>
      intro x acc hx hb ha
      by_cases h : x ≤ 0
      · refine Ev.step (f := fun _ => some (acc ++ digF (f + 1) x)) (fun k => ?_) (Ev.now _)
        simp only [impl_small.l0]
        rw [if_neg (by omega)]; simp [digF, h]
      · have e : acc ++ digF (f + 1) x = (acc ++ [x % 65536]) ++ digF f (x / 65536) := by
          simp [digF, h]
        rw [e]
        simp only [pw] at hx
        refine Ev.step (f := fun k => impl_small.l0 k (x / 65536) (acc ++ [x % 65536])) (fun k => ?_) (ih _ _ (by omega) (by omega) (by simp; omega))
        simp only [impl_small.l0]
        rw [if_pos (by omega), if_pos (by omega), td _ _ (by omega), tm _ _ (by omega), w64 (by omega) (by omega)]
  have := key 4 n [] (by rw [pw4]; omega) h1 (by simp)
  simpa using this

/-! #### trim -/
theorem ev_impl_trim (l : List Int) (hb : l.length ≤ 1000000000) : Ev (fun k => impl_trim.f k l) (strip l) := by
  unfold impl_trim.f
  have key : ∀ n : Nat, n ≤ l.length → strip (l.take n) = strip l → Ev (fun k => impl_trim.l0 k (l.take n)) (strip l) := by
    intro n
    induction n with
    | zero =>
      intro _ hs
      refine Ev.step (f := fun _ => some (strip l)) (fun k => ?_) (Ev.now _)
      simp only [impl_trim.l0]
      rw [if_neg (by simp)]
      simpa [strip] using hs
    | succ n ih =>
      intro hn hs
      have hlen : (l.take (n + 1)).length = n + 1 := by simp; omega
      have hrd : rd (l.take (n + 1)) (n : Int) = l[n] := by
        rw [rd_get _ _ (by omega)]; simp
      by_cases h0 : l[n] = 0
      · refine Ev.step (f := fun k => impl_trim.l0 k (l.take n)) (fun k => ?_) (ih (by omega) ?_)
        · simp only [impl_trim.l0]
          rw [hlen, show ((n + 1 : Nat) : Int) - 1 = (n : Int) by omega, w64 (x := (n : Int)) (by omega) (by omega), if_pos (by omega), if_pos (by omega), if_pos (by omega), hrd, if_pos h0, if_pos (by omega)]
          rw [Int.toNat_natCast, List.take_take, Nat.min_eq_left (by omega)]
        · rw [← hs, strip_take_zero (by omega) h0]
      · refine Ev.step (f := fun _ => some (strip l)) (fun k => ?_) (Ev.now _)
        simp only [impl_trim.l0]
        rw [hlen, show ((n + 1 : Nat) : Int) - 1 = (n : Int) by omega, w64 (x := (n : Int)) (by omega) (by omega), if_pos (by omega), if_pos (by omega), if_pos (by omega), hrd, if_neg h0]
        rw [← hs, strip_take_ne (by omega) h0]
  have := key l.length (Nat.le_refl _) (by simp)
  rw [List.take_length] at this
  exact this

/-! #### down -/
theorem ev_impl_down (a : List Int) (k : Int) (ha : Limbs a) (hb : a.length ≤ 1000000) (h0 : 0 ≤ k) (h1 : k ≤ 9223372036854775807) :
    ∃ q : List Int, Ev (fun n => impl_down.f n a k) q ∧ Norm q ∧ val q = shrI a k ∧ q.length ≤ a.length := by
  unfold impl_down.f shrI
  rw [td _ _ h0, w64 (x := k / 16) (by omega) (by omega)]
  by_cases hl : k / 16 ≥ (a.length : Int)
  · refine ⟨[], ev_if_pos hl (Ev.now _), Norm.nil, ?_, by simp⟩
    rw [List.drop_eq_nil_of_le (by omega)]; simp [val]
  · have hr : (k % 16).toNat < 16 := by omega
    have hw := ha.drop (k / 16).toNat
    have hlen : (a.drop (k / 16).toNat).length ≤ a.length := by simp
    generalize a.drop (k / 16).toNat = w at *
    refine ⟨strip (dnl (k % 16).toNat w), ?_, strip_norm (dnl_limbs _ _), by rw [val_strip, dnl_val hr hw], by have := strip_len (dnl (k % 16).toNat w); rw [dnl_length] at this; omega⟩
    refine ev_if_neg hl (ev_if_pos (by omega) (ev_if_pos (by omega) (ev_if_pos (by omega) (ev_if_pos (by omega) ?_))))
    have key : ∀ d i : Nat, i + d = w.length → ∀ out : List Int, out.length = i → Ev (fun n => impl_down.l0 n k w out w (w.length : Int) (i : Int)) (strip (out ++ dnl (k % 16).toNat (w.drop i))) := by
      intro d
      induction d with
      | zero =>
        intro i hi out ho
        refine Ev.step (f := fun n => (impl_trim.f n out).bind fun t => some t) (fun n => ?_) ?_
        · simp only [impl_down.l0]
          rw [if_neg (by omega)]
        · rw [List.drop_eq_nil_of_le (by omega)]
          simp only [dnl, List.append_nil]
          exact Ev.bind (ev_impl_trim out (by omega)) (Ev.now _)
      | succ d ih =>
        intro i hi out ho
        have hx := rd_limb hw (i : Int)
        have hy := rd_limb hw ((i + 1 : Nat) : Int)
        have hp := two_pow_bd hr
        have e1 : w.drop i = rd w (i : Int) :: w.drop (i + 1) := by rw [List.drop_eq_getElem_cons (by omega), rd_get _ _ (by omega)]
        have e2 : out ++ dnl (k % 16).toNat (w.drop i) = (out ++ [(rd w (i : Int) + 65536 * rd w ((i + 1 : Nat) : Int)) / 2 ^ (k % 16).toNat % 65536]) ++ dnl (k % 16).toNat (w.drop (i + 1)) := by
          rw [e1]; simp only [dnl, headD_drop, List.append_assoc, List.singleton_append]
        rw [e2]
        refine Ev.step (fun n => ?_) (ih (i + 1) (by omega) _ (by simp; omega))
        simp only [impl_down.l0]
        rw [tm _ _ h0, w64 (x := (i : Int) + 1) (by omega) (by omega), if_pos (by omega), if_pos (by omega), if_pos (by omega)]
        have hn : 0 ≤ (rd w (i : Int) + 65536 * rd w ((i + 1 : Nat) : Int)) / 2 ^ (k % 16).toNat := Int.ediv_nonneg (by omega) (by omega)
        have c1 : ((i + 1 : Nat) : Int) = (i : Int) + 1 := by omega
        by_cases hlast : (i : Int) + 1 < (w.length : Int)
        · rw [if_pos hlast, if_pos (by omega), if_pos (by omega), if_pos (by omega)]
          rw [c1] at hy hn ⊢
          rw [w64 (x := rd w ((i : Int) + 1) * 65536) (by omega) (by omega), Int.mul_comm (rd w ((i : Int) + 1)) 65536, w64 (by omega) (by omega), shr_in (by omega) (by omega), tm _ _ hn]
        · rw [if_neg hlast, if_pos (by omega), if_pos (by omega)]
          have z : rd w ((i + 1 : Nat) : Int) = 0 := rd_out w (i + 1) (by omega)
          rw [z] at hn ⊢
          rw [shr_in (by omega) (by omega), show rd w (i : Int) + 65536 * 0 = rd w (i : Int) by omega] 
          rw [show rd w (i : Int) + 65536 * 0 = rd w (i : Int) by omega] at hn
          rw [tm _ _ hn, c1]
    have := key w.length 0 (by omega) [] rfl
    simpa using this

/-! #### natOf -/
theorem impl_natOf_eq (l : List Int) : impl_natOf.f l = some (if l.length ≤ 100 then (l, true) else ([], false)) := by
  unfold impl_natOf.f slices_Clone_int_int.f
  by_cases h : l.length ≤ 100
  · rw [if_neg (by omega), if_pos (by omega), if_pos h]; rfl
  · rw [if_pos (by omega), if_neg h]

/-! #### wholeOf -/
theorem impl_wholeOf_eq (s : Bool) (l : List Int) (hb : l.length ≤ 100) : impl_wholeOf.f s l = some (s && !l.isEmpty, l, true) := by
  unfold impl_wholeOf.f
  rw [impl_natOf_eq, if_pos hb]
  simp only [Option.bind_some, if_true]
  cases s
  · simp
  · cases l <;> simp
theorem impl_wholeOf_long (s : Bool) (l : List Int) (hb : ¬ l.length ≤ 100) : impl_wholeOf.f s l = some (false, [], false) := by
  unfold impl_wholeOf.f
  rw [impl_natOf_eq, if_neg hb]
  rfl

/-! #### eqIntS -/
theorem ev_eqIntS (l0 l1 : List Int) (hb : l0.length ≤ 9000000000000000000) : Ev (fun k => laws_eqIntS.f k l0 l1) (decide (l0 = l1)) := by
  unfold laws_eqIntS.f
  by_cases hl : (l0.length : Int) = (l1.length : Int)
  · refine ev_if_pos hl ?_
    have key : ∀ d i : Nat, i + d = l0.length → l0.take i = l1.take i → Ev (fun k => laws_eqIntS.l0 k l0 l1 (i : Int)) (decide (l0 = l1)) := by
      intro d
      induction d with
      | zero =>
        intro i hi ht
        have he : l0 = l1 := by rw [List.take_of_length_le (by omega), List.take_of_length_le (by omega)] at ht; exact ht
        refine Ev.step (f := fun _ => some (decide (l0 = l1))) (fun k => ?_) (Ev.now _)
        simp only [laws_eqIntS.l0]
        rw [if_neg (by omega)]; simp [he]
      | succ d ih =>
        intro i hi ht
        by_cases he : rd l0 (i : Int) = rd l1 (i : Int)
        · refine Ev.step (f := fun k => laws_eqIntS.l0 k l0 l1 ((i + 1 : Nat) : Int)) (fun k => ?_) (ih (i + 1) (by omega) ?_)
          · simp only [laws_eqIntS.l0]
            rw [if_pos (by omega), if_pos (by omega), if_pos (by omega), if_pos he, w64 (by omega) (by omega)]
            rfl
          · rw [rd_get _ _ (by omega), rd_get _ _ (by omega)] at he
            rw [List.take_succ_eq_append_getElem (by omega), List.take_succ_eq_append_getElem (by omega), ht, he]
        · refine Ev.step (f := fun _ => some (decide (l0 = l1))) (fun k => ?_) (Ev.now _)
          simp only [laws_eqIntS.l0]
          rw [if_pos (by omega), if_pos (by omega), if_pos (by omega), if_neg he]
          have hne : ¬ l0 = l1 := fun e => he (by rw [e])
          simp [hne]
    exact key l0.length 0 (by omega) (by simp)
  · refine ev_if_neg hl ?_
    have hne : ¬ l0 = l1 := fun e => hl (by rw [e])
    have e : (fun _ : Nat => some false) = fun _ : Nat => some (decide (l0 = l1)) := by simp [hne]
    rw [e]; exact Ev.now _

/-! #### eqNat -/
theorem ev_eqNat (l0 l1 : List Int) (hb : l0.length ≤ 9000000000000000000) : Ev (fun k => laws_eqNat.f k l0 l1) (decide (l0 = l1)) := by
  unfold laws_eqNat.f
  refine Ev.bind (ev_eqIntS l0 l1 hb) ?_
  by_cases h : l0 = l1
  · simp only [h, decide_true, if_true]; exact Ev.now _
  · simp only [h, decide_false]; exact Ev.now _

/-! #### eqWhole -/
theorem ev_eqWhole (s : Bool) (l : List Int) (hb : l.length ≤ 9000000000000000000) : Ev (fun k => laws_eqWhole.f k s l s l) true := by
  unfold laws_eqWhole.f
  simp only [bne_self_eq_false, Bool.false_eq_true, if_false]
  refine Ev.bind (ev_eqNat l l hb) ?_
  simp only [decide_true, if_true]
  exact Ev.now _

/-! #### eqDy -/
theorem ev_eqDy (s : Bool) (l : List Int) (e : Int) (hb : l.length ≤ 9000000000000000000) : Ev (fun k => laws_eqDy.f k s l e s l e) true := by
  unfold laws_eqDy.f
  refine Ev.bind (ev_eqWhole s l hb) ?_
  simp only [if_true]
  exact Ev.now _

/-! #### markIntS -/
/-- Marks from a on. -/
def marks (a : Int) : Nat → List Int
  | 0 => []
  | n + 1 => a :: marks (a + 1) n
theorem marks_length (n : Nat) : ∀ a, (marks a n).length = n := by
  induction n with
  | zero => intro a; rfl
  | succ n ih => intro a; simp [marks, ih]
theorem marks_get (n : Nat) : ∀ a i, i < n → (marks a n).getD i 0 = a + i := by
  induction n with
  | zero => intro a i h; omega
  | succ n ih =>
    intro a i h
    cases i with
    | zero => simp [marks]
    | succ i => simp only [marks, List.getD_cons_succ]; rw [ih _ _ (by omega)]; omega
theorem ev_markIntS (l : List Int) (a : Int) (h0 : 0 ≤ a) (hb : a + l.length ≤ 9000000000000000000) : Ev (fun k => laws_markIntS.f k l a) (a + l.length, marks a l.length) := by
  unfold laws_markIntS.f
  have key : ∀ d i : Nat, ∀ x : List Int, i + d = l.length → x.length = l.length → (∀ j, j < i → x.getD j 0 = a + j) →
      Ev (fun k => laws_markIntS.l0 k x (a + i) (i : Int)) (a + l.length, marks a l.length) := by
    intro d
    induction d with
    | zero =>
      intro i x hi hx hm
      refine Ev.step (f := fun _ => some (a + l.length, marks a l.length)) (fun k => ?_) (Ev.now _)
      simp only [laws_markIntS.l0]
      rw [if_neg (by omega)]
      have e : x = marks a l.length := by
        apply List.ext_getElem
        · rw [hx, marks_length]
        · intro j h1 h2
          have p := hm j (by omega)
          have q := marks_get l.length a j (by omega)
          rw [List.getD_eq_getElem?_getD, List.getElem?_eq_getElem h1, Option.getD_some] at p
          rw [List.getD_eq_getElem?_getD, List.getElem?_eq_getElem h2, Option.getD_some] at q
          omega
      rw [e, show (i : Int) = l.length by omega]
    | succ d ih =>
      intro i x hi hx hm
      refine Ev.step (f := fun k => laws_markIntS.l0 k (x.set i (a + i)) (a + ((i + 1 : Nat) : Int)) ((i + 1 : Nat) : Int)) (fun k => ?_) (ih (i + 1) _ (by omega) (by simpa using hx) ?_)
      · simp only [laws_markIntS.l0]
        rw [if_pos (by omega), if_pos (by omega), w64 (x := a + i + 1) (by omega) (by omega), w64 (x := (i : Int) + 1) (by omega) (by omega)]
        simp only [Int.toNat_natCast, Int.natCast_add, Int.natCast_one, Int.add_assoc]
      · intro j hj
        by_cases e : j = i
        · subst e
          simp [List.getD_eq_getElem?_getD, List.getElem?_set, show j < x.length by omega]
        · have := hm j (by omega)
          rw [List.getD_eq_getElem?_getD] at this ⊢
          rw [List.getElem?_set_ne (by omega)]; exact this
  have := key l.length 0 l (by omega) rfl (fun j hj => by omega)
  simpa using this
theorem ev_heldIntS (n : Nat) (a : Int) (h0 : 0 ≤ a) (hb : a + n ≤ 9000000000000000000) : Ev (fun k => laws_heldIntS.f k (marks a n) a) (a + n) := by
  unfold laws_heldIntS.f
  have hl := marks_length n a
  have key : ∀ d i : Nat, i + d = n → Ev (fun k => laws_heldIntS.l0 k (marks a n) (a + i) (i : Int)) (a + n) := by
    intro d
    induction d with
    | zero =>
      intro i hi
      refine Ev.step (f := fun _ => some (a + n)) (fun k => ?_) (Ev.now _)
      simp only [laws_heldIntS.l0]
      rw [if_neg (by omega), show (i : Int) = n by omega]
    | succ d ih =>
      intro i hi
      refine Ev.step (f := fun k => laws_heldIntS.l0 k (marks a n) (a + ((i + 1 : Nat) : Int)) ((i + 1 : Nat) : Int)) (fun k => ?_) (ih (i + 1) (by omega))
      simp only [laws_heldIntS.l0]
      rw [if_pos (by omega), if_pos (by omega), if_pos (by rw [rd_nat, marks_get n a i (by omega)]), w64 (x := a + i + 1) (by omega) (by omega), w64 (x := (i : Int) + 1) (by omega) (by omega)]
      simp only [Int.natCast_add, Int.natCast_one, Int.add_assoc]
  have := key n 0 (by omega)
  simpa using this

/-! #### markNat -/
theorem ev_markNat (l : List Int) (a : Int) (h0 : 0 ≤ a) (hb : a + l.length ≤ 9000000000000000000) : Ev (fun k => laws_markNat.f k l a) (a + l.length, marks a l.length) := by
  unfold laws_markNat.f
  exact Ev.bind (ev_markIntS l a h0 hb) (Ev.now _)
theorem ev_heldNat (n : Nat) (a : Int) (h0 : 0 ≤ a) (hb : a + n ≤ 9000000000000000000) : Ev (fun k => laws_heldNat.f k (marks a n) a) (a + n) := by
  unfold laws_heldNat.f
  refine Ev.bind (ev_heldIntS n a h0 hb) ?_
  rw [if_neg (by omega)]
  exact Ev.now _

/-! #### markWhole -/
theorem ev_markWhole (s : Bool) (l : List Int) (a : Int) (h0 : 0 ≤ a) (hb : a + l.length ≤ 9000000000000000000) : Ev (fun k => laws_markWhole.f k s l a) (a + l.length, marks a l.length) := by
  unfold laws_markWhole.f
  exact Ev.bind (ev_markNat l a h0 hb) (Ev.now _)
theorem ev_heldWhole (s : Bool) (n : Nat) (a : Int) (h0 : 0 ≤ a) (hb : a + n ≤ 9000000000000000000) : Ev (fun k => laws_heldWhole.f k s (marks a n) a) (a + n) := by
  unfold laws_heldWhole.f
  refine Ev.bind (ev_heldNat n a h0 hb) ?_
  rw [if_neg (by omega)]
  exact Ev.now _

/-! #### markDy -/
theorem ev_markDy (s : Bool) (l : List Int) (e : Int) (a : Int) (h0 : 0 ≤ a) (hb : a + l.length ≤ 9000000000000000000) : Ev (fun k => laws_markDy.f k s l e a) (a + l.length, marks a l.length) := by
  unfold laws_markDy.f
  exact Ev.bind (ev_markWhole s l a h0 hb) (Ev.now _)
theorem ev_heldDy (s : Bool) (n : Nat) (e : Int) (a : Int) (h0 : 0 ≤ a) (hb : a + n ≤ 9000000000000000000) : Ev (fun k => laws_heldDy.f k s (marks a n) e a) (a + n) := by
  unfold laws_heldDy.f
  exact Ev.bind (ev_heldWhole s n a h0 hb) (ev_if_neg (by omega) (Ev.now _))

/-! #### law_FnExactFlUlp -/
theorem one_norm : Norm [1] := ⟨Limbs.cons (by decide) (by decide) Limbs.nil, by simp [Top]⟩
theorem ev_trail_one : Ev (fun k => impl_trailOf.f k [1]) 0 := by
  unfold impl_trailOf.f
  refine Ev.step (fun k => by simp only [impl_trailOf.l0]; rfl) (ev_if_pos (by decide) (ev_if_pos (by decide) (ev_if_pos (by decide) (ev_if_neg (by decide) ?_))))
  have hu : IntKind.u64.wrap (rd [1] 0) = 1 := by decide
  have ht : bits_TrailingZeros.f 1 = some 0 := by decide
  rw [hu]
  refine ev_bind0 ht ?_
  rw [w64 (x := 16 * 0) (by omega) (by omega), w64 (by omega) (by omega)]
  exact Ev.now _
theorem ev_dy_one (e : Int) (h0 : -3000 ≤ e) (h1 : e ≤ 3000) : Ev (fun k => impl_exact_dy.f k false [1] e) (false, [1], e, true) := by
  obtain ⟨p, hp, p1, p2, _⟩ := ev_impl_down [1] 0 one_norm.1 (by decide) (by omega) (by omega)
  have ep : p = [1] := norm_inj p1 one_norm (by rw [p2]; simp [shrI, val])
  subst ep
  unfold impl_exact_dy.f impl_exact_odd.f
  refine Ev.bind (a := (false, [1], e)) (ev_if_neg (by decide) (Ev.bind ev_trail_one (Ev.bind hp ?_))) ?_
  · rw [w64 (by omega) (by omega), Int.add_zero]
    exact Ev.now _
  · refine ev_bind0 (impl_wholeOf_eq false [1] (by decide)) (ev_if_pos rfl (ev_bind0 (within_eq _ _ _) (ev_if_pos (by simp; omega) (Ev.now _))))
/-- What FlUlp answers. -/
def ulpV (k : Int) (s : Bool) (m e : Int) : Bool × List Int × Int × Bool :=
  if flOkB k s m e = true ∧ k < 2 then (false, [1], if k = 1 then e else -1074, true) else (false, [], 0, false)
theorem ev_l3of_one : Ev (fun k => spec_l3of.f k 1) (false, [1]) := by
  obtain ⟨l, hl, l1, l2, _⟩ := ev_spec_l3of 1 (by omega) (by omega)
  have : l = [1] := norm_inj l1 one_norm (by rw [l2]; decide)
  subst this
  exact hl
theorem ev_spec_FlUlp (k : Int) (s : Bool) (m e : Int) : Ev (fun n => spec_FlUlp.f n k s m e) (ulpV k s m e) := by
  unfold spec_FlUlp.f ulpV
  refine Ev.bind (ev_spec_FlOk k s m e) ?_
  by_cases h : flOkB k s m e = true
  · refine ev_if_pos h ?_
    by_cases g : k < 2
    · rw [if_pos ⟨h, g⟩, decide_eq_false (by omega)]
      refine Ev.step (fun n => by simp only [spec_FlUlp.j0]; rfl) (ev_if_neg (by simp) ?_)
      by_cases c : k = 1
      · rw [if_pos c]; exact ev_if_pos c (Ev.bind ev_l3of_one (Ev.now _))
      · rw [if_neg c]; exact ev_if_neg c (Ev.bind ev_l3of_one (Ev.now _))
    · rw [if_neg (fun z => g z.2), decide_eq_true (by omega)]
      refine Ev.step (fun n => by simp only [spec_FlUlp.j0]; rfl) ?_
      simp only [if_true]
      exact Ev.now _
  · rw [if_neg (fun z => h z.1)]
    refine ev_if_neg h ?_
    refine Ev.step (fun n => by simp only [spec_FlUlp.j0]; rfl) ?_
    simp only [if_true]
    exact Ev.now _
theorem dig_one : dig 1 = [1] := dig_small (by omega) (by omega)
theorem ev_impl_FlUlp (k : Int) (s : Bool) (m e : Int) : Ev (fun n => impl_FlUlp.f n k s m e) (ulpV k s m e) := by
  have hs := ev_impl_small 1 (by omega)
  rw [dig_one] at hs
  unfold impl_FlUlp.f ulpV
  refine ev_bind0 (impl_FlOk_eq k s m e) ?_
  by_cases h : flOkB k s m e = true
  · have hk := flOk_kind h
    have fin : impl_Fl_isFinite.f k s m e = some (decide (k < 2)) := by
      unfold impl_Fl_isFinite.f
      rcases hk with rfl | rfl | rfl | rfl <;> rfl
    refine ev_if_pos h (ev_bind0 fin ?_)
    by_cases g : k < 2
    · rw [if_pos ⟨h, g⟩, decide_eq_true g]
      refine Ev.step (fun n => by simp only [impl_FlUlp.j0]; rfl) (ev_if_neg (by simp) ?_)
      by_cases c : k = 1
      · rw [if_pos c]
        subst c
        have hn := flOk_num h
        exact ev_if_neg (by omega) (Ev.bind hs (Ev.bind (ev_dy_one e (by omega) (by omega)) (Ev.now _)))
      · rw [if_neg c]
        exact ev_if_pos (by omega) (Ev.bind hs (Ev.bind (ev_dy_one (-1074) (by omega) (by omega)) (Ev.now _)))
    · rw [if_neg (fun z => g z.2), decide_eq_false g]
      refine Ev.step (fun n => by simp only [impl_FlUlp.j0]; rfl) ?_
      simp only [Bool.not_false, if_true]
      exact Ev.now _
  · rw [if_neg (fun z => h z.1)]
    refine ev_if_neg h ?_
    refine Ev.step (fun n => by simp only [impl_FlUlp.j0]; rfl) ?_
    simp only [if_true]
    exact Ev.now _
theorem ulpV_len (k : Int) (s : Bool) (m e : Int) : (ulpV k s m e).2.1.length ≤ 1 := by
  unfold ulpV
  split <;> simp
theorem FnExactFlUlp : laws_FnExactFlUlp.Pure := by
  intro k s m e hk hm he
  have g : Ev (fun n => laws_FnExactFlUlp.f n k s m e) true := by
    unfold laws_FnExactFlUlp.f
    have hr := ulpV_len k s m e
    have h1 := ev_spec_FlUlp k s m e
    have h2 := ev_impl_FlUlp k s m e
    generalize ulpV k s m e = r at *
    have hmk := ev_markDy r.1 r.2.1 r.2.2.1 1 (by omega) (by omega)
    have hh := ev_heldDy r.1 r.2.1.length r.2.2.1 1 (by omega) (by omega)
    have t : laws_toFl.f k s m e = some (k, s, m, e) := rfl
    refine ev_bind0 t (Ev.bind h1 (ev_bind0 t (Ev.bind h2 (Ev.bind (ev_eqDy r.1 r.2.1 r.2.2.1 (by omega)) ?_))))
    simp only [if_true, bne_self_eq_false]
    refine Ev.step (fun n => by simp only [laws_FnExactFlUlp.j0]; rfl) ?_
    simp only [Bool.false_eq_true, if_false]
    refine Ev.bind hmk (Ev.bind hh (ev_if_neg (by omega) (ev_if_pos rfl (ev_bind0 t (Ev.bind h2 (Ev.bind (ev_eqDy r.1 r.2.1 r.2.2.1 (by omega)) ?_))))))
    simp only [if_true, bne_self_eq_false]
    refine Ev.step (fun n => by simp only [laws_FnExactFlUlp.j1]; rfl) ?_
    simp only [Bool.false_eq_true, if_false]
    exact Ev.bind hh (ev_if_neg (by omega) (ev_if_pos rfl (Ev.now _)))
  exact g.rounds

end Go.Proofs.YtlefbfdeelldjaaDoor.Pure
