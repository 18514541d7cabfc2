/- The pure statement of the law FnExactDecText: at every input that its guards let in the program's answer is the reference's. -/
import Derived.Test.YthmieecgojiliaaDoorPFnExactDecTextx20
import Derived.Test.YthmieecgojiliaaDoorVFnExactDecTextb
import Derived.WalkKit
namespace Go.Proofs.YthmieecgojiliaaDoor.Pure
open Go.RowKit Go.Proofs.YthmieecgojiliaaDoor.PFnExactDecText Go.Proofs.YthmieecgojiliaaDoorW.PrintWords Go.Proofs.YthmieecgojiliaaDoorW.PrintLast Go.Proofs.YthmieecgojiliaaDoor.Lib
set_option linter.unusedVariables false
set_option linter.unusedSimpArgs false

/-! #### l2norm -/
theorem ev_spec_l2norm (l : List Int) (hb : l.length ≤ 1000000000) : Ev (fun k => spec_l2norm.f k l) (strip l) := by
  unfold spec_l2norm.f
  have key : ∀ n : Nat, n ≤ l.length → strip (l.take n) = strip l → Ev (fun k => spec_l2norm.l0 k l (n : Int)) (strip l) := by
    intro n
    induction n with
    | zero =>
      intro _ hs
      refine Ev.step (f := fun _ => some (strip l)) (fun k => ?_) (Ev.now _)
      simp only [spec_l2norm.l0, Option.bind_some]
      rw [if_neg (by omega), if_pos (by omega), if_pos (by omega), if_pos (by simp)]
      simpa [strip] using hs
    | succ n ih =>
      intro hn hs
      by_cases h0 : l[n] = 0
      · refine Ev.step (f := fun k => spec_l2norm.l0 k l (n : Int)) (fun k => ?_) (ih (by omega) ?_)
        · simp only [spec_l2norm.l0]
          rw [show ((n + 1 : Nat) : Int) - 1 = (n : Int) by omega, w64 (x := (n : Int)) (by omega) (by omega), if_pos (by omega), if_pos (by omega), if_pos (by omega), rd_get _ _ (by omega), if_pos h0]
        · rw [← hs, strip_take_zero (by omega) h0]
      · refine Ev.step (f := fun _ => some (strip l)) (fun k => ?_) (Ev.now _)
        simp only [spec_l2norm.l0, Option.bind_some]
        rw [show ((n + 1 : Nat) : Int) - 1 = (n : Int) by omega, w64 (x := (n : Int)) (by omega) (by omega), if_pos (by omega), if_pos (by omega), if_pos (by omega), rd_get _ _ (by omega), if_neg h0, if_pos (by omega), if_pos (by omega), if_pos (by simp; omega)]
        rw [← hs, strip_take_ne (by omega) h0]
        simp
  have := key l.length (Nat.le_refl _) (by simp)
  exact this

/-! #### small2 -/
theorem ev_spec_l2small (a : List Int) (D : Int) (ha : Limbs a) (hb : a.length ≤ 1000000) (hD : 1 ≤ D) (hD2 : D ≤ 65536) :
    ∃ q : List Int, Ev (fun k => spec_l2small.f k a D) (q, val a % D) ∧ Norm q ∧ val q = val a / D ∧ q.length ≤ a.length := by
  unfold spec_l2small.f
  have key : ∀ d : Nat, d ≤ a.length → ∀ (x : List Int) (r : Int), x.length = a.length → Limbs x → 0 ≤ r → r < D → val (a.drop d) = val (x.drop d) * D + r →
      ∃ q : List Int, Ev (fun k => spec_l2small.l0 k D x r ((d : Int) - 1) a) (q, val a % D) ∧ Norm q ∧ val q = val a / D ∧ q.length ≤ a.length := by
    intro d
    induction d with
    | zero =>
      intro _ x r hx hl h0 h1 hv
      simp only [List.drop_zero] at hv
      obtain ⟨e1, e2⟩ := div_unique hD hv h0 h1
      refine ⟨strip x, ?_, strip_norm hl, by rw [val_strip]; exact e1, by have := strip_len x; omega⟩
      have hn := ev_spec_l2norm x (by omega)
      refine Ev.step (f := fun k => (spec_l2norm.f k x).bind fun t => some (t, r)) (fun k => ?_) ?_
      · simp only [spec_l2small.l0]
        rw [if_neg (by omega)]
      · rw [← e2]; exact Ev.bind hn (Ev.now _)
    | succ d ih =>
      intro hd x r hx hl h0 h1 hv
      have hy := rd_limb ha (d : Int)
      have hdg := small_digit D r (rd a (d : Int)) hD h0 h1 hy.1 hy.2
      have hm0 := Int.emod_nonneg (r * 65536 + rd a (d : Int)) (show D ≠ 0 by omega)
      have hm1 := Int.emod_lt_of_pos (r * 65536 + rd a (d : Int)) (show 0 < D by omega)
      obtain ⟨q, hq, hrest⟩ := ih (by omega) (x.set d ((r * 65536 + rd a (d : Int)) / D)) ((r * 65536 + rd a (d : Int)) % D) (by simpa using hx) (hl.set d hdg.1 hdg.2) hm0 hm1 (by
        rw [val_set_drop _ _ _ (by omega), val_drop_at (by omega)]
        exact small_step D r _ _ _ hD hv)
      refine ⟨q, Ev.step (fun k => ?_) hq, hrest⟩
      simp only [spec_l2small.l0]
      rw [show ((d + 1 : Nat) : Int) - 1 = (d : Int) by omega]
      rw [if_pos (by omega), if_pos (by omega), if_pos (by omega), if_neg (by omega), if_pos (by omega), w64 (x := r * 65536) (by omega) (by omega), w64 (x := r * 65536 + rd a (d : Int)) (by omega) (by omega), td _ _ (by omega), tm _ _ (by omega), w64 (by omega) (by omega), w64 (by omega) (by omega), Int.toNat_natCast]
  obtain ⟨q, hq, h2⟩ := key a.length (Nat.le_refl _) (List.replicate a.length 0) 0 (by simp) (Limbs.zeros _) (by omega) (by omega) (by rw [List.drop_length]; simp [val])
  refine ⟨q, ?_, h2⟩
  refine ev_if_pos (by omega) (ev_if_pos (by omega) ?_)
  rw [w64 (by omega) (by omega), Int.toNat_natCast]
  exact hq

/-! #### l2text -/
theorem spec_text_l1 (x : List Int) (hb : x.length ≤ 1000000) (d : Nat) : ∀ (y : List Int), d ≤ x.length → y = (x.drop d).reverse → Ev (fun k => spec_l2text.l1 k x y ((d : Int) - 1)) x.reverse := by
  induction d with
  | zero =>
    intro y _ hy
    refine Ev.step (f := fun _ => some y) (fun k => ?_) (by rw [hy]; simp; exact Ev.now _)
    simp only [spec_l2text.l1]
    rw [if_neg (by omega)]
  | succ d ih =>
    intro y hd hy
    have hyl : y.length = x.length - (d + 1) := by rw [hy]; simp
    refine Ev.step (f := fun k => spec_l2text.l1 k x (y ++ [rd x (d : Int)]) ((d : Int) - 1)) (fun k => ?_) (ih _ (by omega) ?_)
    · simp only [spec_l2text.l1]
      rw [show ((d + 1 : Nat) : Int) - 1 = (d : Int) by omega, if_pos (by omega), if_pos (by omega), if_pos (by omega), if_pos (by omega), w64 (by omega) (by omega)]
    · rw [hy, List.drop_eq_getElem_cons (show d < x.length by omega), List.reverse_cons, rd_get _ _ (by omega)]
theorem spec_text_key (V : Int) : ∀ (m : Nat) (a x : List Int), Norm a → a.length ≤ 1000 → val a < pt m → Dgs x → (a = [] → x.getLast? ≠ some 48) → val10 x + pt x.length * val a = V → x.length + m ≤ 1000000 →
    ∃ y : List Int, IsDec V y ∧ Ev (fun k => spec_l2text.l0 k x a) y.reverse := by
  intro m
  induction m with
  | zero =>
    intro a x ha hl hv hx ht hV hlen
    have h0 := val_nonneg ha.1
    have e : a = [] := ha.zero (by simp [pt] at hv; omega)
    subst e
    refine ⟨x, ⟨hx, ht rfl, by simpa [val] using hV⟩, ?_⟩
    refine Ev.step (f := fun k => spec_l2text.l1 k x ([] : List Int) (wrap64 ((x.length : Int) - 1))) (fun k => ?_) ?_
    · simp only [spec_l2text.l0]
      rw [if_neg (by simp)]
    · rw [w64 (by omega) (by omega)]
      exact spec_text_l1 x (by omega) x.length [] (by omega) (by simp)
  | succ m ih =>
    intro a x ha hl hv hx ht hV hlen
    by_cases e : a = []
    · subst e
      refine ⟨x, ⟨hx, ht rfl, by simpa [val] using hV⟩, ?_⟩
      refine Ev.step (f := fun k => spec_l2text.l1 k x ([] : List Int) (wrap64 ((x.length : Int) - 1))) (fun k => ?_) ?_
      · simp only [spec_l2text.l0]
        rw [if_neg (by simp)]
      · rw [w64 (by omega) (by omega)]
        exact spec_text_l1 x (by omega) x.length [] (by omega) (by simp)
    · have h1 := ha.pos e
      obtain ⟨q, hq, q1, q2, q3⟩ := ev_spec_l2small a 10 ha.1 (by omega) (by omega) (by omega)
      have hr : 0 ≤ val a % 10 ∧ val a % 10 ≤ 9 := by omega
      have hlt : val a / 10 < pt m := by simp only [pt] at hv; omega
      obtain ⟨y, hy, hk⟩ := ih q (x ++ [48 + val a % 10]) q1 (by omega) (by rw [q2]; exact hlt) (hx.snoc (by omega) (by omega)) (fun hq0 => by
          rw [List.getLast?_append]
          simp only [List.getLast?_singleton, Option.or_some, ne_eq, Option.some.injEq]
          rw [hq0] at q2
          simp only [val] at q2
          simp
          omega) (by
          rw [val10_snoc, List.length_append, List.length_singleton, q2, Int.add_assoc, pt_mul10, ← hV]
          congr 2
          omega) (by rw [List.length_append, List.length_singleton]; omega)
      refine ⟨y, hy, ?_⟩
      refine Ev.step (f := fun k => (spec_l2small.f k a 10).bind fun bt160 => (if x.length < 140737488355328 then (spec_l2text.l0 k (x ++ [(wrap64 (48 + bt160.2)) % 256]) bt160.1) else (none))) (fun k => ?_) ?_
      · simp only [spec_l2text.l0]
        rw [if_pos (by have := List.length_pos_iff.2 e; omega)]
      · refine Ev.bind hq (ev_if_pos (by omega) ?_)
        rw [w64 (by omega) (by omega), show (48 + val a % 10) % 256 = 48 + val a % 10 by omega]
        exact hk
theorem ev_spec_l2text (a : List Int) (ha : Norm a) (hl : a.length ≤ 1000) (h0 : a ≠ []) : ∃ y : List Int, IsDec (val a) y ∧ Ev (fun k => spec_l2text.f k a) y.reverse := by
  have hv := val_lt ha.1
  have hp := pw_pt a.length
  obtain ⟨y, hy, hk⟩ := spec_text_key (val a) (5 * a.length) a [] ha hl (by omega) Dgs.nil (fun e => absurd e h0) (by simp [val10, pt]) (by simp; omega)
  refine ⟨y, hy, ?_⟩
  unfold spec_l2text.f
  refine ev_if_neg (by have := List.length_pos_iff.2 h0; omega) hk

/-! #### trim -/
theorem ev_impl_trim (l : List Int) (hb : l.length ≤ 1000000000) : Ev (fun k => impl_trim.f k l) (strip l) := by
  unfold impl_trim.f
  have key : ∀ n : Nat, n ≤ l.length → strip (l.take n) = strip l → Ev (fun k => impl_trim.l0 k (l.take n)) (strip l) := by
    intro n
    induction n with
    | zero =>
      intro _ hs
      refine Ev.step (f := fun _ => some (strip l)) (fun k => ?_) (Ev.now _)
      simp only [impl_trim.l0]
      rw [if_neg (by simp)]
      simpa [strip] using hs
    | succ n ih =>
      intro hn hs
      have hlen : (l.take (n + 1)).length = n + 1 := by simp; omega
      have hrd : rd (l.take (n + 1)) (n : Int) = l[n] := by
        rw [rd_get _ _ (by omega)]; simp
      by_cases h0 : l[n] = 0
      · refine Ev.step (f := fun k => impl_trim.l0 k (l.take n)) (fun k => ?_) (ih (by omega) ?_)
        · simp only [impl_trim.l0]
          rw [hlen, show ((n + 1 : Nat) : Int) - 1 = (n : Int) by omega, w64 (x := (n : Int)) (by omega) (by omega), if_pos (by omega), if_pos (by omega), if_pos (by omega), hrd, if_pos h0, if_pos (by omega)]
          rw [Int.toNat_natCast, List.take_take, Nat.min_eq_left (by omega)]
        · rw [← hs, strip_take_zero (by omega) h0]
      · refine Ev.step (f := fun _ => some (strip l)) (fun k => ?_) (Ev.now _)
        simp only [impl_trim.l0]
        rw [hlen, show ((n + 1 : Nat) : Int) - 1 = (n : Int) by omega, w64 (x := (n : Int)) (by omega) (by omega), if_pos (by omega), if_pos (by omega), if_pos (by omega), hrd, if_neg h0]
        rw [← hs, strip_take_ne (by omega) h0]
  have := key l.length (Nat.le_refl _) (by simp)
  rw [List.take_length] at this
  exact this

/-! #### divideSmall -/
theorem ev_impl_divideSmall (a : List Int) (D : Int) (ha : Limbs a) (hb : a.length ≤ 1000000) (hD : 1 ≤ D) (hD2 : D ≤ 65536) :
    ∃ q : List Int, Ev (fun k => impl_divideSmall.f k a D) (q, val a % D) ∧ Norm q ∧ val q = val a / D ∧ q.length ≤ a.length := by
  unfold impl_divideSmall.f
  have key : ∀ d : Nat, d ≤ a.length → ∀ (x : List Int) (r : Int), x.length = a.length → Limbs x → 0 ≤ r → r < D → val (a.drop d) = val (x.drop d) * D + r →
      ∃ q : List Int, Ev (fun k => impl_divideSmall.l0 k a D x r ((d : Int) - 1)) (q, val a % D) ∧ Norm q ∧ val q = val a / D ∧ q.length ≤ a.length := by
    intro d
    induction d with
    | zero =>
      intro _ x r hx hl h0 h1 hv
      simp only [List.drop_zero] at hv
      obtain ⟨e1, e2⟩ := div_unique hD hv h0 h1
      refine ⟨strip x, ?_, strip_norm hl, by rw [val_strip]; exact e1, by have := strip_len x; omega⟩
      have hn := ev_impl_trim x (by omega)
      refine Ev.step (f := fun k => (impl_trim.f k x).bind fun t => some (t, r)) (fun k => ?_) ?_
      · simp only [impl_divideSmall.l0]
        rw [if_neg (by omega)]
      · rw [← e2]; exact Ev.bind hn (Ev.now _)
    | succ d ih =>
      intro hd x r hx hl h0 h1 hv
      have hy := rd_limb ha (d : Int)
      have hdg := small_digit D r (rd a (d : Int)) hD h0 h1 hy.1 hy.2
      have hm0 := Int.emod_nonneg (r * 65536 + rd a (d : Int)) (show D ≠ 0 by omega)
      have hm1 := Int.emod_lt_of_pos (r * 65536 + rd a (d : Int)) (show 0 < D by omega)
      obtain ⟨q, hq, hrest⟩ := ih (by omega) (x.set d ((r * 65536 + rd a (d : Int)) / D)) ((r * 65536 + rd a (d : Int)) % D) (by simpa using hx) (hl.set d hdg.1 hdg.2) hm0 hm1 (by
        rw [val_set_drop _ _ _ (by omega), val_drop_at (by omega)]
        exact small_step D r _ _ _ hD hv)
      refine ⟨q, Ev.step (fun k => ?_) hq, hrest⟩
      simp only [impl_divideSmall.l0]
      rw [show ((d + 1 : Nat) : Int) - 1 = (d : Int) by omega]
      rw [if_pos (by omega), if_pos (by omega), if_pos (by omega), if_neg (by omega), if_pos (by omega), w64 (x := r * 65536) (by omega) (by omega), w64 (x := r * 65536 + rd a (d : Int)) (by omega) (by omega), td _ _ (by omega), tm _ _ (by omega), w64 (by omega) (by omega), w64 (by omega) (by omega), Int.toNat_natCast]
  obtain ⟨q, hq, h2⟩ := key a.length (Nat.le_refl _) (List.replicate a.length 0) 0 (by simp) (Limbs.zeros _) (by omega) (by omega) (by rw [List.drop_length]; simp [val])
  refine ⟨q, ?_, h2⟩
  refine ev_if_pos (by omega) (ev_if_pos (by omega) ?_)
  rw [w64 (by omega) (by omega), Int.toNat_natCast]
  exact hq

/-! #### reverse -/
theorem ev_reverse (x : List Int) (hb : x.length ≤ 1000000) : Ev (fun k => slices_Reverse_byte_byte.f k x) x.reverse := by
  unfold slices_Reverse_byte_byte.f
  rw [w64 (by omega) (by omega)]
  have key : ∀ (d i : Nat) (y : List Int), i + i + d = x.length + 1 ∨ (i + i + d = x.length) → y.length = x.length → (∀ q : Nat, q < x.length → y.getD q 0 = if q < i ∨ x.length - i ≤ q then x.getD (x.length - 1 - q) 0 else x.getD q 0) →
      Ev (fun k => slices_Reverse_byte_byte.l0 k y (i : Int) ((x.length : Int) - 1 - i)) x.reverse := by
    intro d
    induction d using Nat.strongRecOn with
    | ind d ih =>
      intro i y hd hl hy
      by_cases h : (i : Int) < (x.length : Int) - 1 - i
      · refine Ev.step (f := fun k => slices_Reverse_byte_byte.l0 k ((y.set i (rd y ((x.length : Int) - 1 - i))).set (x.length - 1 - i) (rd y (i : Int))) ((i + 1 : Nat) : Int) ((x.length : Int) - 1 - (i + 1 : Nat))) (fun k => ?_) (ih (d - 2) (by omega) (i + 1) _ (by omega) (by simp [hl]) ?_)
        · simp only [slices_Reverse_byte_byte.l0]
          rw [if_pos h, if_pos (by omega), if_pos (by omega), if_pos (by omega), if_pos (by omega), w64 (by omega) (by omega), w64 (by omega) (by omega), Int.toNat_natCast, show ((x.length : Int) - 1 - i).toNat = x.length - 1 - i by omega, show (i : Int) + 1 = ((i + 1 : Nat) : Int) by omega, show (x.length : Int) - 1 - i - 1 = (x.length : Int) - 1 - ((i + 1 : Nat) : Int) by omega]
        · intro q hq
          have e1 : rd y ((x.length : Int) - 1 - i) = x.getD (x.length - 1 - i) 0 := by
            rw [show (x.length : Int) - 1 - i = ((x.length - 1 - i : Nat) : Int) by omega, rd_nat, hy _ (by omega), if_neg (by omega)]
          have e2 : rd y (i : Int) = x.getD i 0 := by
            rw [rd_nat, hy _ (by omega), if_neg (by omega)]
          rw [e1, e2]
          have hq2 := hy q hq
          simp only [List.getD_eq_getElem?_getD, List.getElem?_set, List.length_set] at hq2 ⊢
          by_cases q1 : x.length - 1 - i = q
          · rw [if_pos q1, if_pos (by omega), if_pos (by omega)]
            simp only [Option.getD_some]
            congr 2
            omega
          · rw [if_neg q1]
            by_cases q2 : i = q
            · rw [if_pos q2, if_pos (by omega), if_pos (by omega)]
              simp only [Option.getD_some]
              congr 2
              omega
            · rw [if_neg q2, hq2]
              by_cases q3 : q < i ∨ x.length - i ≤ q
              · rw [if_pos q3, if_pos (by omega)]
              · rw [if_neg q3, if_neg (by omega)]
      · refine Ev.step (f := fun _ => some y) (fun k => ?_) ?_
        · simp only [slices_Reverse_byte_byte.l0]
          rw [if_neg h]
        · have e : y = x.reverse := by
            apply List.ext_getElem
            · simp [hl]
            · intro q h1 h2
              have hq : q < x.length := by omega
              have := hy q hq
              rw [List.getD_eq_getElem?_getD, List.getElem?_eq_getElem h1, Option.getD_some] at this
              rw [this, List.getElem_reverse]
              by_cases q3 : q < i ∨ x.length - i ≤ q
              · rw [if_pos q3, List.getD_eq_getElem?_getD, List.getElem?_eq_getElem (by omega)]; rfl
              · rw [if_neg q3, List.getD_eq_getElem?_getD, List.getElem?_eq_getElem hq]
                simp only [Option.getD_some]
                congr 1
                omega
          rw [e]; exact Ev.now _
  have h := key (x.length) 0 x (.inr (by omega)) rfl (fun q hq => by rw [if_neg (by omega)])
  simpa using h

/-! #### digitsOf -/
/-- Noughts at the high end taken away, then turned round. -/
theorem digits_l2 (V : Int) (h1 : 1 ≤ V) : ∀ (n : Nat) (x : List Int), x.length = n → x.length ≤ 1000000 → Dgs x → val10 x = V → ∃ y : List Int, IsDec V y ∧ Ev (fun k => impl_digitsOf.l2 k x) y.reverse := by
  intro n
  induction n with
  | zero =>
    intro x hx _ _ hv
    have e : x = [] := List.eq_nil_of_length_eq_zero hx
    subst e
    simp only [val10] at hv
    omega
  | succ n ih =>
    intro x hx hl hd hv
    have hne : x ≠ [] := by intro e; subst e; simp at hx
    obtain ⟨a, c, rfl⟩ : ∃ a c, x = a ++ [c] := ⟨x.dropLast, x.getLast hne, (List.dropLast_concat_getLast hne).symm⟩
    have hal : (a ++ [c]).length = a.length + 1 := by simp
    have hr : rd (a ++ [c]) (wrap64 (((a ++ [c]).length : Int) - 1)) = c := by
      rw [w64 (by omega) (by omega), hal, show ((a.length + 1 : Nat) : Int) - 1 = ((a.length : Nat) : Int) by omega, rd_get _ _ (by omega)]
      simp
    by_cases h : c = 48
    · have hv' : val10 a = V := by rw [val10_snoc, h] at hv; omega
      obtain ⟨y, hy, hk⟩ := ih a (by omega) (by omega) hd.left hv'
      refine ⟨y, hy, Ev.step (f := fun k => impl_digitsOf.l2 k a) (fun k => ?_) hk⟩
      simp only [impl_digitsOf.l2]
      rw [hr, if_pos (by rw [w64 (by omega) (by omega)]; omega), if_pos (by rw [w64 (by omega) (by omega)]; omega), if_pos h, if_pos (by rw [w64 (by omega) (by omega)]; omega), w64 (by omega) (by omega), hal, show (((a.length + 1 : Nat) : Int) - 1).toNat = a.length by omega, List.take_left]
    · refine ⟨a ++ [c], ⟨hd, by simpa using h, hv⟩, ?_⟩
      refine Ev.step (f := fun k => (slices_Reverse_byte_byte.f k (a ++ [c])).bind fun t => some t) (fun k => ?_) (Ev.bind (ev_reverse _ hl) (Ev.now _))
      simp only [impl_digitsOf.l2]
      rw [hr, if_pos (by rw [w64 (by omega) (by omega)]; omega), if_pos (by rw [w64 (by omega) (by omega)]; omega), if_neg h]
/-- Four digits of a part below 10000. -/
theorem digits_l1 (x q : List Int) (r : Int) (hl : x.length ≤ 1000000) (h0 : 0 ≤ r) (h1 : r < 10000) {z : List Int}
    (h : Ev (fun k => impl_digitsOf.l0 k q (x ++ [48 + r % 10, 48 + r / 10 % 10, 48 + r / 100 % 10, 48 + r / 1000 % 10])) z) : Ev (fun k => impl_digitsOf.l1 k x q r 0) z := by
  have step : ∀ (y : List Int) (s : Int) (i : Int), y.length ≤ 1000010 → 0 ≤ s → s < 10000 → 0 ≤ i → i < 4 → Ev (fun k => impl_digitsOf.l1 k (y ++ [48 + s % 10]) q (s / 10) (i + 1)) z → Ev (fun k => impl_digitsOf.l1 k y q s i) z := by
    intro y s i hy s0 s1 i0 i1 hk
    refine Ev.step (fun k => ?_) hk
    simp only [impl_digitsOf.l1]
    rw [if_pos i1, if_pos (by omega), tm _ _ s0, td _ _ s0, w64 (by omega) (by omega), w64 (by omega) (by omega), w64 (by omega) (by omega), show (48 + s % 10) % 256 = 48 + s % 10 by omega]
  refine step x r 0 (by omega) h0 h1 (by omega) (by omega) ?_
  refine step _ (r / 10) _ (by simp; omega) (by omega) (by omega) (by omega) (by omega) ?_
  refine step _ (r / 10 / 10) _ (by simp; omega) (by omega) (by omega) (by omega) (by omega) ?_
  refine step _ (r / 10 / 10 / 10) _ (by simp; omega) (by omega) (by omega) (by omega) (by omega) ?_
  refine Ev.step (f := fun k => impl_digitsOf.l0 k q (x ++ [48 + r % 10, 48 + r / 10 % 10, 48 + r / 100 % 10, 48 + r / 1000 % 10])) (fun k => ?_) h
  simp only [impl_digitsOf.l1]
  rw [if_neg (by omega), show r / 10 / 10 = r / 100 by omega, show r / 100 / 10 = r / 1000 by omega]
  simp only [List.append_assoc, List.cons_append, List.nil_append]
theorem digits_four (x : List Int) (r q : Int) (h0 : 0 ≤ r) (h1 : r < 10000) :
    val10 (x ++ [48 + r % 10, 48 + r / 10 % 10, 48 + r / 100 % 10, 48 + r / 1000 % 10]) + pt (x.length + 4) * q = val10 x + pt x.length * (r + 10000 * q) := by
  have e : x ++ [48 + r % 10, 48 + r / 10 % 10, 48 + r / 100 % 10, 48 + r / 1000 % 10] = (((x ++ [48 + r % 10]) ++ [48 + r / 10 % 10]) ++ [48 + r / 100 % 10]) ++ [48 + r / 1000 % 10] := by simp
  rw [e]
  simp only [val10_snoc, List.length_append, List.length_singleton, pt]
  generalize pt x.length = p
  have hr : r = r % 10 + 10 * (r / 10 % 10) + 100 * (r / 100 % 10) + 1000 * (r / 1000 % 10) := by omega
  generalize r % 10 = a at *
  generalize r / 10 % 10 = b at *
  generalize r / 100 % 10 = c at *
  generalize r / 1000 % 10 = d at *
  subst hr
  grind
theorem digits_key (V : Int) (h1 : 1 ≤ V) : ∀ (m : Nat) (a x : List Int), Norm a → a.length ≤ 1000 → val a < pt m → Dgs x → val10 x + pt x.length * val a = V → x.length + 4 * m ≤ 900000 →
    ∃ y : List Int, IsDec V y ∧ Ev (fun k => impl_digitsOf.l0 k a x) y.reverse := by
  intro m
  induction m with
  | zero =>
    intro a x ha hl hv hx hV hlen
    have h0 := val_nonneg ha.1
    have e : a = [] := ha.zero (by simp [pt] at hv; omega)
    subst e
    obtain ⟨y, hy, hk⟩ := digits_l2 V h1 x.length x rfl (by omega) hx (by simpa [val] using hV)
    refine ⟨y, hy, Ev.step (f := fun k => impl_digitsOf.l2 k x) (fun k => ?_) hk⟩
    simp only [impl_digitsOf.l0]
    rw [if_neg (by simp)]
  | succ m ih =>
    intro a x ha hl hv hx hV hlen
    by_cases e : a = []
    · subst e
      obtain ⟨y, hy, hk⟩ := digits_l2 V h1 x.length x rfl (by omega) hx (by simpa [val] using hV)
      refine ⟨y, hy, Ev.step (f := fun k => impl_digitsOf.l2 k x) (fun k => ?_) hk⟩
      simp only [impl_digitsOf.l0]
      rw [if_neg (by simp)]
    · have hp := ha.pos e
      obtain ⟨q, hq, q1, q2, q3⟩ := ev_impl_divideSmall a 10000 ha.1 (by omega) (by omega) (by omega)
      have hr : 0 ≤ val a % 10000 ∧ val a % 10000 < 10000 := by omega
      have hlt : val a / 10000 < pt m := by simp only [pt] at hv; omega
      have hm := Int.mul_ediv_add_emod (val a) 10000
      generalize val a % 10000 = r at *
      obtain ⟨y, hy, hk⟩ := ih q (x ++ [48 + r % 10, 48 + r / 10 % 10, 48 + r / 100 % 10, 48 + r / 1000 % 10]) q1 (by omega) (by rw [q2]; exact hlt)
        (by
          intro z hz
          rcases List.mem_append.1 hz with hz | hz
          · exact hx z hz
          · simp only [List.mem_cons, List.not_mem_nil, or_false] at hz
            rcases hz with rfl | rfl | rfl | rfl <;> omega)
        (by
          rw [List.length_append, show [48 + r % 10, 48 + r / 10 % 10, 48 + r / 100 % 10, 48 + r / 1000 % 10].length = 4 from rfl, digits_four x r _ hr.1 hr.2, q2, ← hV]
          congr 2
          omega) (by simp; omega)
      refine ⟨y, hy, Ev.step (f := fun k => (impl_divideSmall.f k a 10000).bind fun bt199 => (impl_digitsOf.l1 k x bt199.1 bt199.2 0)) (fun k => ?_) (Ev.bind hq ?_)⟩
      · simp only [impl_digitsOf.l0]
        rw [if_pos (by have := List.length_pos_iff.2 e; omega)]
      · exact digits_l1 x q r (by omega) hr.1 hr.2 hk
theorem ev_impl_digitsOf (a : List Int) (ha : Norm a) (hl : a.length ≤ 1000) (h0 : a ≠ []) : ∃ y : List Int, IsDec (val a) y ∧ Ev (fun k => impl_digitsOf.f k a) y.reverse := by
  have hv := val_lt ha.1
  have hp := pw_pt a.length
  obtain ⟨y, hy, hk⟩ := digits_key (val a) (ha.pos h0) (5 * a.length) a [] ha hl (by omega) Dgs.nil (by simp [val10, pt]) (by simp; omega)
  refine ⟨y, hy, ?_⟩
  unfold impl_digitsOf.f
  refine ev_if_neg (by have := List.length_pos_iff.2 h0; omega) hk

/-! #### text -/
/-- Both texts of a number are one. -/
theorem text_agree (a : List Int) (ha : Norm a) (hl : a.length ≤ 100) : ∃ r : List Int, r.length ≤ 500 ∧ 1 ≤ r.length ∧ Ev (fun k => spec_l2text.f k a) r ∧ Ev (fun k => impl_digitsOf.f k a) r := by
  by_cases h : a = []
  · subst h
    refine ⟨[48], by simp, by simp, ?_, ?_⟩
    · unfold spec_l2text.f
      exact ev_if_pos rfl (Ev.now _)
    · unfold impl_digitsOf.f
      exact ev_if_pos rfl (Ev.now _)
  · obtain ⟨y, hy, hk⟩ := ev_spec_l2text a ha (by omega) h
    obtain ⟨z, hz, hj⟩ := ev_impl_digitsOf a ha (by omega) h
    have e := hz.inj hy
    subst e
    have h1 := hz.len (val_lt ha.1)
    have h2 := List.length_pos_iff.2 (hz.pos (ha.pos h))
    exact ⟨z.reverse, by rw [List.length_reverse]; omega, by rw [List.length_reverse]; omega, hk, hj⟩

/-! #### l2of -/
theorem ev_spec_l2of (n : Int) (h1 : n ≤ 9223372036854775807) : Ev (fun k => spec_l2of.f k n) (dig n) := by
  unfold spec_l2of.f dig
  have key : ∀ f : Nat, ∀ x : Int, ∀ acc : List Int, x < pw f → x ≤ 9223372036854775807 → acc.length + f < 1000 → Ev (fun k => spec_l2of.l0 k x acc) (acc ++ digF f x) := by
    intro f
    induction f with
    | zero =>
      intro x acc hx hb ha
      simp [pw] at hx
      refine Ev.step (f := fun _ => some (acc ++ digF 0 x)) (fun k => ?_) (Ev.now _)
      simp only [spec_l2of.l0]
      rw [if_neg (by omega)]; simp [digF]
    | succ f ih =>
      intro x acc hx hb ha
      by_cases h : x ≤ 0
      · refine Ev.step (f := fun _ => some (acc ++ digF (f + 1) x)) (fun k => ?_) (Ev.now _)
        simp only [spec_l2of.l0]
        rw [if_neg (by omega)]; simp [digF, h]
      · have e : acc ++ digF (f + 1) x = (acc ++ [x % 65536]) ++ digF f (x / 65536) := by
          simp [digF, h]
        rw [e]
        simp only [pw] at hx
        refine Ev.step (f := fun k => spec_l2of.l0 k (x / 65536) (acc ++ [x % 65536])) (fun k => ?_) (ih _ _ (by omega) (by omega) (by simp; omega))
        simp only [spec_l2of.l0]
        rw [if_pos (by omega), if_pos (by omega), td _ _ (by omega), tm _ _ (by omega), w64 (by omega) (by omega)]
  have := key 4 n [] (by rw [pw4]; omega) h1 (by simp)
  simpa using this

/-! #### l2add -/
theorem add_step (x y c P A B O T : Int) (h : O + P * (c + (x + 65536 * A) + (y + 65536 * B)) = T) : O + P * ((c + x + y) % 65536) + 65536 * P * ((c + x + y) / 65536 + A + B) = T := by
  have e := Int.mul_ediv_add_emod (c + x + y) 65536
  have e2 : P * (c + (x + 65536 * A) + (y + 65536 * B)) = P * ((c + x + y) % 65536) + 65536 * P * ((c + x + y) / 65536 + A + B) := by
    have e3 : c + (x + 65536 * A) + (y + 65536 * B) = (c + x + y) % 65536 + 65536 * ((c + x + y) / 65536 + A + B) := by omega
    rw [e3, Int.mul_add, ← Int.mul_assoc, Int.mul_comm P 65536]
  omega
theorem val_drop_any (l : List Int) (i : Nat) : val (l.drop i) = rd l (i : Int) + 65536 * val (l.drop (i + 1)) := by
  by_cases h : i < l.length
  · exact val_drop_at h
  · rw [List.drop_eq_nil_of_le (by omega), List.drop_eq_nil_of_le (by omega), rd_out _ _ (by omega)]; simp [val]
theorem ev_spec_l2add (a b : List Int) (ha : Limbs a) (hb : Limbs b) (hla : a.length ≤ 1000000) (hlb : b.length ≤ 1000000) :
    ∃ q : List Int, Ev (fun n => spec_l2add.f n a b) q ∧ Norm q ∧ val q = val a + val b ∧ q.length ≤ max a.length b.length + 1 := by
  unfold spec_l2add.f
  have key : ∀ d i : Nat, i + d = max a.length b.length + 1 → ∀ (out : List Int) (c : Int), out.length = i → Limbs out → 0 ≤ c → c ≤ 1 → (d = 0 → c = 0) →
      val out + pw i * (c + val (a.drop i) + val (b.drop i)) = val a + val b →
      ∃ q : List Int, Ev (fun n => spec_l2add.l0 n out c (i : Int) a b) q ∧ Norm q ∧ val q = val a + val b ∧ q.length ≤ max a.length b.length + 1 := by
    intro d
    induction d with
    | zero =>
      intro i hi out c ho hl h0 h1 hc hv
      have hc0 := hc rfl
      subst hc0
      rw [List.drop_eq_nil_of_le (by omega), List.drop_eq_nil_of_le (by omega)] at hv
      simp [val] at hv
      refine ⟨strip out, ?_, strip_norm hl, by rw [val_strip]; exact hv, by have := strip_len out; omega⟩
      refine Ev.step (fun n => by simp only [spec_l2add.l0]; rw [if_neg (by omega), if_neg (by omega)]) ?_
      refine Ev.step (fun n => by simp only [spec_l2add.j1]; rfl) ?_
      simp only [Int.lt_irrefl, gt_iff_lt, decide_false, Bool.false_eq_true, if_false]
      exact Ev.bind (ev_spec_l2norm out (by omega)) (Ev.now _)
    | succ d ih =>
      intro i hi out c ho hl h0 h1 hc hv
      have hx := rd_limb ha (i : Int)
      have hy := rd_limb hb (i : Int)
      have hv2 := hv
      rw [val_drop_any a i, val_drop_any b i] at hv2
      have hs := add_step _ _ _ _ _ _ _ _ hv2
      have hm0 : 0 ≤ (c + rd a (i : Int) + rd b (i : Int)) % 65536 ∧ (c + rd a (i : Int) + rd b (i : Int)) % 65536 ≤ 65535 := by omega
      have hd0 : 0 ≤ (c + rd a (i : Int) + rd b (i : Int)) / 65536 ∧ (c + rd a (i : Int) + rd b (i : Int)) / 65536 ≤ 1 := by omega
      have hnext : val (out ++ [(c + rd a (i : Int) + rd b (i : Int)) % 65536]) + pw (i + 1) * ((c + rd a (i : Int) + rd b (i : Int)) / 65536 + val (a.drop (i + 1)) + val (b.drop (i + 1))) = val a + val b := by
        rw [val_snoc, ho]; simp only [pw]; exact hs
      have hcz : d = 0 → (c + rd a (i : Int) + rd b (i : Int)) / 65536 = 0 := by
        intro hd
        have p1 : rd a (i : Int) = 0 := rd_out _ _ (by omega)
        have p2 : rd b (i : Int) = 0 := rd_out _ _ (by omega)
        omega
      have next := ih (i + 1) (by omega) (out ++ [(c + rd a (i : Int) + rd b (i : Int)) % 65536]) ((c + rd a (i : Int) + rd b (i : Int)) / 65536) (by simp; omega) (hl.append (Limbs.cons hm0.1 hm0.2 Limbs.nil)) hd0.1 hd0.2 hcz hnext
      obtain ⟨q, hq, hrest⟩ := next
      have c1 : ((i + 1 : Nat) : Int) = (i : Int) + 1 := by omega
      rw [c1] at hq
      by_cases hla' : (i : Int) < (a.length : Int)
      · refine ⟨q, ?_, hrest⟩
        refine Ev.step (fun n => by simp only [spec_l2add.l0]; rw [if_pos hla']) ?_
        refine Ev.step (fun n => by simp only [spec_l2add.j1]; rfl) ?_
        simp only [if_true, if_pos hla']
        refine ev_if_pos (by omega) ?_
        by_cases hlb' : (i : Int) < (b.length : Int)
        · simp only [if_pos hlb']
          refine ev_if_pos (by omega) ?_
          rw [w64 (x := c + rd a (i : Int)) (by omega) (by omega), w64 (x := c + rd a (i : Int) + rd b (i : Int)) (by omega) (by omega), tm _ _ (by omega), td _ _ (by omega), w64 (by omega) (by omega), w64 (by omega) (by omega)]
          exact hq
        · simp only [if_neg hlb']
          refine ev_if_pos (by omega) ?_
          have z : rd b (i : Int) = 0 := rd_out _ _ (by omega)
          rw [z] at hq
          rw [w64 (x := c + rd a (i : Int)) (by omega) (by omega), tm _ _ (by omega), td _ _ (by omega), w64 (by omega) (by omega), w64 (by omega) (by omega)]
          simpa using hq
      · have za : rd a (i : Int) = 0 := rd_out _ _ (by omega)
        by_cases hlb' : (i : Int) < (b.length : Int)
        · refine ⟨q, ?_, hrest⟩
          refine Ev.step (fun n => by simp only [spec_l2add.l0]; rw [if_neg hla', if_pos hlb']) ?_
          refine Ev.step (fun n => by simp only [spec_l2add.j1]; rfl) ?_
          simp only [if_true, if_neg hla', if_pos hlb']
          refine ev_if_pos (by omega) (ev_if_pos (by omega) ?_)
          rw [za] at hq
          rw [w64 (x := c + rd b (i : Int)) (by omega) (by omega), tm _ _ (by omega), td _ _ (by omega), w64 (by omega) (by omega), w64 (by omega) (by omega)]
          simpa using hq
        · have zb : rd b (i : Int) = 0 := rd_out _ _ (by omega)
          by_cases hc1 : c > 0
          · refine ⟨q, ?_, hrest⟩
            refine Ev.step (fun n => by simp only [spec_l2add.l0]; rw [if_neg hla', if_neg hlb']) ?_
            refine Ev.step (fun n => by simp only [spec_l2add.j1]; rfl) ?_
            simp only [hc1, decide_true, if_true, if_neg hla', if_neg hlb']
            refine ev_if_pos (by omega) ?_
            rw [za, zb] at hq
            rw [tm _ _ (by omega), td _ _ (by omega), w64 (by omega) (by omega), w64 (by omega) (by omega)]
            simpa using hq
          · have hc0 : c = 0 := by omega
            subst hc0
            rw [List.drop_eq_nil_of_le (by omega), List.drop_eq_nil_of_le (by omega)] at hv
            simp [val] at hv
            refine ⟨strip out, ?_, strip_norm hl, by rw [val_strip]; exact hv, by have := strip_len out; omega⟩
            refine Ev.step (fun n => by simp only [spec_l2add.l0]; rw [if_neg hla', if_neg hlb']) ?_
            refine Ev.step (fun n => by simp only [spec_l2add.j1]; rfl) ?_
            simp only [Int.lt_irrefl, gt_iff_lt, decide_false, Bool.false_eq_true, if_false]
            exact Ev.bind (ev_spec_l2norm out (by omega)) (Ev.now _)
  have := key (max a.length b.length + 1) 0 (by omega) [] 0 rfl Limbs.nil (by omega) (by omega) (by omega) (by simp [val, pw])
  simpa using this

/-! #### l3make -/
theorem ev_spec_l3make (s : Bool) (l : List Int) (h : Norm l) (hb : l.length ≤ 1000000) : Ev (fun n => spec_l3make.f n s l) (s && !l.isEmpty, l) := by
  unfold spec_l3make.f
  have e := ev_spec_l2norm l (by omega)
  rw [strip_of_norm h] at e
  cases s
  · simp only [Bool.false_eq_true, if_false]
    exact Ev.bind e (Ev.now _)
  · simp only [if_true]
    refine Ev.bind e ?_
    cases l
    · exact Ev.now _
    · simp; exact Ev.now _

/-! #### l3of -/
/-- The one form of a magnitude. -/
theorem ev_spec_l3of (n : Int) (h0 : -9223372036854775808 ≤ n) (h1 : n ≤ 9223372036854775807) :
    ∃ l : List Int, Ev (fun k => spec_l3of.f k n) (decide (n < 0), l) ∧ Norm l ∧ val l = (if n < 0 then -n else n) ∧ l.length ≤ 5 := by
  unfold spec_l3of.f
  by_cases h : n < 0
  · have d1 := dig_norm (n := -(n + 1)) (by omega) (by omega)
    have d2 := dig_norm (n := 1) (by omega) (by omega)
    have l1 := dig_len (-(n + 1))
    have l2 := dig_len 1
    obtain ⟨q, hq, q1, q2, q3⟩ := ev_spec_l2add _ _ d1.1 d2.1 (by omega) (by omega)
    rw [dig_val (by omega) (by omega), dig_val (by omega) (by omega)] at q2
    have hne : q ≠ [] := by intro e; subst e; simp [val] at q2; omega
    refine ⟨q, ?_, q1, by rw [if_pos h, q2]; omega, by omega⟩
    refine ev_if_pos h ?_
    rw [w64 (x := n + 1) (by omega) (by omega), w64 (by omega) (by omega)]
    refine Ev.bind (ev_spec_l2of _ (by omega)) (Ev.bind (ev_spec_l2of 1 (by omega)) (Ev.bind hq (Ev.bind (ev_spec_l3make true q q1 (by omega)) ?_)))
    have e : (true && !q.isEmpty) = decide (n < 0) := by cases q <;> simp_all
    rw [e]; exact Ev.now _
  · have d1 := dig_norm (n := n) (by omega) (by omega)
    have l1 := dig_len n
    refine ⟨dig n, ?_, d1, by rw [if_neg h, dig_val (by omega) (by omega)], by omega⟩
    refine ev_if_neg h ?_
    refine Ev.bind (ev_spec_l2of _ (by omega)) (Ev.bind (ev_spec_l3make false _ d1 (by omega)) ?_)
    have e : (false && !(dig n).isEmpty) = decide (n < 0) := by simp [h]
    rw [e]; exact Ev.now _

/-! #### NatOkS -/
theorem getLast_rd (l : List Int) (h : 0 < l.length) : l.getLast? = some (rd l ((l.length : Int) - 1)) := by
  rw [show (l.length : Int) - 1 = ((l.length - 1 : Nat) : Int) by omega, rd_get _ _ (by omega), List.getLast?_eq_getElem?, List.getElem?_eq_getElem]
theorem ev_spec_NatOk (l : List Int) (hb : l.length ≤ 9000000000000000000) : Ev (fun k => spec_NatOk.f k l) (okB l) := by
  unfold spec_NatOk.f
  by_cases hl : (l.length : Int) > 100
  · refine ev_if_pos hl ?_
    have e : okB l = false := by
      have : ¬ l.length ≤ 100 := by omega
      simp [okB, this]
    rw [e]; exact Ev.now _
  · refine ev_if_neg hl ?_
    have hl' : l.length ≤ 100 := by omega
    have key : ∀ d i : Nat, i + d = l.length → (∀ j, j < i → 0 ≤ l.getD j 0 ∧ l.getD j 0 ≤ 65535) → Ev (fun k => spec_NatOk.l0 k (i : Int) l) (okB l) := by
      intro d
      induction d with
      | zero =>
        intro i hi hj
        refine Ev.step (f := fun _ => some (okB l)) (fun k => ?_) (Ev.now _)
        have hall : l.all (fun x => decide (0 ≤ x) && decide (x ≤ 65535)) = true := by
          rw [List.all_eq_true]
          intro x hx
          obtain ⟨j, hjl, rfl⟩ := List.getElem_of_mem hx
          have := hj j (by omega)
          rw [List.getD_eq_getElem?_getD, List.getElem?_eq_getElem hjl, Option.getD_some] at this
          simp; exact this
        simp only [spec_NatOk.l0]
        rw [if_neg (by omega)]
        by_cases h0 : (l.length : Int) = 0
        · rw [if_pos h0]
          have : l = [] := List.eq_nil_of_length_eq_zero (by omega)
          subst this; rfl
        · rw [if_neg h0, w64 (by omega) (by omega), if_pos (by omega), if_pos (by omega)]
          have hlast := getLast_rd l (by omega)
          have hr := hj (l.length - 1) (by omega)
          rw [← rd_nat, show ((l.length - 1 : Nat) : Int) = (l.length : Int) - 1 by omega] at hr
          simp only [okB, hall, hlast, hl', decide_true, Bool.true_and]
          by_cases hz : rd l ((l.length : Int) - 1) = 0
          · simp [hz]
          · have : rd l ((l.length : Int) - 1) > 0 := by omega
            simp [hz, this]
      | succ d ih =>
        intro i hi hj
        by_cases hx : 0 ≤ rd l (i : Int) ∧ rd l (i : Int) ≤ 65535
        · refine Ev.step (f := fun k => spec_NatOk.l0 k ((i + 1 : Nat) : Int) l) (fun k => ?_) (ih (i + 1) (by omega) ?_)
          · simp only [spec_NatOk.l0]
            rw [if_pos (by omega), if_pos (by omega), if_neg (by omega), if_neg (by omega), w64 (by omega) (by omega)]
            rfl
          · intro j hj'
            by_cases e : j = i
            · subst e; rw [rd_nat] at hx; exact hx
            · exact hj j (by omega)
        · refine Ev.step (f := fun _ => some (okB l)) (fun k => ?_) (Ev.now _)
          have hall : l.all (fun x => decide (0 ≤ x) && decide (x ≤ 65535)) = false := by
            rw [List.all_eq_false]
            rw [rd_get _ _ (by omega)] at hx
            exact ⟨l[i], List.getElem_mem (by omega), by simp; omega⟩
          simp only [spec_NatOk.l0]
          rw [if_pos (by omega), if_pos (by omega)]
          have e : okB l = false := by simp [okB, hall]
          rw [e]
          by_cases h1 : rd l (i : Int) < 0
          · rw [if_pos h1]
          · rw [if_neg h1, if_pos (by omega)]
    exact key l.length 0 (by omega) (fun j hj => by omega)

/-! #### NatOk -/
theorem impl_NatOk_eq (l : List Int) : impl_NatOk.f l = some (okB l) := by
  unfold impl_NatOk.f impl_areAll_int.f
  by_cases hl : (l.length : Int) ≤ 100
  · have hl' : l.length ≤ 100 := by omega
    rw [if_pos hl]
    simp only [Option.bind_some]
    have ep : l.all impl_areAll_int.p = l.all (fun x => decide (0 ≤ x) && decide (x ≤ 65535)) := rfl
    rw [ep]
    by_cases hall : l.all (fun x => decide (0 ≤ x) && decide (x ≤ 65535)) = true
    · rw [if_pos hall]
      by_cases h0 : (l.length : Int) = 0
      · rw [if_pos h0]
        have : l = [] := List.eq_nil_of_length_eq_zero (by omega)
        subst this; rfl
      · rw [if_neg h0, w64 (by omega) (by omega), if_pos (by omega), if_pos (by omega)]
        have hlast := getLast_rd l (by omega)
        simp only [okB, hall, hlast, hl', decide_true, Bool.true_and]
        by_cases hz : rd l ((l.length : Int) - 1) = 0
        · simp [hz]
        · have e1 : (rd l ((l.length : Int) - 1) != 0) = true := by simpa using hz
          have e2 : (some (rd l ((l.length : Int) - 1)) != some 0) = true := by simpa using hz
          rw [e1, e2]
    · rw [if_neg hall]
      simp [okB, hall]
  · rw [if_neg hl]
    have : ¬ l.length ≤ 100 := by omega
    simp [okB, this]

/-! #### within -/
theorem within_eq (a b c : Int) : impl_within.f a b c = some (decide (b ≤ a ∧ a ≤ c)) := by
  unfold impl_within.f
  by_cases h : b ≤ a <;> simp [h]

/-! #### DecOk -/
/-- Is a decimal number valid? -/
def decOkB (l : List Int) (e : Int) : Bool := okB l && decide (-800 ≤ e ∧ e ≤ 800) && (if l = [] then decide (e = 0) else decide (val l % 10 ≠ 0))
theorem ev_spec_DecOk (s : Bool) (l : List Int) (e : Int) (hb : l.length ≤ 1048576) : Ev (fun k => spec_DecOk.f k s l e) (decOkB l e) := by
  unfold spec_DecOk.f
  refine Ev.bind (ev_spec_NatOk l (by omega)) ?_
  unfold decOkB
  by_cases h : okB l = true
  · have hn := (okB_iff l).1 h
    simp only [if_pos h]
    have tail : ∀ b : Bool, b = decide (¬ (-800 ≤ e ∧ e ≤ 800)) → Ev (fun k => spec_DecOk.j0 k b s l e) (okB l && decide (-800 ≤ e ∧ e ≤ 800) && (if l = [] then decide (e = 0) else decide (val l % 10 ≠ 0))) := by
      intro b hb'
      refine Ev.step (fun k => by simp only [spec_DecOk.j0]; rfl) ?_
      by_cases he : -800 ≤ e ∧ e ≤ 800
      · have : b = false := by rw [hb']; simpa using he
        subst this
        simp only [Bool.false_eq_true, if_false, h, he, and_self, decide_true, Bool.true_and]
        by_cases hl : l = []
        · subst hl; simp; exact Ev.now _
        · have : ¬ (l.length : Int) = 0 := by
            intro z; exact hl (List.eq_nil_of_length_eq_zero (by omega))
          rw [if_neg hl]
          refine ev_if_neg this ?_
          obtain ⟨q, hq, _⟩ := ev_spec_l2small l 10 hn.2.1 (by omega) (by omega) (by omega)
          refine Ev.bind hq ?_
          have : decide (val l % 10 > 0) = decide (val l % 10 ≠ 0) := decide_eq_decide.mpr (by omega)
          simp only [this]
          exact Ev.now _
      · have : b = true := by rw [hb']; exact decide_eq_true he
        subst this
        simp only [if_true, he, decide_false, Bool.and_false, Bool.false_and]
        exact Ev.now _
    by_cases he : e < -800
    · simp only [if_pos he]; exact tail true (by simp; omega)
    · simp only [if_neg he]; exact tail _ (decide_eq_decide.mpr (by omega))
  · simp only [if_neg h]
    refine Ev.step (fun k => by simp only [spec_DecOk.j0]; rfl) ?_
    simp [h]; exact Ev.now _
theorem ev_impl_DecOk (s : Bool) (l : List Int) (e : Int) : Ev (fun k => impl_DecOk.f k s l e) (decOkB l e) := by
  unfold impl_DecOk.f decOkB
  refine ev_bind0 (impl_NatOk_eq l) ?_
  simp only [Option.bind_some, within_eq]
  by_cases h : okB l = true
  · have hn := (okB_iff l).1 h
    simp only [if_pos h]
    by_cases he : -800 ≤ e ∧ e ≤ 800
    · simp only [he, and_self, decide_true, if_true, h, Bool.true_and]
      obtain ⟨q, hq, _⟩ := ev_impl_divideSmall l 10 hn.2.1 (by omega) (by omega) (by omega)
      refine Ev.bind hq ?_
      by_cases hl : l = []
      · subst hl
        simp [val]; exact Ev.now _
      · have : ¬ (l.length : Int) = 0 := by
          intro z; exact hl (List.eq_nil_of_length_eq_zero (by omega))
        rw [if_neg hl]
        by_cases g : val l % 10 = 0
        · simp only [g, if_true, if_neg this]; simp; exact Ev.now _
        · simp only [g, if_false, ne_eq, not_false_eq_true, decide_true]; exact Ev.now _
    · simp only [he, decide_false, Bool.false_eq_true, if_false, Bool.and_false, Bool.false_and]; exact Ev.now _
  · simp only [if_neg h]; simp [h]; exact Ev.now _

/-! #### decText -/
theorem ev_eq {α : Type} {g : Nat → Option α} {r s : α} (h : Ev g r) (e : r = s) : Ev g s := e ▸ h
/-- The bytes of an int's numeral. -/
def itoaL (m : Int) : List Int := bytesOf ⟨(Go.Lib.itoa m).toArray⟩
theorem dec_isdec (u : Nat) : 1 ≤ u → IsDec (u : Int) (((Go.Lib.decDigits u).map fun b => (b.toNat : Int)).reverse) := by
  induction u using Nat.strongRecOn with
  | _ u ih =>
    intro h
    by_cases h1 : u < 10
    · rw [Go.Lib.decDigits, dif_pos h1]
      have e : ((UInt8.ofNat (48 + u)).toNat : Int) = 48 + (u : Int) := by
        have : (UInt8.ofNat (48 + u)).toNat = 48 + u := by rw [UInt8.toNat_ofNat']; omega
        rw [this]; omega
      simp only [List.map_cons, List.map_nil, List.reverse_cons, List.reverse_nil, List.nil_append, e]
      refine ⟨?_, ?_, ?_⟩
      · intro z hz
        rw [List.mem_singleton] at hz
        omega
      · simp; omega
      · simp only [val10]; omega
    · rw [Go.Lib.decDigits, dif_neg h1]
      have hi := ih (u / 10) (by omega) (by omega)
      have e : ((UInt8.ofNat (48 + u % 10)).toNat : Int) = 48 + ((u % 10 : Nat) : Int) := by
        have : (UInt8.ofNat (48 + u % 10)).toNat = 48 + u % 10 := by rw [UInt8.toNat_ofNat']; omega
        rw [this]; omega
      simp only [List.map_append, List.map_cons, List.map_nil, List.reverse_append, List.reverse_cons, List.reverse_nil, List.nil_append, List.cons_append, e]
      have hne := hi.pos (by omega)
      refine ⟨?_, ?_, ?_⟩
      · intro z hz
        rcases List.mem_cons.1 hz with rfl | hz
        · omega
        · exact hi.dgs z hz
      · rw [List.getLast?_cons_of_ne_nil hne]
        exact hi.top
      · simp only [val10, hi.eq]; omega
theorem ev_spec_num (m : Int) (h0 : -9223372036854775808 ≤ m) (h1 : m ≤ 9223372036854775807) (hz : m ≠ 0) :
    ∃ l : List Int, Ev (fun k => spec_l3of.f k m) (decide (m < 0), l) ∧ Ev (fun k => spec_l3text.f k (decide (m < 0)) l) (itoaL m) ∧ (itoaL m).length ≤ 30 := by
  obtain ⟨l, hl, ln, lv, ll⟩ := ev_spec_l3of m h0 h1
  have hne : l ≠ [] := by intro e; subst e; simp only [val] at lv; split at lv <;> omega
  obtain ⟨y, hy, hk⟩ := ev_spec_l2text l ln (by omega) hne
  have hd := dec_isdec m.natAbs (by omega)
  have hv : ((m.natAbs : Nat) : Int) = val l := by rw [lv]; split <;> omega
  rw [hv] at hd
  have hyl := hy.len (val_lt ln.1)
  have e := hd.inj hy
  have er : y.reverse = (Go.Lib.decDigits m.natAbs).map fun b => (b.toNat : Int) := by rw [← e, List.reverse_reverse]
  refine ⟨l, hl, ?_, ?_⟩
  · unfold spec_l3text.f
    by_cases hm : m < 0
    · have hI : itoaL m = 45 :: y.reverse := by
        rw [er]; unfold itoaL bytesOf Go.Lib.itoa; rw [if_pos hm]; rfl
      rw [hI]
      refine ev_if_pos (by simpa using hm) (ev_bind0 rfl (Ev.bind hk (ev_if_pos (by simp; omega) ?_)))
      exact Ev.now _
    · have hI : itoaL m = y.reverse := by
        rw [er]; unfold itoaL bytesOf Go.Lib.itoa; rw [if_neg hm, show m.toNat = m.natAbs by omega]
      rw [hI]
      refine ev_if_neg (by simpa using hm) (Ev.bind hk ?_)
      exact Ev.now _
  · by_cases hm : m < 0
    · have hI : itoaL m = 45 :: y.reverse := by
        rw [er]; unfold itoaL bytesOf Go.Lib.itoa; rw [if_pos hm]; rfl
      rw [hI]; simp; omega
    · have hI : itoaL m = y.reverse := by
        rw [er]; unfold itoaL bytesOf Go.Lib.itoa; rw [if_neg hm, show m.toNat = m.natAbs by omega]
      rw [hI]; simp; omega
theorem itoa_eq (m : Int) (h0 : -9223372036854775808 ≤ m) (h1 : m ≤ 9223372036854775807) : strconv_Itoa_32.f m = some ⟨(Go.Lib.itoa m).toArray⟩ := by
  unfold strconv_Itoa_32.f
  rw [if_pos ⟨h0, h1⟩]
/-- The text behind the sign. -/
def decBody (t : List Int) (e : Int) : List Int :=
  if (t.length : Int) + e > 21 ∨ (t.length : Int) + e < -5 then [rd t 0] ++ (if 1 < t.length then 46 :: t.drop 1 else []) ++ [101] ++ itoaL ((t.length : Int) + e - 1)
  else if 0 ≤ e then t ++ List.replicate e.toNat 48
  else if 0 < (t.length : Int) + e then t.take ((t.length : Int) + e).toNat ++ [46] ++ t.drop ((t.length : Int) + e).toNat
  else [48, 46] ++ List.replicate (-((t.length : Int) + e)).toNat 48 ++ t

/-! #### l6text -/
theorem ev_l6_l0 (s : Bool) (l : List Int) (e : Int) (he : e ≤ 1000) : ∀ (d : Nat) (x : List Int) (i : Int), x.length + d ≤ 1000000 → 0 ≤ i → i + d = e → Ev (fun k => spec_l6text.l0 k x i s l e) (x ++ List.replicate d 48) := by
  intro d
  induction d with
  | zero =>
    intro x i hx h0 hi
    refine Ev.step (f := fun _ => some x) (fun k => ?_) (by simp; exact Ev.now _)
    simp only [spec_l6text.l0]
    rw [if_neg (by omega)]
  | succ d ih =>
    intro x i hx h0 hi
    refine Ev.step (f := fun k => spec_l6text.l0 k (x ++ [48]) (i + 1) s l e) (fun k => ?_) (ev_eq (ih (x ++ [48]) (i + 1) (by simp; omega) (by omega) (by omega)) ?_)
    · simp only [spec_l6text.l0]
      rw [if_pos (by omega)]
      simp only [Option.bind_some]
      rw [if_pos (by simp; omega), w64 (by omega) (by omega)]
    · rw [List.append_assoc, List.replicate_succ]; rfl
theorem ev_l6_l1 (t : List Int) (ht : t.length ≤ 1000000) : ∀ (d : Nat) (x : List Int), x.length + d ≤ 1000000 → Ev (fun k => spec_l6text.l1 k x t (-(d : Int))) (x ++ (List.replicate d 48 ++ t)) := by
  intro d
  induction d with
  | zero =>
    intro x hx
    refine Ev.step (f := fun _ => some (x ++ t)) (fun k => ?_) (by simp; exact Ev.now _)
    simp only [spec_l6text.l1]
    rw [if_neg (by omega), if_pos (by omega)]
  | succ d ih =>
    intro x hx
    refine Ev.step (f := fun k => spec_l6text.l1 k (x ++ [48]) t (-(d : Int))) (fun k => ?_) (ev_eq (ih (x ++ [48]) (by simp; omega)) ?_)
    · simp only [spec_l6text.l1]
      rw [if_pos (by omega)]
      simp only [Option.bind_some]
      rw [if_pos (by simp; omega), w64 (by omega) (by omega), show -((d + 1 : Nat) : Int) + 1 = -(d : Int) by omega]
    · rw [List.append_assoc, List.replicate_succ]; rfl
theorem ev_l6_j1 (p t : List Int) (s : Bool) (l : List Int) (e : Int) (hp : p.length ≤ 1) (t0 : 1 ≤ t.length) (t1 : t.length ≤ 500) (he : -800 ≤ e ∧ e ≤ 800) :
    Ev (fun k => spec_l6text.j1 k p t ((t.length : Int) + e) (decide ((t.length : Int) + e > 21 ∨ (t.length : Int) + e < -5)) s l e) (p ++ decBody t e) := by
  unfold decBody
  obtain ⟨n, hn⟩ : ∃ n : Int, n = (t.length : Int) + e := ⟨_, rfl⟩
  rw [← hn]
  have hnb : -800 ≤ n ∧ n ≤ 1300 := by omega
  by_cases h : n > 21 ∨ n < -5
  · obtain ⟨m, hm1, hm2, hm3⟩ := ev_spec_num (n - 1) (by omega) (by omega) (by omega)
    rw [if_pos h]
    simp only [decide_eq_true h]
    have wn : wrap64 (n - 1) = n - 1 := w64 (by omega) (by omega)
    generalize hI : itoaL (n - 1) = I at *
    by_cases h1 : 1 < t.length
    · rw [if_pos h1]
      refine Ev.step (f := fun k => (spec_l3of.f k (n - 1)).bind fun b => (spec_l3text.f k b.1 b.2).bind fun r => if ((((p ++ [rd t 0]) ++ [46]) ++ t.drop 1) ++ [101]).length + r.length < 140737488355328 then some (((((p ++ [rd t 0]) ++ [46]) ++ t.drop 1) ++ [101]) ++ r) else none) (fun k => ?_) (Ev.bind hm1 (Ev.bind hm2 (ev_if_pos (by simp; omega) (ev_eq (Ev.now _) (by simp)))))
      simp only [spec_l6text.j1, Option.bind_some, if_true]
      rw [if_pos (by omega), if_pos (by simp; omega), if_pos (by omega), if_pos (by simp; omega), if_pos (by omega), if_pos (by simp; omega), if_pos (by simp; omega), wn]
    · rw [if_neg h1]
      refine Ev.step (f := fun k => (spec_l3of.f k (n - 1)).bind fun b => (spec_l3text.f k b.1 b.2).bind fun r => if ((p ++ [rd t 0]) ++ [101]).length + r.length < 140737488355328 then some (((p ++ [rd t 0]) ++ [101]) ++ r) else none) (fun k => ?_) (Ev.bind hm1 (Ev.bind hm2 (ev_if_pos (by simp; omega) (ev_eq (Ev.now _) (by simp)))))
      simp only [spec_l6text.j1, Option.bind_some, if_true]
      rw [if_pos (by omega), if_pos (by simp; omega), if_neg (by omega), if_pos (by simp; omega), wn]
  · rw [if_neg h]
    have hd : decide (n > 21 ∨ n < -5) = false := decide_eq_false h
    simp only [hd]
    by_cases h1 : 0 ≤ e
    · rw [if_pos h1]
      refine Ev.step (f := fun k => spec_l6text.l0 k (p ++ t) 0 s l e) (fun k => ?_) (ev_eq (ev_l6_l0 s l e (by omega) e.toNat (p ++ t) 0 (by simp; omega) (by omega) (by omega)) (by simp))
      simp only [spec_l6text.j1, Bool.false_eq_true, if_false]
      rw [if_pos h1, if_pos (by omega)]
    · rw [if_neg h1]
      by_cases h2 : 0 < n
      · rw [if_pos h2]
        refine Ev.step (f := fun _ => some (((p ++ t.take n.toNat) ++ [46]) ++ t.drop n.toNat)) (fun k => ?_) (ev_eq (Ev.now _) (by simp))
        simp only [spec_l6text.j1, Bool.false_eq_true, if_false, Option.bind_some]
        rw [if_neg h1, if_pos h2, if_pos (by omega), if_pos (by omega), if_pos (by simp; omega), if_pos (by simp; omega), if_pos (by simp; omega)]
      · rw [if_neg h2]
        have e2 : bytesOf (⟨#[48, 46]⟩ : ByteArray) = [48, 46] := rfl
        refine Ev.step (f := fun k => spec_l6text.l1 k (p ++ [48, 46]) t (-(((-n).toNat : Nat) : Int))) (fun k => ?_) (ev_eq (ev_l6_l1 t (by omega) (-n).toNat (p ++ [48, 46]) (by simp; omega)) (by simp))
        simp only [spec_l6text.j1, Bool.false_eq_true, if_false, e2]
        rw [if_neg h1, if_neg h2, if_pos (by omega), show -(((-n).toNat : Nat) : Int) = n by omega]
theorem ev_l6_f (s : Bool) (l t : List Int) (e : Int) (t0 : 1 ≤ t.length) (t1 : t.length ≤ 500) (he : -800 ≤ e ∧ e ≤ 800) (ht : Ev (fun k => spec_l2text.f k l) t) :
    Ev (fun k => spec_l6text.f k s l e) ((if s = true then [45] else []) ++ decBody t e) := by
  have j0 : ∀ p : List Int, p.length ≤ 1 → Ev (fun k => spec_l6text.j0 k p s l e) (p ++ decBody t e) := by
    intro p hp
    refine Ev.step (fun k => by simp only [spec_l6text.j0]; rfl) (Ev.bind ht ?_)
    rw [w64 (by omega) (by omega)]
    have hj := ev_l6_j1 p t s l e hp t0 t1 he
    by_cases h : (t.length : Int) + e > 21
    · refine ev_if_pos h ?_
      rw [show decide ((t.length : Int) + e > 21 ∨ (t.length : Int) + e < -5) = true from decide_eq_true (.inl h)] at hj
      exact hj
    · refine ev_if_neg h ?_
      rw [show decide ((t.length : Int) + e > 21 ∨ (t.length : Int) + e < -5) = decide ((t.length : Int) + e < -5) from decide_eq_decide.mpr (by omega)] at hj
      exact hj
  unfold spec_l6text.f
  refine ev_if (fun h => ?_) (fun h => ?_)
  · rw [if_pos h]
    refine ev_bind0 rfl (ev_if_pos (by simp) ?_)
    exact j0 _ (by simp)
  · rw [if_neg h]
    exact j0 _ (by simp)

/-! #### idecText -/
theorem ev_dt_j0 (t : List Int) (s : Bool) (l : List Int) (e : Int) (t0 : 1 ≤ t.length) (t1 : t.length ≤ 500) (he : -800 ≤ e ∧ e ≤ 800) :
    Ev (fun k => impl_decText.j0 k t ((t.length : Int) + e) ([] : List Int) (decide ((t.length : Int) + e > 21 ∨ (t.length : Int) + e < -5)) s l e) ((if s = true then [45] else []) ++ decBody t e) := by
  have sg : ∀ b : List Int, b.length ≤ 1000000 → impl_signedText.f s b = some ((if s = true then [45] else []) ++ b) := by
    intro b hb
    unfold impl_signedText.f
    by_cases h : s = true
    · rw [if_pos h, if_pos h]
      simp only [Option.bind_some]
      rw [if_pos (by simp; omega)]
    · rw [if_neg h, if_neg h]; rfl
  unfold decBody
  obtain ⟨n, hn⟩ : ∃ n : Int, n = (t.length : Int) + e := ⟨_, rfl⟩
  rw [← hn]
  have hnb : -800 ≤ n ∧ n ≤ 1300 := by omega
  by_cases h : n > 21 ∨ n < -5
  · obtain ⟨m, _, _, hm3⟩ := ev_spec_num (n - 1) (by omega) (by omega) (by omega)
    have hI := itoa_eq (n - 1) (by omega) (by omega)
    have hsz : (⟨(Go.Lib.itoa (n - 1)).toArray⟩ : ByteArray).size = (itoaL (n - 1)).length := by unfold itoaL bytesOf; simp; rfl
    rw [if_pos h]
    simp only [decide_eq_true h]
    have wn : wrap64 (n - 1) = n - 1 := w64 (by omega) (by omega)
    by_cases h1 : 1 < t.length
    · rw [if_pos h1]
      refine Ev.step (f := fun _ => some ((if s = true then [45] else []) ++ ((((([] ++ [rd t 0]) ++ [46]) ++ t.drop 1) ++ [101]) ++ itoaL (n - 1)))) (fun k => ?_) (ev_eq (Ev.now _) (by simp))
      simp only [impl_decText.j0, Option.bind_some, if_true]
      rw [if_pos (by omega), if_pos (by simp), if_pos (by omega), if_pos (by simp), if_pos (by omega), if_pos (by simp; omega), if_pos (by simp; omega), wn, hI, Option.bind_some, if_pos (by rw [hsz]; simp; omega)]
      rw [show bytesOf (⟨(Go.Lib.itoa (n - 1)).toArray⟩ : ByteArray) = itoaL (n - 1) from rfl, sg _ (by simp; omega)]
      rfl
    · rw [if_neg h1]
      refine Ev.step (f := fun _ => some ((if s = true then [45] else []) ++ ((([] ++ [rd t 0]) ++ [101]) ++ itoaL (n - 1)))) (fun k => ?_) (ev_eq (Ev.now _) (by simp))
      simp only [impl_decText.j0, Option.bind_some, if_true]
      rw [if_pos (by omega), if_pos (by simp), if_neg (by omega), if_pos (by simp), wn, hI, Option.bind_some, if_pos (by rw [hsz]; simp; omega)]
      rw [show bytesOf (⟨(Go.Lib.itoa (n - 1)).toArray⟩ : ByteArray) = itoaL (n - 1) from rfl, sg _ (by simp; omega)]
      rfl
  · rw [if_neg h]
    have hd : decide (n > 21 ∨ n < -5) = false := decide_eq_false h
    simp only [hd]
    have rp : ∀ a : Int, 0 ≤ a → a ≤ 1000 → slices_Repeat_byte_byte.f [48] a = some (List.replicate a.toNat 48) := by
      intro a h0 h1
      unfold slices_Repeat_byte_byte.f
      rw [if_pos ⟨rfl, h0, by omega⟩]
      rfl
    have cc : ∀ x y z : List Int, x.length + y.length + z.length ≤ 1000000 → slices_Concat_byte_byte.f x y z = some (x ++ y ++ z) := by
      intro x y z hl
      unfold slices_Concat_byte_byte.f
      rw [if_pos (by omega)]
    by_cases h1 : 0 ≤ e
    · rw [if_pos h1]
      refine Ev.step (f := fun _ => some ((if s = true then [45] else []) ++ (t ++ List.replicate e.toNat 48))) (fun k => ?_) (Ev.now _)
      simp only [impl_decText.j0, Bool.false_eq_true, if_false]
      rw [if_pos h1, rp e h1 (by omega), Option.bind_some, if_pos (by simp; omega), sg _ (by simp; omega)]
      rfl
    · rw [if_neg h1]
      by_cases h2 : 0 < n
      · rw [if_pos h2]
        refine Ev.step (f := fun _ => some ((if s = true then [45] else []) ++ (t.take n.toNat ++ [46] ++ t.drop n.toNat))) (fun k => ?_) (Ev.now _)
        simp only [impl_decText.j0, Bool.false_eq_true, if_false]
        rw [if_neg h1, if_pos h2, if_pos (by omega), if_pos (by omega), cc _ _ _ (by simp; omega), Option.bind_some, sg _ (by simp; omega)]
        rfl
      · rw [if_neg h2]
        refine Ev.step (f := fun _ => some ((if s = true then [45] else []) ++ ([48, 46] ++ List.replicate (-n).toNat 48 ++ t))) (fun k => ?_) (Ev.now _)
        simp only [impl_decText.j0, Bool.false_eq_true, if_false]
        rw [if_neg h1, if_neg h2, w64 (by omega) (by omega), rp (-n) (by omega) (by omega), Option.bind_some, cc _ _ _ (by simp; omega), Option.bind_some, sg _ (by simp; omega)]
        rfl
theorem ev_dt_f (s : Bool) (l t : List Int) (e : Int) (t0 : 1 ≤ t.length) (t1 : t.length ≤ 500) (he : -800 ≤ e ∧ e ≤ 800) (ht : Ev (fun k => impl_digitsOf.f k l) t) :
    Ev (fun k => impl_decText.f k s l e) ((if s = true then [45] else []) ++ decBody t e) := by
  unfold impl_decText.f
  refine Ev.bind ht ?_
  rw [w64 (by omega) (by omega)]
  have hj := ev_dt_j0 t s l e t0 t1 he
  by_cases h : (t.length : Int) + e > 21
  · refine ev_if_pos h ?_
    rw [show decide ((t.length : Int) + e > 21 ∨ (t.length : Int) + e < -5) = true from decide_eq_true (.inl h)] at hj
    exact hj
  · refine ev_if_neg h ?_
    rw [show decide ((t.length : Int) + e > 21 ∨ (t.length : Int) + e < -5) = decide ((t.length : Int) + e < -5) from decide_eq_decide.mpr (by omega)] at hj
    exact hj

/-! #### toNat -/
theorem ev_toIntS (l : List Int) (hb : l.length ≤ 1048576) : Ev (fun k => laws_toIntS.f k l) l := by
  unfold laws_toIntS.f
  refine ev_if_pos (by omega) (ev_if_pos (by simp; omega) ?_)
  have key : ∀ d i : Nat, ∀ x : List Int, i + d = l.length → x.length = l.length → x.take i = l.take i → Ev (fun k => laws_toIntS.l0 k l x (i : Int)) l := by
    intro d
    induction d with
    | zero =>
      intro i x hi hx ht
      refine Ev.step (f := fun _ => some l) (fun k => ?_) (Ev.now _)
      simp only [laws_toIntS.l0]
      rw [if_neg (by omega)]
      rw [List.take_of_length_le (by omega), List.take_of_length_le (by omega)] at ht
      rw [ht]
    | succ d ih =>
      intro i x hi hx ht
      refine Ev.step (f := fun k => laws_toIntS.l0 k l (x.set i (rd l (i : Int))) ((i + 1 : Nat) : Int)) (fun k => ?_) (ih (i + 1) _ (by omega) (by simpa using hx) ?_)
      · simp only [laws_toIntS.l0]
        rw [if_pos (by omega), if_pos (by omega), if_pos (by omega), w64 (by omega) (by omega)]
        simp only [Int.toNat_natCast, Int.natCast_add, Int.natCast_one]
      · rw [List.take_succ_eq_append_getElem (by simp; omega), List.take_succ_eq_append_getElem (by omega), rd_get _ _ (by omega)]
        rw [List.take_set_of_le (by omega), ht]
        simp
  exact key l.length 0 _ (by omega) (by simp) (by simp)
theorem ev_toNat (l : List Int) (hb : l.length ≤ 1048576) : Ev (fun k => laws_toNat.f k l) l := by
  unfold laws_toNat.f
  exact Ev.bind (ev_toIntS l hb) (Ev.now _)
theorem szNat_small (l : List Int) (n : Nat) (hn : n ≤ 1048576) (h : l.length ≤ n) : laws_szNat.f l n = some ((n - l.length : Nat) : Int) := by
  unfold laws_szNat.f laws_szIntS.f
  rw [w64 (by omega) (by omega), if_neg (by omega)]
  simp only [Option.bind_some]
  rw [if_neg (by omega)]
  congr 1; omega
theorem szNat_big (l : List Int) (n : Nat) (hn : n ≤ 1048576) (hm : l.length ≤ maxLen) (h : n < l.length) : laws_szNat.f l n = some (-1) := by
  unfold maxLen at hm
  unfold laws_szNat.f laws_szIntS.f
  rw [w64 (by omega) (by omega), if_pos (by omega)]
  rfl

/-! #### eqIntS -/
theorem ev_eqIntS (l0 l1 : List Int) (hb : l0.length ≤ 9000000000000000000) : Ev (fun k => laws_eqIntS.f k l0 l1) (decide (l0 = l1)) := by
  unfold laws_eqIntS.f
  by_cases hl : (l0.length : Int) = (l1.length : Int)
  · refine ev_if_pos hl ?_
    have key : ∀ d i : Nat, i + d = l0.length → l0.take i = l1.take i → Ev (fun k => laws_eqIntS.l0 k l0 l1 (i : Int)) (decide (l0 = l1)) := by
      intro d
      induction d with
      | zero =>
        intro i hi ht
        have he : l0 = l1 := by rw [List.take_of_length_le (by omega), List.take_of_length_le (by omega)] at ht; exact ht
        refine Ev.step (f := fun _ => some (decide (l0 = l1))) (fun k => ?_) (Ev.now _)
        simp only [laws_eqIntS.l0]
        rw [if_neg (by omega)]; simp [he]
      | succ d ih =>
        intro i hi ht
        by_cases he : rd l0 (i : Int) = rd l1 (i : Int)
        · refine Ev.step (f := fun k => laws_eqIntS.l0 k l0 l1 ((i + 1 : Nat) : Int)) (fun k => ?_) (ih (i + 1) (by omega) ?_)
          · simp only [laws_eqIntS.l0]
            rw [if_pos (by omega), if_pos (by omega), if_pos (by omega), if_pos he, w64 (by omega) (by omega)]
            rfl
          · rw [rd_get _ _ (by omega), rd_get _ _ (by omega)] at he
            rw [List.take_succ_eq_append_getElem (by omega), List.take_succ_eq_append_getElem (by omega), ht, he]
        · refine Ev.step (f := fun _ => some (decide (l0 = l1))) (fun k => ?_) (Ev.now _)
          simp only [laws_eqIntS.l0]
          rw [if_pos (by omega), if_pos (by omega), if_pos (by omega), if_neg he]
          have hne : ¬ l0 = l1 := fun e => he (by rw [e])
          simp [hne]
    exact key l0.length 0 (by omega) (by simp)
  · refine ev_if_neg hl ?_
    have hne : ¬ l0 = l1 := fun e => hl (by rw [e])
    have e : (fun _ : Nat => some false) = fun _ : Nat => some (decide (l0 = l1)) := by simp [hne]
    rw [e]; exact Ev.now _

/-! #### eqNat -/
theorem ev_eqNat (l0 l1 : List Int) (hb : l0.length ≤ 9000000000000000000) : Ev (fun k => laws_eqNat.f k l0 l1) (decide (l0 = l1)) := by
  unfold laws_eqNat.f
  refine Ev.bind (ev_eqIntS l0 l1 hb) ?_
  by_cases h : l0 = l1
  · simp only [h, decide_true, if_true]; exact Ev.now _
  · simp only [h, decide_false]; exact Ev.now _

/-! #### DecH -/
theorem ev_toDec (s : Bool) (l : List Int) (e : Int) (hb : l.length ≤ 1048576) : Ev (fun k => laws_toDec.f k s l e) (s, l, e) := by
  unfold laws_toDec.f
  exact Ev.bind (ev_toNat l hb) (Ev.now _)
theorem szDec_small (s : Bool) (l : List Int) (e : Int) (n : Nat) (hn : n ≤ 1048576) (h : l.length ≤ n) : laws_szDec.f s l e n = some ((n - l.length : Nat) : Int) := by
  unfold laws_szDec.f
  rw [szNat_small l n hn h]
  simp only [Option.bind_some]
  rw [if_neg (by omega)]
theorem szDec_big (s : Bool) (l : List Int) (e : Int) (n : Nat) (hn : n ≤ 1048576) (hm : l.length ≤ maxLen) (h : n < l.length) : laws_szDec.f s l e n = some (-1) := by
  unfold laws_szDec.f
  rw [szNat_big l n hn hm h]
  rfl
theorem ev_eqDec (s : Bool) (l : List Int) (e : Int) (hb : l.length ≤ 9000000000000000000) : Ev (fun k => laws_eqDec.f k s l e s l e) true := by
  unfold laws_eqDec.f
  simp only [bne_self_eq_false, Bool.false_eq_true, if_false]
  refine Ev.bind (ev_eqNat l l hb) ?_
  simp only [decide_true, if_true]
  exact Ev.now _

/-! #### eqByteS -/
theorem ev_eqByteS (l0 l1 : List Int) (hb : l0.length ≤ 9000000000000000000) : Ev (fun k => laws_eqByteS.f k l0 l1) (decide (l0 = l1)) := by
  unfold laws_eqByteS.f
  by_cases hl : (l0.length : Int) = (l1.length : Int)
  · refine ev_if_pos hl ?_
    have key : ∀ d i : Nat, i + d = l0.length → l0.take i = l1.take i → Ev (fun k => laws_eqByteS.l0 k l0 l1 (i : Int)) (decide (l0 = l1)) := by
      intro d
      induction d with
      | zero =>
        intro i hi ht
        have he : l0 = l1 := by rw [List.take_of_length_le (by omega), List.take_of_length_le (by omega)] at ht; exact ht
        refine Ev.step (f := fun _ => some (decide (l0 = l1))) (fun k => ?_) (Ev.now _)
        simp only [laws_eqByteS.l0]
        rw [if_neg (by omega)]; simp [he]
      | succ d ih =>
        intro i hi ht
        by_cases he : rd l0 (i : Int) = rd l1 (i : Int)
        · refine Ev.step (f := fun k => laws_eqByteS.l0 k l0 l1 ((i + 1 : Nat) : Int)) (fun k => ?_) (ih (i + 1) (by omega) ?_)
          · simp only [laws_eqByteS.l0]
            rw [if_pos (by omega), if_pos (by omega), if_pos (by omega), if_pos he, w64 (by omega) (by omega)]
            rfl
          · rw [rd_get _ _ (by omega), rd_get _ _ (by omega)] at he
            rw [List.take_succ_eq_append_getElem (by omega), List.take_succ_eq_append_getElem (by omega), ht, he]
        · refine Ev.step (f := fun _ => some (decide (l0 = l1))) (fun k => ?_) (Ev.now _)
          simp only [laws_eqByteS.l0]
          rw [if_pos (by omega), if_pos (by omega), if_pos (by omega), if_neg he]
          have hne : ¬ l0 = l1 := fun e => he (by rw [e])
          simp [hne]
    exact key l0.length 0 (by omega) (by simp)
  · refine ev_if_neg hl ?_
    have hne : ¬ l0 = l1 := fun e => hl (by rw [e])
    have e : (fun _ : Nat => some false) = fun _ : Nat => some (decide (l0 = l1)) := by simp [hne]
    rw [e]; exact Ev.now _

/-! #### markByteS -/
/-- Marks from a on, as bytes. -/
def bmarks (a : Int) : Nat → List Int
  | 0 => []
  | n + 1 => (a % 256) :: bmarks (a + 1) n
theorem bmarks_length (n : Nat) : ∀ a, (bmarks a n).length = n := by
  induction n with
  | zero => intro a; rfl
  | succ n ih => intro a; simp [bmarks, ih]
theorem bmarks_get (n : Nat) : ∀ a i, i < n → (bmarks a n).getD i 0 = (a + i) % 256 := by
  induction n with
  | zero => intro a i h; omega
  | succ n ih =>
    intro a i h
    cases i with
    | zero => simp [bmarks]
    | succ i =>
      simp only [bmarks, List.getD_cons_succ]
      rw [ih _ _ (by omega)]
      congr 1; omega
theorem ev_markByteS (l : List Int) (a : Int) (h0 : 0 ≤ a) (hb : a + l.length ≤ 9000000000000000000) : Ev (fun k => laws_markByteS.f k l a) (a + l.length, bmarks a l.length) := by
  unfold laws_markByteS.f
  have key : ∀ d i : Nat, ∀ x : List Int, i + d = l.length → x.length = l.length → (∀ j, j < i → x.getD j 0 = (a + j) % 256) →
      Ev (fun k => laws_markByteS.l0 k x (a + i) (i : Int)) (a + l.length, bmarks a l.length) := by
    intro d
    induction d with
    | zero =>
      intro i x hi hx hm
      refine Ev.step (f := fun _ => some (a + l.length, bmarks a l.length)) (fun k => ?_) (Ev.now _)
      simp only [laws_markByteS.l0]
      rw [if_neg (by omega)]
      have e : x = bmarks a l.length := by
        apply List.ext_getElem
        · rw [hx, bmarks_length]
        · intro j h1 h2
          have p := hm j (by omega)
          have q := bmarks_get l.length a j (by omega)
          rw [List.getD_eq_getElem?_getD, List.getElem?_eq_getElem h1, Option.getD_some] at p
          rw [List.getD_eq_getElem?_getD, List.getElem?_eq_getElem h2, Option.getD_some] at q
          omega
      rw [e, show (i : Int) = l.length by omega]
    | succ d ih =>
      intro i x hi hx hm
      refine Ev.step (f := fun k => laws_markByteS.l0 k (x.set i ((a + i) % 256)) (a + ((i + 1 : Nat) : Int)) ((i + 1 : Nat) : Int)) (fun k => ?_) (ih (i + 1) _ (by omega) (by simpa using hx) ?_)
      · simp only [laws_markByteS.l0]
        rw [if_pos (by omega), if_pos (by omega), w64 (x := a + i + 1) (by omega) (by omega), w64 (x := (i : Int) + 1) (by omega) (by omega)]
        simp only [Int.toNat_natCast, Int.natCast_add, Int.natCast_one, Int.add_assoc]
      · intro j hj
        by_cases e : j = i
        · subst e
          simp [List.getD_eq_getElem?_getD, List.getElem?_set, show j < x.length by omega]
        · have := hm j (by omega)
          rw [List.getD_eq_getElem?_getD] at this ⊢
          rw [List.getElem?_set_ne (by omega)]; exact this
  have := key l.length 0 l (by omega) rfl (fun j hj => by omega)
  simpa using this

/-! #### heldByteS -/
theorem ev_heldByteS (n : Nat) (a : Int) (h0 : 0 ≤ a) (hb : a + n ≤ 9000000000000000000) : Ev (fun k => laws_heldByteS.f k (bmarks a n) a) (a + n) := by
  unfold laws_heldByteS.f
  have hl := bmarks_length n a
  have key : ∀ d i : Nat, i + d = n → Ev (fun k => laws_heldByteS.l0 k (bmarks a n) (a + i) (i : Int)) (a + n) := by
    intro d
    induction d with
    | zero =>
      intro i hi
      refine Ev.step (f := fun _ => some (a + n)) (fun k => ?_) (Ev.now _)
      simp only [laws_heldByteS.l0]
      rw [if_neg (by omega), show (i : Int) = n by omega]
    | succ d ih =>
      intro i hi
      refine Ev.step (f := fun k => laws_heldByteS.l0 k (bmarks a n) (a + ((i + 1 : Nat) : Int)) ((i + 1 : Nat) : Int)) (fun k => ?_) (ih (i + 1) (by omega))
      simp only [laws_heldByteS.l0]
      rw [if_pos (by omega), if_pos (by omega), if_pos (by rw [rd_nat, bmarks_get n a i (by omega)]), w64 (x := a + i + 1) (by omega) (by omega), w64 (x := (i : Int) + 1) (by omega) (by omega)]
      simp only [Int.natCast_add, Int.natCast_one, Int.add_assoc]
  have := key n 0 (by omega)
  simpa using this

/-! #### markInt0 -/
/-- Marks from a on. -/
def marks (a : Int) : Nat → List Int
  | 0 => []
  | n + 1 => a :: marks (a + 1) n
theorem marks_length (n : Nat) : ∀ a, (marks a n).length = n := by
  induction n with
  | zero => intro a; rfl
  | succ n ih => intro a; simp [marks, ih]
theorem marks_get (n : Nat) : ∀ a i, i < n → (marks a n).getD i 0 = a + i := by
  induction n with
  | zero => intro a i h; omega
  | succ n ih =>
    intro a i h
    cases i with
    | zero => simp [marks]
    | succ i => simp only [marks, List.getD_cons_succ]; rw [ih _ _ (by omega)]; omega
theorem ev_markIntS (l : List Int) (a : Int) (h0 : 0 ≤ a) (hb : a + l.length ≤ 9000000000000000000) : Ev (fun k => laws_markIntS.f k l a) (a + l.length, marks a l.length) := by
  unfold laws_markIntS.f
  have key : ∀ d i : Nat, ∀ x : List Int, i + d = l.length → x.length = l.length → (∀ j, j < i → x.getD j 0 = a + j) →
      Ev (fun k => laws_markIntS.l0 k x (a + i) (i : Int)) (a + l.length, marks a l.length) := by
    intro d
    induction d with
    | zero =>
      intro i x hi hx hm
      refine Ev.step (f := fun _ => some (a + l.length, marks a l.length)) (fun k => ?_) (Ev.now _)
      simp only [laws_markIntS.l0]
      rw [if_neg (by omega)]
      have e : x = marks a l.length := by
        apply List.ext_getElem
        · rw [hx, marks_length]
        · intro j h1 h2
          have p := hm j (by omega)
          have q := marks_get l.length a j (by omega)
          rw [List.getD_eq_getElem?_getD, List.getElem?_eq_getElem h1, Option.getD_some] at p
          rw [List.getD_eq_getElem?_getD, List.getElem?_eq_getElem h2, Option.getD_some] at q
          omega
      rw [e, show (i : Int) = l.length by omega]
    | succ d ih =>
      intro i x hi hx hm
      refine Ev.step (f := fun k => laws_markIntS.l0 k (x.set i (a + i)) (a + ((i + 1 : Nat) : Int)) ((i + 1 : Nat) : Int)) (fun k => ?_) (ih (i + 1) _ (by omega) (by simpa using hx) ?_)
      · simp only [laws_markIntS.l0]
        rw [if_pos (by omega), if_pos (by omega), w64 (x := a + i + 1) (by omega) (by omega), w64 (x := (i : Int) + 1) (by omega) (by omega)]
        simp only [Int.toNat_natCast, Int.natCast_add, Int.natCast_one, Int.add_assoc]
      · intro j hj
        by_cases e : j = i
        · subst e
          simp [List.getD_eq_getElem?_getD, List.getElem?_set, show j < x.length by omega]
        · have := hm j (by omega)
          rw [List.getD_eq_getElem?_getD] at this ⊢
          rw [List.getElem?_set_ne (by omega)]; exact this
  have := key l.length 0 l (by omega) rfl (fun j hj => by omega)
  simpa using this

/-! #### markNat0 -/
theorem ev_markNat (l : List Int) (a : Int) (h0 : 0 ≤ a) (hb : a + l.length ≤ 9000000000000000000) : Ev (fun k => laws_markNat.f k l a) (a + l.length, marks a l.length) := by
  unfold laws_markNat.f
  exact Ev.bind (ev_markIntS l a h0 hb) (Ev.now _)

/-! #### markDec0 -/
theorem ev_markDec (s : Bool) (l : List Int) (e : Int) (a : Int) (h0 : 0 ≤ a) (hb : a + l.length ≤ 9000000000000000000) : Ev (fun k => laws_markDec.f k s l e a) (a + l.length, marks a l.length) := by
  unfold laws_markDec.f
  exact Ev.bind (ev_markNat l a h0 hb) (Ev.now _)

/-! #### law_FnExactDecText -/
theorem decBody_len (t : List Int) (e : Int) (t0 : 1 ≤ t.length) (t1 : t.length ≤ 500) (he : -800 ≤ e ∧ e ≤ 800) : (decBody t e).length ≤ 5000 := by
  unfold decBody
  by_cases h : (t.length : Int) + e > 21 ∨ (t.length : Int) + e < -5
  · obtain ⟨m, _, _, hm⟩ := ev_spec_num ((t.length : Int) + e - 1) (by omega) (by omega) (by omega)
    rw [if_pos h]
    split <;> simp <;> omega
  · rw [if_neg h]
    split
    · simp; omega
    · split <;> simp <;> omega
theorem DecText_agree (s : Bool) (l : List Int) (e : Int) (hb : l.length ≤ 1048576) : ∃ r : List Int, r.length ≤ 6000 ∧ Ev (fun n => spec_DecText.f n s l e) r ∧ Ev (fun n => impl_DecText.f n s l e) r := by
  by_cases h : decOkB l e = true
  · have h' := h
    simp only [decOkB, Bool.and_eq_true, decide_eq_true_eq] at h'
    obtain ⟨⟨hok, he⟩, _⟩ := h'
    have hn := (okB_iff l).1 hok
    obtain ⟨t, t1, t0, hS, hI⟩ := text_agree l hn.2 hn.1
    have hlen := decBody_len t e t0 t1 he
    refine ⟨(if s = true then [45] else []) ++ decBody t e, by split <;> simp <;> omega, ?_, ?_⟩
    · unfold spec_DecText.f
      refine Ev.bind (ev_spec_DecOk s l e (by omega)) (ev_if_pos h (Ev.bind (ev_l6_f s l t e t0 t1 he hS) (Ev.now _)))
    · unfold impl_DecText.f
      refine Ev.bind (ev_impl_DecOk s l e) (ev_if_pos h (Ev.bind (ev_dt_f s l t e t0 t1 he hI) (Ev.now _)))
  · refine ⟨[], by simp, ?_, ?_⟩
    · unfold spec_DecText.f
      refine Ev.bind (ev_spec_DecOk s l e (by omega)) (ev_if_neg h (Ev.now _))
    · unfold impl_DecText.f
      refine Ev.bind (ev_impl_DecOk s l e) (ev_if_neg h (Ev.now _))
theorem FnExactDecText : laws_FnExactDecText.Pure := by
  intro s l e hm hw he
  have g : Ev (fun n => laws_FnExactDecText.f n s l e) true := by
    unfold laws_FnExactDecText.f
    by_cases hs : l.length ≤ 1048576
    · obtain ⟨r, hr, h1, h2⟩ := DecText_agree s l e hs
      have hmk := ev_markByteS r 1 (by omega) (by omega)
      have hh := ev_heldByteS r.length 1 (by omega) (by omega)
      refine ev_bind0 (szDec_small s l e 1048576 (Nat.le_refl _) hs) (ev_if_neg (by omega) ?_)
      refine Ev.bind (ev_toDec s l e hs) (Ev.bind h1 (Ev.bind (ev_toDec s l e hs) (Ev.bind h2 (Ev.bind (ev_eqByteS r r (by omega)) ?_))))
      simp only [decide_true, if_true]
      refine Ev.bind (ev_toDec s l e hs) (Ev.bind (ev_eqDec s l e (by omega)) ?_)
      simp only [if_true]
      refine Ev.bind (ev_markDec s l e 1 (by omega) (by omega)) (ev_if_neg (by omega) (Ev.bind (ev_eqByteS r r (by omega)) ?_))
      simp only [decide_true, Bool.not_true]
      refine Ev.step (fun n => by simp only [laws_FnExactDecText.j0]; rfl) ?_
      simp only [Bool.false_eq_true, if_false]
      refine Ev.bind hmk (Ev.bind hh (ev_if_neg (by omega) (ev_if_pos rfl (Ev.bind (ev_toDec s l e hs) (Ev.bind h2 (Ev.bind (ev_eqByteS r r (by omega)) ?_))))))
      simp only [decide_true, if_true]
      exact Ev.bind hh (ev_if_neg (by omega) (ev_if_pos rfl (Ev.now _)))
    · refine ev_bind0 (szDec_big s l e 1048576 (Nat.le_refl _) hm (by omega)) (ev_if_pos (by omega) (Ev.now _))
  exact g.rounds

end Go.Proofs.YthmieecgojiliaaDoor.Pure
