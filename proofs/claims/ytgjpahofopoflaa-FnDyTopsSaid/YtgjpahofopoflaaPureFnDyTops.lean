/- The pure statement of the law FnDyTops: at every input that its guards let in the program's answer is the reference's. -/
import Derived.Test.YtgjpahofopoflaaPFnDyTopsx12
import Derived.Test.YtgjpahofopoflaaVFnDyTopsb
import Derived.WalkKit
namespace Go.Proofs.Ytgjpahofopoflaa.Pure
open Go.RowKit Go.Proofs.Ytgjpahofopoflaa.PFnDyTops Go.Proofs.YtgjpahofopoflaaW.PrintWords Go.Proofs.YtgjpahofopoflaaW.PrintLast Go.Proofs.Ytgjpahofopoflaa.Lib
set_option linter.unusedVariables false
set_option linter.unusedSimpArgs false

/-! #### l1draws -/
/-- A byte drawn: there is one; the cursor stays where it may read. -/
theorem l1Byte_some (b : List Int) (i h : Int) (hb : b.length ≤ 1000000000000000000) (h0 : 0 ≤ i) : ∃ x j g, spec_l1Byte.f b i h = some (x, j, g) ∧ 0 ≤ x ∧ x ≤ 255 ∧ 0 ≤ j := by
  unfold spec_l1Byte.f
  by_cases h1 : i < (b.length : Int)
  · rw [if_pos h1, if_pos h0]
    exact ⟨_, _, _, rfl, (and255_bd _).1, (and255_bd _).2, by rw [w64 (by omega) (by omega)]; omega⟩
  · rw [if_neg h1]
    exact ⟨_, _, _, rfl, (and255_bd _).1, (and255_bd _).2, h0⟩
theorem l1Below_some (b : List Int) (i h n : Int) (hb : b.length ≤ 1000000000000000000) (h0 : 0 ≤ i) : ∃ x j g, spec_l1Below.f b i h n = some (x, j, g) ∧ 0 ≤ x ∧ (0 < n → x < n) ∧ x ≤ 4294967295 ∧ 0 ≤ j := by
  unfold spec_l1Below.f
  by_cases h1 : n ≤ 0
  · rw [if_pos h1]
    exact ⟨_, _, _, rfl, Int.le_refl _, fun h => by omega, by omega, h0⟩
  rw [if_neg h1]
  obtain ⟨x, i1, g1, e1, x0, x1, p1⟩ := l1Byte_some b i h hb h0
  by_cases h2 : n ≤ 256
  · rw [if_pos h2, e1]
    simp only [Option.bind_some]
    rw [if_neg (by omega), tm _ _ x0]
    have a1 := Int.emod_nonneg x (show n ≠ 0 by omega)
    have a2 := Int.emod_lt_of_pos x (show 0 < n by omega)
    exact ⟨_, _, _, rfl, a1, fun _ => a2, by omega, p1⟩
  · rw [if_neg h2, e1]
    simp only [Option.bind_some]
    obtain ⟨y, i2, g2, e2, y0, y1, p2⟩ := l1Byte_some b i1 g1 hb p1
    rw [e2]
    simp only [Option.bind_some]
    obtain ⟨z, i3, g3, e3, z0, z1, p3⟩ := l1Byte_some b i2 g2 hb p2
    rw [e3]
    simp only [Option.bind_some]
    obtain ⟨u, i4, g4, e4, u0, u1, p4⟩ := l1Byte_some b i3 g3 hb p3
    rw [e4]
    simp only [Option.bind_some]
    rw [if_neg (by omega), w64 (x := x * 16777216) (by omega) (by omega), w64 (x := y * 65536) (by omega) (by omega), w64 (x := z * 256) (by omega) (by omega), w64 (x := x * 16777216 + y * 65536) (by omega) (by omega), w64 (x := x * 16777216 + y * 65536 + z * 256) (by omega) (by omega), w64 (by omega) (by omega), tm _ _ (by omega)]
    have a1 := Int.emod_nonneg (x * 16777216 + y * 65536 + z * 256 + u) (show n ≠ 0 by omega)
    have a2 := Int.emod_lt_of_pos (x * 16777216 + y * 65536 + z * 256 + u) (show 0 < n by omega)
    have a4 : (x * 16777216 + y * 65536 + z * 256 + u) % n ≤ x * 16777216 + y * 65536 + z * 256 + u := by
      have h5 := Int.mul_ediv_add_emod (x * 16777216 + y * 65536 + z * 256 + u) n
      have h6 : 0 ≤ (x * 16777216 + y * 65536 + z * 256 + u) / n := Int.ediv_nonneg (by omega) (by omega)
      have h7 : 0 ≤ n * ((x * 16777216 + y * 65536 + z * 256 + u) / n) := Int.mul_nonneg (by omega) h6
      omega
    exact ⟨_, _, _, rfl, a1, fun _ => a2, by omega, p4⟩
theorem l1Once_some (b : List Int) (i h n : Int) (hb : b.length ≤ 1000000000000000000) (h0 : 0 ≤ i) : ∃ t j g, spec_l1Once.f b i h n = some (t, j, g) ∧ 0 ≤ j := by
  unfold spec_l1Once.f
  obtain ⟨x, j, g, e, _, _, _, p⟩ := l1Below_some b i h n hb h0
  rw [e]
  exact ⟨_, _, _, rfl, p⟩
theorem l1Pick_some (b : List Int) (i h : Int) (l : List Int) (hb : b.length ≤ 1000000000000000000) (h0 : 0 ≤ i) (hl : 0 < l.length) (hl2 : l.length ≤ 256) : ∃ q j g, spec_l1PickInt.f b i h l = some (l.getD q 0, j, g) ∧ q < l.length ∧ 0 ≤ j := by
  unfold spec_l1PickInt.f
  obtain ⟨x, j, g, e, x0, x1, _, p⟩ := l1Below_some b i h (l.length : Int) hb h0
  have x2 := x1 (by omega)
  rw [e]
  simp only [Option.bind_some]
  rw [if_pos x0, if_pos x2]
  refine ⟨x.toNat, j, g, ?_, by omega, p⟩
  rfl
theorem ev_l1New (b : List Int) (hb : b.length ≤ 1000000000000000000) : ∃ h, Ev (fun k => spec_l1New.f k b) (b, 0, h) := by
  unfold spec_l1New.f
  generalize wrap64 (38282 + (b.length : Int)) = h0
  have key : ∀ (d : Nat) (i : Nat) (h : Int), i + d = 4001 → ∃ g, Ev (fun k => spec_l1New.l0 k b h (i : Int)) (b, 0, g) := by
    intro d
    induction d with
    | zero =>
      intro i h hd
      refine ⟨h, Ev.step (f := fun _ => some (b, 0, h)) (fun k => ?_) (Ev.now _)⟩
      simp only [spec_l1New.l0]
      by_cases h1 : (i : Int) < (b.length : Int)
      · rw [if_pos h1, if_neg (by omega)]
      · rw [if_neg h1]
    | succ d ih =>
      intro i h hd
      by_cases h1 : (i : Int) < (b.length : Int)
      · by_cases h2 : (i : Int) < 4000
        · obtain ⟨g, hg⟩ := ih (i + 1) (Go.bits .and .i64 (wrap64 ((wrap64 ((wrap64 (h * 131)) + (wrap64 (rd b (i : Int))))) + 7)) 1073741823) (by omega)
          refine ⟨g, Ev.step (fun k => ?_) hg⟩
          simp only [spec_l1New.l0]
          rw [if_pos h1, if_pos h2, if_pos (by omega), w64 (x := (i : Int) + 1) (by omega) (by omega), show (i : Int) + 1 = ((i + 1 : Nat) : Int) by omega]
        · refine ⟨h, Ev.step (f := fun _ => some (b, 0, h)) (fun k => ?_) (Ev.now _)⟩
          simp only [spec_l1New.l0]
          rw [if_pos h1, if_neg h2]
      · refine ⟨h, Ev.step (f := fun _ => some (b, 0, h)) (fun k => ?_) (Ev.now _)⟩
        simp only [spec_l1New.l0]
        rw [if_neg h1]
  exact key 4001 0 h0 (by omega)

/-! #### l2of -/
theorem ev_spec_l2of (n : Int) (h1 : n ≤ 9223372036854775807) : Ev (fun k => spec_l2of.f k n) (dig n) := by
  unfold spec_l2of.f dig
  have key : ∀ f : Nat, ∀ x : Int, ∀ acc : List Int, x < pw f → x ≤ 9223372036854775807 → acc.length + f < 1000 → Ev (fun k => spec_l2of.l0 k x acc) (acc ++ digF f x) := by
    intro f
    induction f with
    | zero =>
      intro x acc hx hb ha
      simp [pw] at hx
      refine Ev.step (f := fun _ => some (acc ++ digF 0 x)) (fun k => ?_) (Ev.now _)
      simp only [spec_l2of.l0]
      rw [if_neg (by omega)]; simp [digF]
    | succ f ih =>
      intro x acc hx hb ha
      by_cases h : x ≤ 0
      · refine Ev.step (f := fun _ => some (acc ++ digF (f + 1) x)) (fun k => ?_) (Ev.now _)
        simp only [spec_l2of.l0]
        rw [if_neg (by omega)]; simp [digF, h]
      · have e : acc ++ digF (f + 1) x = (acc ++ [x % 65536]) ++ digF f (x / 65536) := by
          simp [digF, h]
        rw [e]
        simp only [pw] at hx
        refine Ev.step (f := fun k => spec_l2of.l0 k (x / 65536) (acc ++ [x % 65536])) (fun k => ?_) (ih _ _ (by omega) (by omega) (by simp; omega))
        simp only [spec_l2of.l0]
        rw [if_pos (by omega), if_pos (by omega), td _ _ (by omega), tm _ _ (by omega), w64 (by omega) (by omega)]
  have := key 4 n [] (by rw [pw4]; omega) h1 (by simp)
  simpa using this

/-! #### l2norm -/
theorem ev_spec_l2norm (l : List Int) (hb : l.length ≤ 1000000000) : Ev (fun k => spec_l2norm.f k l) (strip l) := by
  unfold spec_l2norm.f
  have key : ∀ n : Nat, n ≤ l.length → strip (l.take n) = strip l → Ev (fun k => spec_l2norm.l0 k l (n : Int)) (strip l) := by
    intro n
    induction n with
    | zero =>
      intro _ hs
      refine Ev.step (f := fun _ => some (strip l)) (fun k => ?_) (Ev.now _)
      simp only [spec_l2norm.l0, Option.bind_some]
      rw [if_neg (by omega), if_pos (by omega), if_pos (by omega), if_pos (by simp)]
      simpa [strip] using hs
    | succ n ih =>
      intro hn hs
      by_cases h0 : l[n] = 0
      · refine Ev.step (f := fun k => spec_l2norm.l0 k l (n : Int)) (fun k => ?_) (ih (by omega) ?_)
        · simp only [spec_l2norm.l0]
          rw [show ((n + 1 : Nat) : Int) - 1 = (n : Int) by omega, w64 (x := (n : Int)) (by omega) (by omega), if_pos (by omega), if_pos (by omega), if_pos (by omega), rd_get _ _ (by omega), if_pos h0]
        · rw [← hs, strip_take_zero (by omega) h0]
      · refine Ev.step (f := fun _ => some (strip l)) (fun k => ?_) (Ev.now _)
        simp only [spec_l2norm.l0, Option.bind_some]
        rw [show ((n + 1 : Nat) : Int) - 1 = (n : Int) by omega, w64 (x := (n : Int)) (by omega) (by omega), if_pos (by omega), if_pos (by omega), if_pos (by omega), rd_get _ _ (by omega), if_neg h0, if_pos (by omega), if_pos (by omega), if_pos (by simp; omega)]
        rw [← hs, strip_take_ne (by omega) h0]
        simp
  have := key l.length (Nat.le_refl _) (by simp)
  exact this

/-! #### l2draws -/
theorem l2drawLen_some (b : List Int) (i h : Int) (hb : b.length ≤ 1000000000000000000) (h0 : 0 ≤ i) : ∃ n j g, spec_l2drawLen.f b i h = some (n, j, g) ∧ 0 ≤ n ∧ n ≤ 100 ∧ 0 ≤ j := by
  unfold spec_l2drawLen.f
  obtain ⟨t, j, g, e, p⟩ := l1Once_some b i h 12 hb h0
  rw [e]
  simp only [Option.bind_some]
  cases t with
  | true =>
    obtain ⟨q, j2, g2, e2, q1, p2⟩ := l1Pick_some b j g [100, 99, 50, 20] hb p (by decide) (by decide)
    rw [if_pos rfl, e2]
    refine ⟨_, _, _, rfl, ?_, ?_, p2⟩ <;> (simp only [List.length_cons, List.length_nil] at q1; match q, q1 with | 0, _ => simp | 1, _ => simp | 2, _ => simp | 3, _ => simp)
  | false =>
    obtain ⟨x, j2, g2, e2, x0, x1, _, p2⟩ := l1Below_some b j g 6 hb p
    have := x1 (by omega)
    simp only [Bool.false_eq_true, if_false]
    rw [e2]
    exact ⟨_, _, _, rfl, x0, by omega, p2⟩
theorem pick_nonneg (q : Nat) (h : q < ([0, 1, 2, 9, 10, 65535, 65536, 1099511627776, 4611686018427387903, 4611686018427387904] : List Int).length) :
    0 ≤ ([0, 1, 2, 9, 10, 65535, 65536, 1099511627776, 4611686018427387903, 4611686018427387904] : List Int).getD q 0 ∧ ([0, 1, 2, 9, 10, 65535, 65536, 1099511627776, 4611686018427387903, 4611686018427387904] : List Int).getD q 0 ≤ 9223372036854775807 := by
  simp only [List.length_cons, List.length_nil] at h
  match q, h with
  | 0, _ => decide
  | 1, _ => decide
  | 2, _ => decide
  | 3, _ => decide
  | 4, _ => decide
  | 5, _ => decide
  | 6, _ => decide
  | 7, _ => decide
  | 8, _ => decide
  | 9, _ => decide
theorem ev_l2draw (b : List Int) (i h : Int) (hb : b.length ≤ 1000000000000000000) (h0 : 0 ≤ i) : ∃ l j g, Ev (fun k => spec_l2draw.f k b i h) (l, j, g) ∧ Norm l ∧ l.length ≤ 100 ∧ 0 ≤ j := by
  unfold spec_l2draw.f
  obtain ⟨n, j, g, e, n0, n1, p⟩ := l2drawLen_some b i h hb h0
  have key : ∀ (d : Nat) (x : List Int) (i h : Int), Limbs x → x.length + d ≤ 100 → n - x.length ≤ d → 0 ≤ i → ∃ l j g, Ev (fun k => spec_l2draw.l0 k x n (x.length : Int) b i h) (l, j, g) ∧ Norm l ∧ l.length ≤ 100 ∧ 0 ≤ j := by
    intro d
    induction d with
    | zero =>
      intro x i h hx hl hd h0
      obtain ⟨t, j, g, e, p⟩ := l1Once_some b i h 4 hb h0
      cases t with
      | true =>
        obtain ⟨q, j2, g2, e2, q1, p2⟩ := l1Pick_some b j g _ hb p (show 0 < ([0, 1, 2, 9, 10, 65535, 65536, 1099511627776, 4611686018427387903, 4611686018427387904] : List Int).length by decide) (by decide)
        obtain ⟨v, hv⟩ : ∃ v, v = ([0, 1, 2, 9, 10, 65535, 65536, 1099511627776, 4611686018427387903, 4611686018427387904] : List Int).getD q 0 := ⟨_, rfl⟩
        have hb2 := pick_nonneg q q1
        rw [← hv] at hb2 e2
        refine ⟨dig v, j2, g2, ?_, dig_norm hb2.1 hb2.2, by have := dig_len v; omega, p2⟩
        refine Ev.step (fun k => by simp only [spec_l2draw.l0]; rfl) ?_
        refine ev_if_neg (by omega) ?_
        refine ev_bind0 e ?_
        try dsimp only
        refine ev_if_pos rfl ?_
        refine ev_bind0 e2 ?_
        try dsimp only
        refine Ev.bind (ev_spec_l2of v hb2.2) ?_
        try dsimp only
        exact Ev.now _
      | false =>
        refine ⟨strip x, j, g, ?_, strip_norm hx, by have := strip_len x; omega, p⟩
        refine Ev.step (fun k => by simp only [spec_l2draw.l0]; rfl) ?_
        refine ev_if_neg (by omega) ?_
        refine ev_bind0 e ?_
        try dsimp only
        refine ev_if_neg (by simp) ?_
        refine Ev.bind (ev_spec_l2norm x (by omega)) ?_
        try dsimp only
        exact Ev.now _
    | succ d ih =>
      intro x i h hx hl hd h0
      by_cases hc : (x.length : Int) < n
      · obtain ⟨y, j, g, e, y0, y1, _, p⟩ := l1Below_some b i h 4 hb h0
        have nxt : ∀ (v j g : Int), 0 ≤ v → v ≤ 65535 → 0 ≤ j → ∃ l j' g', Ev (fun k => spec_l2draw.l0 k (x ++ [v]) n (wrap64 ((x.length : Int) + 1)) b j g) (l, j', g') ∧ Norm l ∧ l.length ≤ 100 ∧ 0 ≤ j' := by
          intro v j g v0 v1 p
          have := ih (x ++ [v]) j g (hx.append (Limbs.cons v0 v1 Limbs.nil)) (by simp; omega) (by simp; omega) p
          rw [w64 (by omega) (by omega)]
          simpa using this
        by_cases c0 : y = 0
        · obtain ⟨l, j', g', h1, h2⟩ := nxt 65535 j g (by omega) (by omega) p
          refine ⟨l, j', g', Ev.step (fun k => by simp only [spec_l2draw.l0]; rfl) ?_, h2⟩
          refine ev_if_pos hc ?_
          refine ev_bind0 e ?_
          try dsimp only
          refine ev_if_pos c0 ?_
          refine ev_if_pos (by omega) ?_
          exact h1
        by_cases c1 : y = 1
        · obtain ⟨l, j', g', h1, h2⟩ := nxt 0 j g (by omega) (by omega) p
          refine ⟨l, j', g', Ev.step (fun k => by simp only [spec_l2draw.l0]; rfl) ?_, h2⟩
          refine ev_if_pos hc ?_
          refine ev_bind0 e ?_
          try dsimp only
          refine ev_if_neg c0 ?_
          refine ev_if_pos c1 ?_
          refine ev_if_pos (by omega) ?_
          exact h1
        obtain ⟨z, j2, g2, e2, z0, z1, _, p2⟩ := l1Below_some b j g 65536 hb p
        have := z1 (by omega)
        obtain ⟨l, j', g', h1, h2⟩ := nxt z j2 g2 z0 (by omega) p2
        refine ⟨l, j', g', Ev.step (fun k => by simp only [spec_l2draw.l0]; rfl) ?_, h2⟩
        refine ev_if_pos hc ?_
        refine ev_bind0 e ?_
        try dsimp only
        refine ev_if_neg c0 ?_
        refine ev_if_neg c1 ?_
        refine ev_bind0 e2 ?_
        try dsimp only
        refine ev_if_pos (by omega) ?_
        exact h1
      · obtain ⟨t, j, g, e, p⟩ := l1Once_some b i h 4 hb h0
        cases t with
        | true =>
          obtain ⟨q, j2, g2, e2, q1, p2⟩ := l1Pick_some b j g _ hb p (show 0 < ([0, 1, 2, 9, 10, 65535, 65536, 1099511627776, 4611686018427387903, 4611686018427387904] : List Int).length by decide) (by decide)
          obtain ⟨v, hv⟩ : ∃ v, v = ([0, 1, 2, 9, 10, 65535, 65536, 1099511627776, 4611686018427387903, 4611686018427387904] : List Int).getD q 0 := ⟨_, rfl⟩
          have hb2 := pick_nonneg q q1
          rw [← hv] at hb2 e2
          refine ⟨dig v, j2, g2, ?_, dig_norm hb2.1 hb2.2, by have := dig_len v; omega, p2⟩
          refine Ev.step (fun k => by simp only [spec_l2draw.l0]; rfl) ?_
          refine ev_if_neg hc ?_
          refine ev_bind0 e ?_
          try dsimp only
          refine ev_if_pos rfl ?_
          refine ev_bind0 e2 ?_
          try dsimp only
          refine Ev.bind (ev_spec_l2of v hb2.2) ?_
          try dsimp only
          exact Ev.now _
        | false =>
          refine ⟨strip x, j, g, ?_, strip_norm hx, by have := strip_len x; omega, p⟩
          refine Ev.step (fun k => by simp only [spec_l2draw.l0]; rfl) ?_
          refine ev_if_neg hc ?_
          refine ev_bind0 e ?_
          try dsimp only
          refine ev_if_neg (by simp) ?_
          refine Ev.bind (ev_spec_l2norm x (by omega)) ?_
          try dsimp only
          exact Ev.now _
  obtain ⟨l, j', g', h1, h2⟩ := key 100 [] j g Limbs.nil (by simp) (by simp; omega) p
  exact ⟨l, j', g', ev_bind0 e h1, h2⟩
theorem ev_l2bent (b : List Int) (i h : Int) (hb : b.length ≤ 1000000000000000000) (h0 : 0 ≤ i) : ∃ l j g, Ev (fun k => spec_l2bent.f k b i h) (l, j, g) ∧ l.length ≤ 101 ∧ 0 ≤ j := by
  unfold spec_l2bent.f
  obtain ⟨l, j, g, e, l1, l2, p⟩ := ev_l2draw b i h hb h0
  obtain ⟨t, j2, g2, e2, p2⟩ := l1Once_some b j g 9 hb p
  cases t with
  | false => exact ⟨l, j2, g2, Ev.bind e (ev_bind0 e2 (ev_if_neg (by simp) (Ev.now _))), by omega, p2⟩
  | true =>
    obtain ⟨y, j3, g3, e3, y0, y1, _, p3⟩ := l1Below_some b j2 g2 4 hb p2
    by_cases c0 : y = 0
    · exact ⟨l ++ [0], j3, g3, Ev.bind e (ev_bind0 e2 (ev_if_pos rfl (ev_bind0 e3 (ev_if_pos c0 (ev_if_pos (by first | omega | (dsimp only; omega)) (Ev.now _)))))), by simp; omega, p3⟩
    by_cases c1 : y = 1
    · exact ⟨l ++ [-1], j3, g3, Ev.bind e (ev_bind0 e2 (ev_if_pos rfl (ev_bind0 e3 (ev_if_neg c0 (ev_if_pos c1 (ev_if_pos (by first | omega | (dsimp only; omega)) (Ev.now _))))))), by simp; omega, p3⟩
    by_cases c2 : y = 2
    · exact ⟨l ++ [65536], j3, g3, Ev.bind e (ev_bind0 e2 (ev_if_pos rfl (ev_bind0 e3 (ev_if_neg c0 (ev_if_neg c1 (ev_if_pos c2 (ev_if_pos (by first | omega | (dsimp only; omega)) (Ev.now _)))))))), by simp; omega, p3⟩
    have key : ∀ (d : Nat) (x : List Int), x.length + d = 101 → ∃ y, Ev (fun k => spec_l2bent.l0 k b j3 g3 x) (y, j3, g3) ∧ y.length ≤ 101 := by
      intro d
      induction d with
      | zero =>
        intro x hx
        refine ⟨x, Ev.step (fun k => by simp only [spec_l2bent.l0]; rfl) ?_, by omega⟩
        refine ev_if_neg (by omega) ?_
        exact Ev.now _
      | succ d ih =>
        intro x hx
        obtain ⟨y, h1, h2⟩ := ih (x ++ [1]) (by simp; omega)
        refine ⟨y, Ev.step (fun k => by simp only [spec_l2bent.l0]; rfl) ?_, h2⟩
        refine ev_if_pos (by omega) ?_
        refine ev_if_pos (by omega) ?_
        exact h1
    obtain ⟨y', h1, h2⟩ := key (101 - l.length) l (by omega)
    exact ⟨y', j3, g3, Ev.bind e (ev_bind0 e2 (ev_if_pos rfl (ev_bind0 e3 (ev_if_neg c0 (ev_if_neg c1 (ev_if_neg c2 h1)))))), h2, p3⟩

/-! #### l3make -/
theorem ev_spec_l3make (s : Bool) (l : List Int) (h : Norm l) (hb : l.length ≤ 1000000) : Ev (fun n => spec_l3make.f n s l) (s && !l.isEmpty, l) := by
  unfold spec_l3make.f
  have e := ev_spec_l2norm l (by omega)
  rw [strip_of_norm h] at e
  cases s
  · simp only [Bool.false_eq_true, if_false]
    exact Ev.bind e (Ev.now _)
  · simp only [if_true]
    refine Ev.bind e ?_
    cases l
    · exact Ev.now _
    · simp; exact Ev.now _

/-! #### l2add -/
theorem add_step (x y c P A B O T : Int) (h : O + P * (c + (x + 65536 * A) + (y + 65536 * B)) = T) : O + P * ((c + x + y) % 65536) + 65536 * P * ((c + x + y) / 65536 + A + B) = T := by
  have e := Int.mul_ediv_add_emod (c + x + y) 65536
  have e2 : P * (c + (x + 65536 * A) + (y + 65536 * B)) = P * ((c + x + y) % 65536) + 65536 * P * ((c + x + y) / 65536 + A + B) := by
    have e3 : c + (x + 65536 * A) + (y + 65536 * B) = (c + x + y) % 65536 + 65536 * ((c + x + y) / 65536 + A + B) := by omega
    rw [e3, Int.mul_add, ← Int.mul_assoc, Int.mul_comm P 65536]
  omega
theorem val_drop_any (l : List Int) (i : Nat) : val (l.drop i) = rd l (i : Int) + 65536 * val (l.drop (i + 1)) := by
  by_cases h : i < l.length
  · exact val_drop_at h
  · rw [List.drop_eq_nil_of_le (by omega), List.drop_eq_nil_of_le (by omega), rd_out _ _ (by omega)]; simp [val]
theorem ev_spec_l2add (a b : List Int) (ha : Limbs a) (hb : Limbs b) (hla : a.length ≤ 1000000) (hlb : b.length ≤ 1000000) :
    ∃ q : List Int, Ev (fun n => spec_l2add.f n a b) q ∧ Norm q ∧ val q = val a + val b ∧ q.length ≤ max a.length b.length + 1 := by
  unfold spec_l2add.f
  have key : ∀ d i : Nat, i + d = max a.length b.length + 1 → ∀ (out : List Int) (c : Int), out.length = i → Limbs out → 0 ≤ c → c ≤ 1 → (d = 0 → c = 0) →
      val out + pw i * (c + val (a.drop i) + val (b.drop i)) = val a + val b →
      ∃ q : List Int, Ev (fun n => spec_l2add.l0 n out c (i : Int) a b) q ∧ Norm q ∧ val q = val a + val b ∧ q.length ≤ max a.length b.length + 1 := by
    intro d
    induction d with
    | zero =>
      intro i hi out c ho hl h0 h1 hc hv
      have hc0 := hc rfl
      subst hc0
      rw [List.drop_eq_nil_of_le (by omega), List.drop_eq_nil_of_le (by omega)] at hv
      simp [val] at hv
      refine ⟨strip out, ?_, strip_norm hl, by rw [val_strip]; exact hv, by have := strip_len out; omega⟩
      refine Ev.step (fun n => by simp only [spec_l2add.l0]; rw [if_neg (by omega), if_neg (by omega)]) ?_
      refine Ev.step (fun n => by simp only [spec_l2add.j1]; rfl) ?_
      simp only [Int.lt_irrefl, gt_iff_lt, decide_false, Bool.false_eq_true, if_false]
      exact Ev.bind (ev_spec_l2norm out (by omega)) (Ev.now _)
    | succ d ih =>
      intro i hi out c ho hl h0 h1 hc hv
      have hx := rd_limb ha (i : Int)
      have hy := rd_limb hb (i : Int)
      have hv2 := hv
      rw [val_drop_any a i, val_drop_any b i] at hv2
      have hs := add_step _ _ _ _ _ _ _ _ hv2
      have hm0 : 0 ≤ (c + rd a (i : Int) + rd b (i : Int)) % 65536 ∧ (c + rd a (i : Int) + rd b (i : Int)) % 65536 ≤ 65535 := by omega
      have hd0 : 0 ≤ (c + rd a (i : Int) + rd b (i : Int)) / 65536 ∧ (c + rd a (i : Int) + rd b (i : Int)) / 65536 ≤ 1 := by omega
      have hnext : val (out ++ [(c + rd a (i : Int) + rd b (i : Int)) % 65536]) + pw (i + 1) * ((c + rd a (i : Int) + rd b (i : Int)) / 65536 + val (a.drop (i + 1)) + val (b.drop (i + 1))) = val a + val b := by
        rw [val_snoc, ho]; simp only [pw]; exact hs
      have hcz : d = 0 → (c + rd a (i : Int) + rd b (i : Int)) / 65536 = 0 := by
        intro hd
        have p1 : rd a (i : Int) = 0 := rd_out _ _ (by omega)
        have p2 : rd b (i : Int) = 0 := rd_out _ _ (by omega)
        omega
      have next := ih (i + 1) (by omega) (out ++ [(c + rd a (i : Int) + rd b (i : Int)) % 65536]) ((c + rd a (i : Int) + rd b (i : Int)) / 65536) (by simp; omega) (hl.append (Limbs.cons hm0.1 hm0.2 Limbs.nil)) hd0.1 hd0.2 hcz hnext
      obtain ⟨q, hq, hrest⟩ := next
      have c1 : ((i + 1 : Nat) : Int) = (i : Int) + 1 := by omega
      rw [c1] at hq
      by_cases hla' : (i : Int) < (a.length : Int)
      · refine ⟨q, ?_, hrest⟩
        refine Ev.step (fun n => by simp only [spec_l2add.l0]; rw [if_pos hla']) ?_
        refine Ev.step (fun n => by simp only [spec_l2add.j1]; rfl) ?_
        simp only [if_true, if_pos hla']
        refine ev_if_pos (by omega) ?_
        by_cases hlb' : (i : Int) < (b.length : Int)
        · simp only [if_pos hlb']
          refine ev_if_pos (by omega) ?_
          rw [w64 (x := c + rd a (i : Int)) (by omega) (by omega), w64 (x := c + rd a (i : Int) + rd b (i : Int)) (by omega) (by omega), tm _ _ (by omega), td _ _ (by omega), w64 (by omega) (by omega), w64 (by omega) (by omega)]
          exact hq
        · simp only [if_neg hlb']
          refine ev_if_pos (by omega) ?_
          have z : rd b (i : Int) = 0 := rd_out _ _ (by omega)
          rw [z] at hq
          rw [w64 (x := c + rd a (i : Int)) (by omega) (by omega), tm _ _ (by omega), td _ _ (by omega), w64 (by omega) (by omega), w64 (by omega) (by omega)]
          simpa using hq
      · have za : rd a (i : Int) = 0 := rd_out _ _ (by omega)
        by_cases hlb' : (i : Int) < (b.length : Int)
        · refine ⟨q, ?_, hrest⟩
          refine Ev.step (fun n => by simp only [spec_l2add.l0]; rw [if_neg hla', if_pos hlb']) ?_
          refine Ev.step (fun n => by simp only [spec_l2add.j1]; rfl) ?_
          simp only [if_true, if_neg hla', if_pos hlb']
          refine ev_if_pos (by omega) (ev_if_pos (by omega) ?_)
          rw [za] at hq
          rw [w64 (x := c + rd b (i : Int)) (by omega) (by omega), tm _ _ (by omega), td _ _ (by omega), w64 (by omega) (by omega), w64 (by omega) (by omega)]
          simpa using hq
        · have zb : rd b (i : Int) = 0 := rd_out _ _ (by omega)
          by_cases hc1 : c > 0
          · refine ⟨q, ?_, hrest⟩
            refine Ev.step (fun n => by simp only [spec_l2add.l0]; rw [if_neg hla', if_neg hlb']) ?_
            refine Ev.step (fun n => by simp only [spec_l2add.j1]; rfl) ?_
            simp only [hc1, decide_true, if_true, if_neg hla', if_neg hlb']
            refine ev_if_pos (by omega) ?_
            rw [za, zb] at hq
            rw [tm _ _ (by omega), td _ _ (by omega), w64 (by omega) (by omega), w64 (by omega) (by omega)]
            simpa using hq
          · have hc0 : c = 0 := by omega
            subst hc0
            rw [List.drop_eq_nil_of_le (by omega), List.drop_eq_nil_of_le (by omega)] at hv
            simp [val] at hv
            refine ⟨strip out, ?_, strip_norm hl, by rw [val_strip]; exact hv, by have := strip_len out; omega⟩
            refine Ev.step (fun n => by simp only [spec_l2add.l0]; rw [if_neg hla', if_neg hlb']) ?_
            refine Ev.step (fun n => by simp only [spec_l2add.j1]; rfl) ?_
            simp only [Int.lt_irrefl, gt_iff_lt, decide_false, Bool.false_eq_true, if_false]
            exact Ev.bind (ev_spec_l2norm out (by omega)) (Ev.now _)
  have := key (max a.length b.length + 1) 0 (by omega) [] 0 rfl Limbs.nil (by omega) (by omega) (by omega) (by simp [val, pw])
  simpa using this

/-! #### l3of -/
/-- The one form of a magnitude. -/
theorem ev_spec_l3of (n : Int) (h0 : -9223372036854775808 ≤ n) (h1 : n ≤ 9223372036854775807) :
    ∃ l : List Int, Ev (fun k => spec_l3of.f k n) (decide (n < 0), l) ∧ Norm l ∧ val l = (if n < 0 then -n else n) ∧ l.length ≤ 5 := by
  unfold spec_l3of.f
  by_cases h : n < 0
  · have d1 := dig_norm (n := -(n + 1)) (by omega) (by omega)
    have d2 := dig_norm (n := 1) (by omega) (by omega)
    have l1 := dig_len (-(n + 1))
    have l2 := dig_len 1
    obtain ⟨q, hq, q1, q2, q3⟩ := ev_spec_l2add _ _ d1.1 d2.1 (by omega) (by omega)
    rw [dig_val (by omega) (by omega), dig_val (by omega) (by omega)] at q2
    have hne : q ≠ [] := by intro e; subst e; simp [val] at q2; omega
    refine ⟨q, ?_, q1, by rw [if_pos h, q2]; omega, by omega⟩
    refine ev_if_pos h ?_
    rw [w64 (x := n + 1) (by omega) (by omega), w64 (by omega) (by omega)]
    refine Ev.bind (ev_spec_l2of _ (by omega)) (Ev.bind (ev_spec_l2of 1 (by omega)) (Ev.bind hq (Ev.bind (ev_spec_l3make true q q1 (by omega)) ?_)))
    have e : (true && !q.isEmpty) = decide (n < 0) := by cases q <;> simp_all
    rw [e]; exact Ev.now _
  · have d1 := dig_norm (n := n) (by omega) (by omega)
    have l1 := dig_len n
    refine ⟨dig n, ?_, d1, by rw [if_neg h, dig_val (by omega) (by omega)], by omega⟩
    refine ev_if_neg h ?_
    refine Ev.bind (ev_spec_l2of _ (by omega)) (Ev.bind (ev_spec_l3make false _ d1 (by omega)) ?_)
    have e : (false && !(dig n).isEmpty) = decide (n < 0) := by simp [h]
    rw [e]; exact Ev.now _

/-! #### l2bitS -/
theorem spec_l2bit_eq (l : List Int) (h : Limbs l) (i : Nat) (hi : i < 16 * l.length) (hb : l.length ≤ 1000000) : spec_l2bit.f l (i : Int) = some (rd l ((i / 16 : Nat) : Int) / 2 ^ (i % 16) % 2) := by
  have hx := rd_limb h ((i / 16 : Nat) : Int)
  have q : (i : Int) / 16 = ((i / 16 : Nat) : Int) := by omega
  have m : (i : Int) % 16 = ((i % 16 : Nat) : Int) := by omega
  have hp := two_pow_bd (show i % 16 < 16 by omega)
  unfold spec_l2bit.f
  rw [td _ _ (by omega), tm _ _ (by omega), q, m, w64 (by omega) (by omega), if_neg (by omega), if_neg (by omega), if_pos (by omega), if_pos (by omega), if_pos (by omega)]
  rw [shr_in (by omega) (by omega), Int.toNat_natCast]
  have h0 : 0 ≤ rd l ((i / 16 : Nat) : Int) / 2 ^ (i % 16) := Int.ediv_nonneg hx.1 (by omega)
  have h1 : rd l ((i / 16 : Nat) : Int) / 2 ^ (i % 16) ≤ 65535 := Int.le_trans (Int.ediv_le_self _ hx.1) hx.2
  rw [and_1 _ h0 (by omega)]

/-! #### strail -/
theorem bit_val {l : List Int} (h : Limbs l) (i : Nat) (hi : i < 16 * l.length) : rd l ((i / 16 : Nat) : Int) / 2 ^ (i % 16) % 2 = val l / 2 ^ i % 2 := by
  have e := shrI_two h (i : Int) (by omega)
  rw [Int.toNat_natCast] at e
  rw [← e]
  unfold shrI
  have e1 : ((i : Int) / 16).toNat = i / 16 := by omega
  have e2 : ((i : Int) % 16).toNat = i % 16 := by omega
  rw [e1, e2, val_drop_at (by omega)]
  generalize rd l ((i / 16 : Nat) : Int) = x
  generalize val (l.drop (i / 16 + 1)) = v
  rcases r16 (show i % 16 < 16 by omega) with c | c | c | c | c | c | c | c | c | c | c | c | c | c | c | c <;> rw [c] <;> simp only [Int.reducePow] <;> omega
theorem ev_spec_trail (l : List Int) (h : Norm l) (hn : l ≠ []) (hb : l.length ≤ 100000) : ∃ r : Nat, Ev (fun k => spec_l2trail.f k l) (r : Int) ∧ r ≤ 16 * l.length ∧ val l % 2 ^ r = 0 ∧ val l / 2 ^ r % 2 = 1 := by
  unfold spec_l2trail.f
  have hw : wrap64 (16 * (l.length : Int)) = 16 * (l.length : Int) := w64 (by omega) (by omega)
  have hp := h.pos hn
  have hv := val_lt h.1
  rw [pw_two] at hv
  have key : ∀ d i : Nat, i + d = 16 * l.length → val l % 2 ^ i = 0 → ∃ r : Nat, Ev (fun k => spec_l2trail.l0 k (i : Int) l) (r : Int) ∧ r ≤ 16 * l.length ∧ val l % 2 ^ r = 0 ∧ val l / 2 ^ r % 2 = 1 := by
    intro d
    induction d with
    | zero =>
      intro i hi hz
      rw [show i = 16 * l.length by omega, Int.emod_eq_of_lt (by omega) hv] at hz
      omega
    | succ d ih =>
      intro i hi hz
      have hbit := spec_l2bit_eq l h.1 i (by omega) (by omega)
      rw [bit_val h.1 i (by omega)] at hbit
      have hm : val l / 2 ^ i % 2 = 0 ∨ val l / 2 ^ i % 2 = 1 := by omega
      rcases hm with hm | hm
      · have hz2 : val l % 2 ^ (i + 1) = 0 := by
          have h1 := Int.mul_ediv_add_emod (val l) (2 ^ i)
          have h2 : val l / 2 ^ i = 2 * (val l / 2 ^ i / 2) := by omega
          rw [hz, Int.add_zero, h2, ← Int.mul_assoc, Int.mul_comm _ 2, Int.mul_comm 2, ← Int.pow_succ] at h1
          rw [← h1]
          exact Int.mul_emod_right _ _
        obtain ⟨r, hr, h3⟩ := ih (i + 1) (by omega) hz2
        refine ⟨r, Ev.step (fun k => ?_) hr, h3⟩
        simp only [spec_l2trail.l0]
        rw [if_pos (by omega), hbit]
        simp only [Option.bind_some]
        rw [if_neg (by omega), w64 (by omega) (by omega), show (i : Int) + 1 = ((i + 1 : Nat) : Int) by omega]
      · refine ⟨i, Ev.step (f := fun _ => some (i : Int)) (fun k => ?_) (Ev.now _), by omega, hz, hm⟩
        simp only [spec_l2trail.l0]
        rw [if_pos (by omega), hbit]
        simp only [Option.bind_some]
        rw [if_pos hm]
  exact key (16 * l.length) 0 (by omega) (by simp)

/-! #### small2 -/
theorem ev_spec_l2small (a : List Int) (D : Int) (ha : Limbs a) (hb : a.length ≤ 1000000) (hD : 1 ≤ D) (hD2 : D ≤ 65536) :
    ∃ q : List Int, Ev (fun k => spec_l2small.f k a D) (q, val a % D) ∧ Norm q ∧ val q = val a / D ∧ q.length ≤ a.length := by
  unfold spec_l2small.f
  have key : ∀ d : Nat, d ≤ a.length → ∀ (x : List Int) (r : Int), x.length = a.length → Limbs x → 0 ≤ r → r < D → val (a.drop d) = val (x.drop d) * D + r →
      ∃ q : List Int, Ev (fun k => spec_l2small.l0 k D x r ((d : Int) - 1) a) (q, val a % D) ∧ Norm q ∧ val q = val a / D ∧ q.length ≤ a.length := by
    intro d
    induction d with
    | zero =>
      intro _ x r hx hl h0 h1 hv
      simp only [List.drop_zero] at hv
      obtain ⟨e1, e2⟩ := div_unique hD hv h0 h1
      refine ⟨strip x, ?_, strip_norm hl, by rw [val_strip]; exact e1, by have := strip_len x; omega⟩
      have hn := ev_spec_l2norm x (by omega)
      refine Ev.step (f := fun k => (spec_l2norm.f k x).bind fun t => some (t, r)) (fun k => ?_) ?_
      · simp only [spec_l2small.l0]
        rw [if_neg (by omega)]
      · rw [← e2]; exact Ev.bind hn (Ev.now _)
    | succ d ih =>
      intro hd x r hx hl h0 h1 hv
      have hy := rd_limb ha (d : Int)
      have hdg := small_digit D r (rd a (d : Int)) hD h0 h1 hy.1 hy.2
      have hm0 := Int.emod_nonneg (r * 65536 + rd a (d : Int)) (show D ≠ 0 by omega)
      have hm1 := Int.emod_lt_of_pos (r * 65536 + rd a (d : Int)) (show 0 < D by omega)
      obtain ⟨q, hq, hrest⟩ := ih (by omega) (x.set d ((r * 65536 + rd a (d : Int)) / D)) ((r * 65536 + rd a (d : Int)) % D) (by simpa using hx) (hl.set d hdg.1 hdg.2) hm0 hm1 (by
        rw [val_set_drop _ _ _ (by omega), val_drop_at (by omega)]
        exact small_step D r _ _ _ hD hv)
      refine ⟨q, Ev.step (fun k => ?_) hq, hrest⟩
      simp only [spec_l2small.l0]
      rw [show ((d + 1 : Nat) : Int) - 1 = (d : Int) by omega]
      rw [if_pos (by omega), if_pos (by omega), if_pos (by omega), if_neg (by omega), if_pos (by omega), w64 (x := r * 65536) (by omega) (by omega), w64 (x := r * 65536 + rd a (d : Int)) (by omega) (by omega), td _ _ (by omega), tm _ _ (by omega), w64 (by omega) (by omega), w64 (by omega) (by omega), Int.toNat_natCast]
  obtain ⟨q, hq, h2⟩ := key a.length (Nat.le_refl _) (List.replicate a.length 0) 0 (by simp) (Limbs.zeros _) (by omega) (by omega) (by rw [List.drop_length]; simp [val])
  refine ⟨q, ?_, h2⟩
  refine ev_if_pos (by omega) (ev_if_pos (by omega) ?_)
  rw [w64 (by omega) (by omega), Int.toNat_natCast]
  exact hq

/-! #### l2shr -/
theorem ev_spec_l2shr (a : List Int) (k : Int) (ha : Limbs a) (hb : a.length ≤ 1000000) (h0 : 0 ≤ k) (h1 : k ≤ 9223372036854775807) :
    ∃ q : List Int, Ev (fun n => spec_l2shr.f n a k) q ∧ Norm q ∧ val q = shrI a k ∧ q.length ≤ a.length := by
  unfold spec_l2shr.f shrI
  rw [td _ _ h0, tm _ _ h0, w64 (x := k / 16) (by omega) (by omega)]
  by_cases hl : k / 16 ≥ (a.length : Int)
  · refine ⟨[], ev_if_pos hl (Ev.now _), Norm.nil, ?_, by simp⟩
    rw [List.drop_eq_nil_of_le (by omega)]; simp [val]
  · have hp := two_pow_bd (show (k % 16).toNat < 16 by omega)
    obtain ⟨q, hq, h2, h3, h4⟩ := ev_spec_l2small (a.drop (k / 16).toNat) (2 ^ (k % 16).toNat) (ha.drop _) (by simp; omega) hp.1 (by omega)
    refine ⟨q, ?_, h2, h3, by simp at h4; omega⟩
    refine ev_if_neg hl (ev_if_pos (by omega) (ev_if_pos (by omega) (ev_if_pos (by omega) ?_)))
    have e : shl .i64 1 (k % 16) = 2 ^ (k % 16).toNat := by rw [shl_in (by omega) (by omega) (by omega) (by omega)]; omega
    rw [e]
    exact Ev.bind hq (Ev.now _)

/-! #### smake -/
/-- The reference's one form of a number that isn't 0: the same number. -/
theorem ev_spec_l4make_x (s : Bool) (l : List Int) (e : Int) (h : Norm l) (hn : l ≠ []) (hb : l.length ≤ 1000) (h0 : -20000 ≤ e) (h1 : e ≤ 20000) :
    ∃ (q : List Int) (z : Int), Ev (fun k => spec_l4make.f k s l e) (s, q, z) ∧ Norm q ∧ q ≠ [] ∧ q.length ≤ l.length ∧ e ≤ z ∧ z ≤ e + 16 * l.length ∧ val q % 2 = 1 ∧ ∀ t : Bool, xv t (val q) z = xv t (val l) e := by
  obtain ⟨r, r1, r2, r3, r4⟩ := ev_spec_trail l h hn (by omega)
  obtain ⟨q, q1, q2, q3, q4⟩ := ev_spec_l2shr l (r : Int) h.1 (by omega) (by omega) (by omega)
  rw [shrI_two h.1 _ (by omega), Int.toNat_natCast] at q3
  have hne : q ≠ [] := by
    intro c
    rw [c] at q3
    simp only [val] at q3
    omega
  have hm := ev_spec_l3make s q q2 (by omega)
  have ht : (s && !q.isEmpty) = s := by
    cases hq : q with
    | nil => exact absurd hq hne
    | cons c q => simp
  rw [ht] at hm
  refine ⟨q, e + r, ?_, q2, hne, q4, by omega, by omega, by rw [q3]; exact r4, fun t => ?_⟩
  · unfold spec_l4make.f
    refine ev_if_neg (by have := List.length_pos_iff.2 hn; omega) (Ev.bind r1 (Ev.bind q1 (Ev.bind hm ?_)))
    rw [w64 (by omega) (by omega)]
    exact Ev.now _
  · unfold xv
    have h2 := Int.mul_ediv_add_emod (val l) (2 ^ r)
    rw [r3, Int.add_zero] at h2
    rw [q3, show (e + (r : Int) + 20000).toNat = r + (e + 20000).toNat by omega, two_add, ← Int.mul_assoc, Int.mul_comm _ (2 ^ r), h2]

/-! #### NatOk -/
theorem getLast_rd (l : List Int) (h : 0 < l.length) : l.getLast? = some (rd l ((l.length : Int) - 1)) := by
  rw [show (l.length : Int) - 1 = ((l.length - 1 : Nat) : Int) by omega, rd_get _ _ (by omega), List.getLast?_eq_getElem?, List.getElem?_eq_getElem]
theorem ev_spec_NatOk (l : List Int) (hb : l.length ≤ 9000000000000000000) : Ev (fun k => spec_NatOk.f k l) (okB l) := by
  unfold spec_NatOk.f
  by_cases hl : (l.length : Int) > 100
  · refine ev_if_pos hl ?_
    have e : okB l = false := by
      have : ¬ l.length ≤ 100 := by omega
      simp [okB, this]
    rw [e]; exact Ev.now _
  · refine ev_if_neg hl ?_
    have hl' : l.length ≤ 100 := by omega
    have key : ∀ d i : Nat, i + d = l.length → (∀ j, j < i → 0 ≤ l.getD j 0 ∧ l.getD j 0 ≤ 65535) → Ev (fun k => spec_NatOk.l0 k (i : Int) l) (okB l) := by
      intro d
      induction d with
      | zero =>
        intro i hi hj
        refine Ev.step (f := fun _ => some (okB l)) (fun k => ?_) (Ev.now _)
        have hall : l.all (fun x => decide (0 ≤ x) && decide (x ≤ 65535)) = true := by
          rw [List.all_eq_true]
          intro x hx
          obtain ⟨j, hjl, rfl⟩ := List.getElem_of_mem hx
          have := hj j (by omega)
          rw [List.getD_eq_getElem?_getD, List.getElem?_eq_getElem hjl, Option.getD_some] at this
          simp; exact this
        simp only [spec_NatOk.l0]
        rw [if_neg (by omega)]
        by_cases h0 : (l.length : Int) = 0
        · rw [if_pos h0]
          have : l = [] := List.eq_nil_of_length_eq_zero (by omega)
          subst this; rfl
        · rw [if_neg h0, w64 (by omega) (by omega), if_pos (by omega), if_pos (by omega)]
          have hlast := getLast_rd l (by omega)
          have hr := hj (l.length - 1) (by omega)
          rw [← rd_nat, show ((l.length - 1 : Nat) : Int) = (l.length : Int) - 1 by omega] at hr
          simp only [okB, hall, hlast, hl', decide_true, Bool.true_and]
          by_cases hz : rd l ((l.length : Int) - 1) = 0
          · simp [hz]
          · have : rd l ((l.length : Int) - 1) > 0 := by omega
            simp [hz, this]
      | succ d ih =>
        intro i hi hj
        by_cases hx : 0 ≤ rd l (i : Int) ∧ rd l (i : Int) ≤ 65535
        · refine Ev.step (f := fun k => spec_NatOk.l0 k ((i + 1 : Nat) : Int) l) (fun k => ?_) (ih (i + 1) (by omega) ?_)
          · simp only [spec_NatOk.l0]
            rw [if_pos (by omega), if_pos (by omega), if_neg (by omega), if_neg (by omega), w64 (by omega) (by omega)]
            rfl
          · intro j hj'
            by_cases e : j = i
            · subst e; rw [rd_nat] at hx; exact hx
            · exact hj j (by omega)
        · refine Ev.step (f := fun _ => some (okB l)) (fun k => ?_) (Ev.now _)
          have hall : l.all (fun x => decide (0 ≤ x) && decide (x ≤ 65535)) = false := by
            rw [List.all_eq_false]
            rw [rd_get _ _ (by omega)] at hx
            exact ⟨l[i], List.getElem_mem (by omega), by simp; omega⟩
          simp only [spec_NatOk.l0]
          rw [if_pos (by omega), if_pos (by omega)]
          have e : okB l = false := by simp [okB, hall]
          rw [e]
          by_cases h1 : rd l (i : Int) < 0
          · rw [if_pos h1]
          · rw [if_neg h1, if_pos (by omega)]
    exact key l.length 0 (by omega) (fun j hj => by omega)
theorem impl_NatOk_eq (l : List Int) : impl_NatOk.f l = some (okB l) := by
  unfold impl_NatOk.f impl_areAll_int.f
  by_cases hl : (l.length : Int) ≤ 100
  · have hl' : l.length ≤ 100 := by omega
    rw [if_pos hl]
    simp only [Option.bind_some]
    have ep : l.all impl_areAll_int.p = l.all (fun x => decide (0 ≤ x) && decide (x ≤ 65535)) := rfl
    rw [ep]
    by_cases hall : l.all (fun x => decide (0 ≤ x) && decide (x ≤ 65535)) = true
    · rw [if_pos hall]
      by_cases h0 : (l.length : Int) = 0
      · rw [if_pos h0]
        have : l = [] := List.eq_nil_of_length_eq_zero (by omega)
        subst this; rfl
      · rw [if_neg h0, w64 (by omega) (by omega), if_pos (by omega), if_pos (by omega)]
        have hlast := getLast_rd l (by omega)
        simp only [okB, hall, hlast, hl', decide_true, Bool.true_and]
        by_cases hz : rd l ((l.length : Int) - 1) = 0
        · simp [hz]
        · have e1 : (rd l ((l.length : Int) - 1) != 0) = true := by simpa using hz
          have e2 : (some (rd l ((l.length : Int) - 1)) != some 0) = true := by simpa using hz
          rw [e1, e2]
    · rw [if_neg hall]
      simp [okB, hall]
  · rw [if_neg hl]
    have : ¬ l.length ≤ 100 := by omega
    simp [okB, this]

/-! #### wDef -/
/-- Is an integer valid? -/
def wOkB (s : Bool) (l : List Int) : Bool := okB l && !(s && l.isEmpty)
theorem wOkB_nat {s : Bool} {l : List Int} (h : wOkB s l = true) : l.length ≤ 100 ∧ Norm l := by
  unfold wOkB at h
  rw [Bool.and_eq_true] at h
  exact (okB_iff l).1 h.1

/-! #### WholeOk -/
theorem ev_spec_WholeOk (s : Bool) (l : List Int) (hb : l.length ≤ 9000000000000000000) : Ev (fun k => spec_WholeOk.f k s l) (wOkB s l) := by
  unfold spec_WholeOk.f
  refine Ev.bind (ev_spec_NatOk l hb) ?_
  unfold wOkB
  by_cases h : okB l = true
  · refine ev_if_pos h ?_
    cases s
    · simp [h]; exact Ev.now _
    · cases l
      · simp; exact Ev.now _
      · simp [h]; first | exact Ev.now _ | (refine ev_if_pos (by omega) (Ev.now _))
  · have h' : okB l = false := by simpa using h
    refine ev_if_neg h ?_
    rw [h']; exact Ev.now _
theorem impl_WholeOk_eq (s : Bool) (l : List Int) : impl_WholeOk.f s l = some (wOkB s l) := by
  unfold impl_WholeOk.f wOkB
  rw [impl_NatOk_eq]
  simp only [Option.bind_some]
  by_cases h : okB l = true
  · rw [if_pos h]
    cases s
    · simp [h]
    · cases l
      · simp
      · simp [h]; try omega
  · rw [if_neg h]; simp [h]

/-! #### dyDef -/
/-- The lowest bit. -/
def bit0 (l : List Int) : Int := l.headD 0 % 2
/-- Is a dyadic number valid? -/
def dyOkB (s : Bool) (l : List Int) (e : Int) : Bool := wOkB s l && decide (-3000 ≤ e ∧ e ≤ 3000) && (if l = [] then decide (e = 0) else decide (bit0 l = 1))
theorem rd_zero_cons (x : Int) (l : List Int) : rd (x :: l) 0 = x := rfl

/-! #### specDyOk -/
theorem spec_bit0 (l : List Int) (h : Limbs l) : spec_l2bit.f l 0 = some (bit0 l) := by
  unfold spec_l2bit.f bit0
  have z : Int.tdiv 0 16 = 0 := rfl
  have z2 : Int.tmod 0 16 = 0 := rfl
  rw [if_neg (by omega), z, z2, w64 (x := 0) (by omega) (by omega)]
  cases l with
  | nil => rfl
  | cons x l =>
    rw [if_neg (by simp only [List.length_cons]; omega), if_pos (by omega), if_pos (by simp only [List.length_cons]; omega), if_pos (by omega), rd_zero_cons]
    have hx := h.head
    have sh : shr .i64 x 0 = x := by simp [shr]
    rw [sh, and_1 _ hx.1 (by omega)]; rfl
theorem ev_spec_DyOk (s : Bool) (l : List Int) (e : Int) (hb : l.length ≤ 9000000000000000000) : Ev (fun k => spec_DyOk.f k s l e) (dyOkB s l e) := by
  unfold spec_DyOk.f
  refine Ev.bind (ev_spec_WholeOk s l hb) ?_
  unfold dyOkB
  by_cases h : wOkB s l = true
  · have hn := wOkB_nat h
    simp only [if_pos h]
    have tail : ∀ b : Bool, b = decide (¬ (-3000 ≤ e ∧ e ≤ 3000)) → Ev (fun k => spec_DyOk.j0 k b s l e) (wOkB s l && decide (-3000 ≤ e ∧ e ≤ 3000) && (if l = [] then decide (e = 0) else decide (bit0 l = 1))) := by
      intro b hb'
      refine Ev.step (fun k => by simp only [spec_DyOk.j0]; rfl) ?_
      by_cases he : -3000 ≤ e ∧ e ≤ 3000
      · have : b = false := by rw [hb']; simpa using he
        subst this
        simp only [Bool.false_eq_true, if_false, h, he, and_self, decide_true, Bool.true_and]
        by_cases hl : l = []
        · subst hl; simp; exact Ev.now _
        · have : ¬ (l.length : Int) = 0 := by
            intro z; exact hl (List.eq_nil_of_length_eq_zero (by omega))
          rw [if_neg hl]
          refine ev_if_neg this ?_
          rw [spec_bit0 l hn.2.1]
          have : (bit0 l == 1) = decide (bit0 l = 1) := by
            by_cases g : bit0 l = 1 <;> simp [g]
          simp only [Option.bind_some, this]
          exact Ev.now _
      · have : b = true := by rw [hb']; exact decide_eq_true he
        subst this
        simp only [if_true, he, decide_false, Bool.and_false, Bool.false_and]
        exact Ev.now _
    by_cases he : e < -3000
    · simp only [if_pos he]; exact tail true (by simp; omega)
    · simp only [if_neg he]; exact tail _ (decide_eq_decide.mpr (by omega))
  · simp only [if_neg h]
    refine Ev.step (fun k => by simp only [spec_DyOk.j0]; rfl) ?_
    simp [h]; exact Ev.now _

/-! #### l4draws -/
theorem dyOkB_e {s : Bool} {l : List Int} {e : Int} (h : dyOkB s l e = true) : -3000 ≤ e ∧ e ≤ 3000 := by
  unfold dyOkB at h
  simp only [Bool.and_eq_true, decide_eq_true_eq] at h
  exact h.1.2
theorem ev_spec_l4fits_any (s : Bool) (l : List Int) (e : Int) (hl : l.length ≤ 1000) : ∃ r : Bool × List Int × Int × Bool, Ev (fun k => spec_l4fits.f k s l e) r ∧ r.2.1.length ≤ 1000 := by
  unfold spec_l4fits.f
  by_cases h : dyOkB s l e = true
  · exact ⟨_, Ev.bind (ev_spec_DyOk s l e (by omega)) (ev_if_pos h (Ev.now _)), hl⟩
  · exact ⟨_, Ev.bind (ev_spec_DyOk s l e (by omega)) (ev_if_neg h (Ev.now _)), by simp⟩
theorem l4e_eq (e : Int) : spec_l4e.f e = some (decide (-12000 ≤ e ∧ e ≤ 12000)) := by
  unfold spec_l4e.f
  by_cases g : e ≥ -12000
  · rw [if_pos g]; exact congrArg some (decide_eq_decide.mpr (by omega))
  · rw [if_neg g, decide_eq_false (by omega)]
theorem ev_spec_DyOf_any (s : Bool) (l : List Int) (e : Int) (hl : l.length ≤ 1000) : ∃ r : Bool × List Int × Int × Bool, Ev (fun k => spec_DyOf.f k s l e) r ∧ r.2.1.length ≤ 1000 := by
  have bad : Ev (fun k => spec_DyOf.j0 k e true s l) (false, ([] : List Int), 0, false) := by
    refine Ev.step (fun k => by simp only [spec_DyOf.j0]; rfl) ?_
    simp only [if_true]
    exact Ev.now _
  unfold spec_DyOf.f
  by_cases h : wOkB s l = true
  · have hk := wOkB_nat h
    by_cases he : -12000 ≤ e ∧ e ≤ 12000
    · have go : ∀ (q : List Int) (t : Bool) (z : Int), q.length ≤ 1000 → Ev (fun k => spec_l4make.f k s l e) (t, q, z) → ∃ r : Bool × List Int × Int × Bool, Ev (fun k => (spec_WholeOk.f k s l).bind fun t277 => (if t277 = true then ((spec_l4e.f e).bind fun t278 => (spec_DyOf.j0 k e (!t278) s l)) else (spec_DyOf.j0 k e true s l))) r ∧ r.2.1.length ≤ 1000 := by
        intro q t z hq m1
        obtain ⟨r, f1, f2⟩ := ev_spec_l4fits_any t q z hq
        refine ⟨r, ?_, f2⟩
        refine Ev.bind (ev_spec_WholeOk s l (by omega)) (ev_if_pos h (ev_bind0 (l4e_eq e) ?_))
        rw [decide_eq_true he]
        refine Ev.step (fun k => by simp only [spec_DyOf.j0]; rfl) (ev_if_neg (by simp) ?_)
        exact Ev.bind m1 (Ev.bind f1 (Ev.now _))
      by_cases hn : l = []
      · subst hn
        refine go [] false 0 (by simp) ?_
        unfold spec_l4make.f
        exact ev_if_pos rfl (Ev.now _)
      · obtain ⟨q, z, m1, m2, m3, m4, _⟩ := ev_spec_l4make_x s l e hk.2 hn (by omega) (by omega) (by omega)
        exact go q s z (by omega) m1
    · refine ⟨(false, [], 0, false), ?_, by simp⟩
      refine Ev.bind (ev_spec_WholeOk s l (by omega)) (ev_if_pos h (ev_bind0 (l4e_eq e) ?_))
      rw [decide_eq_false he]
      exact bad
  · exact ⟨_, Ev.bind (ev_spec_WholeOk s l (by omega)) (ev_if_neg h bad), by simp⟩
theorem ev_l3draw (b : List Int) (i h : Int) (hb : b.length ≤ 1000000000000000000) (h0 : 0 ≤ i) : ∃ s l j g, Ev (fun k => spec_l3draw.f k b i h) (s, l, j, g) ∧ l.length ≤ 1000 ∧ 0 ≤ j := by
  unfold spec_l3draw.f
  obtain ⟨t, j, g, e, p⟩ := l1Once_some b i h 2 hb h0
  obtain ⟨l, j2, g2, e2, n, hl, p2⟩ := ev_l2draw b j g hb p
  exact ⟨_, _, _, _, ev_bind0 e (Ev.bind e2 (Ev.bind (ev_spec_l3make t l n (by omega)) (Ev.now _))), by dsimp only; omega, p2⟩
theorem ev_l3bent (b : List Int) (i h : Int) (hb : b.length ≤ 1000000000000000000) (h0 : 0 ≤ i) : ∃ s l j g, Ev (fun k => spec_l3bent.f k b i h) (s, l, j, g) ∧ l.length ≤ 1000 ∧ 0 ≤ j := by
  unfold spec_l3bent.f
  obtain ⟨s, l, j, g, e, hl, p⟩ := ev_l3draw b i h hb h0
  obtain ⟨t, j2, g2, e2, p2⟩ := l1Once_some b j g 9 hb p
  cases t with
  | false => exact ⟨_, _, _, _, Ev.bind e (ev_bind0 e2 (ev_if_neg (by simp) (Ev.now _))), hl, p2⟩
  | true =>
    obtain ⟨t, j3, g3, e3, p3⟩ := l1Once_some b j2 g2 2 hb p2
    cases t with
    | true => exact ⟨_, _, _, _, Ev.bind e (ev_bind0 e2 (ev_if_pos rfl (ev_bind0 e3 (ev_if_pos rfl (Ev.now _))))), by simp, p3⟩
    | false =>
      obtain ⟨m, j4, g4, e4, hm, p4⟩ := ev_l2bent b j3 g3 hb p3
      exact ⟨_, _, _, _, Ev.bind e (ev_bind0 e2 (ev_if_pos rfl (ev_bind0 e3 (ev_if_neg (by simp) (Ev.bind e4 (Ev.now _)))))), by dsimp only; omega, p4⟩
theorem ev_l4draw (b : List Int) (i h : Int) (hb : b.length ≤ 1000000000000000000) (h0 : 0 ≤ i) : ∃ s l z j g, Ev (fun k => spec_l4draw.f k b i h) (s, l, z, j, g) ∧ l.length ≤ 1000 ∧ 0 ≤ j := by
  unfold spec_l4draw.f
  have key : ∀ (s : Bool) (l : List Int) (i h : Int), l.length ≤ 1000 → 0 ≤ i → ∃ t q z j g, Ev (fun k => spec_l4draw.j0 k b i h s l) (t, q, z, j, g) ∧ q.length ≤ 1000 ∧ 0 ≤ j := by
    intro s l i h hl h0
    obtain ⟨x, j, g, e, x0, x1, _, p⟩ := l1Below_some b i h 24 hb h0
    obtain ⟨t, j2, g2, e2, p2⟩ := l1Once_some b j g 6 hb p
    cases t with
    | true =>
      obtain ⟨q, j3, g3, e3, q1, p3⟩ := l1Pick_some b j2 g2 [0, (-60), 60, (-1074), 900, (-2990), 2990, (-100)] hb p2 (by decide) (by decide)
      obtain ⟨r, r1, r2⟩ := ev_spec_DyOf_any s l (([0, (-60), 60, (-1074), 900, (-2990), 2990, (-100)] : List Int).getD q 0) hl
      by_cases hr : r.2.2.2 = true
      · refine ⟨r.1, r.2.1, r.2.2.1, j3, g3, ?_, r2, p3⟩
        refine Ev.step (fun k => by simp only [spec_l4draw.j0]; rfl) (ev_bind0 e (ev_bind0 e2 (ev_if_pos rfl (ev_bind0 e3 ?_))))
        exact Ev.bind r1 (ev_if_pos hr (Ev.now _))
      · refine ⟨false, [], 0, j3, g3, ?_, by simp, p3⟩
        refine Ev.step (fun k => by simp only [spec_l4draw.j0]; rfl) (ev_bind0 e (ev_bind0 e2 (ev_if_pos rfl (ev_bind0 e3 ?_))))
        exact Ev.bind r1 (ev_if_neg hr (Ev.now _))
    | false =>
      obtain ⟨r, r1, r2⟩ := ev_spec_DyOf_any s l (wrap64 (x - 12)) hl
      by_cases hr : r.2.2.2 = true
      · refine ⟨r.1, r.2.1, r.2.2.1, j2, g2, ?_, r2, p2⟩
        refine Ev.step (fun k => by simp only [spec_l4draw.j0]; rfl) (ev_bind0 e (ev_bind0 e2 (ev_if_neg (show ¬ (false = true) by simp) ?_)))
        exact Ev.bind r1 (ev_if_pos hr (Ev.now _))
      · refine ⟨false, [], 0, j2, g2, ?_, by simp, p2⟩
        refine Ev.step (fun k => by simp only [spec_l4draw.j0]; rfl) (ev_bind0 e (ev_bind0 e2 (ev_if_neg (show ¬ (false = true) by simp) ?_)))
        exact Ev.bind r1 (ev_if_neg hr (Ev.now _))
  obtain ⟨s, l, j, g, e, hl, p⟩ := ev_l3draw b i h hb h0
  obtain ⟨t, j2, g2, e2, p2⟩ := l1Once_some b j g 3 hb p
  cases t with
  | true =>
    obtain ⟨x, j3, g3, e3, x0, x1, _, p3⟩ := l1Below_some b j2 g2 40 hb p2
    have x2 := x1 (by omega)
    obtain ⟨m, m1, m2, m3, m4⟩ := ev_spec_l3of (wrap64 (x - 20)) (by rw [w64 (by omega) (by omega)]; omega) (by rw [w64 (by omega) (by omega)]; omega)
    obtain ⟨u, q, z, j4, g4, k1, k2, k3⟩ := key (decide (wrap64 (x - 20) < 0)) m j3 g3 (by omega) p3
    exact ⟨u, q, z, j4, g4, Ev.bind e (ev_bind0 e2 (ev_if_pos rfl (ev_bind0 e3 (Ev.bind m1 k1)))), k2, k3⟩
  | false =>
    obtain ⟨u, q, z, j4, g4, k1, k2, k3⟩ := key s l j2 g2 hl p2
    exact ⟨u, q, z, j4, g4, Ev.bind e (ev_bind0 e2 (ev_if_neg (by simp) k1)), k2, k3⟩
theorem ev_l4bent (b : List Int) (i h : Int) (hb : b.length ≤ 1000000000000000000) (h0 : 0 ≤ i) : ∃ s l z j g, Ev (fun k => spec_l4bent.f k b i h) (s, l, z, j, g) ∧ l.length ≤ 1000 ∧ 0 ≤ j := by
  unfold spec_l4bent.f
  obtain ⟨s, l, z, j, g, e, hl, p⟩ := ev_l4draw b i h hb h0
  obtain ⟨t, j2, g2, e2, p2⟩ := l1Once_some b j g 9 hb p
  cases t with
  | false => exact ⟨_, _, _, _, _, Ev.bind e (ev_bind0 e2 (ev_if_neg (by simp) (Ev.now _))), hl, p2⟩
  | true =>
    obtain ⟨x, j3, g3, e3, x0, x1, _, p3⟩ := l1Below_some b j2 g2 3 hb p2
    by_cases c0 : x = 0
    · obtain ⟨q, j4, g4, e4, q1, p4⟩ := l1Pick_some b j3 g3 [(-3001), 3001, 3000, 4611686018427387904] hb p3 (by decide) (by decide)
      exact ⟨_, _, _, _, _, Ev.bind e (ev_bind0 e2 (ev_if_pos rfl (ev_bind0 e3 (ev_if_pos c0 (ev_bind0 e4 (Ev.now _)))))), hl, p4⟩
    · by_cases c1 : x = 1
      · obtain ⟨u, m, j4, g4, e4, hm, p4⟩ := ev_l3bent b j3 g3 hb p3
        exact ⟨_, _, _, _, _, Ev.bind e (ev_bind0 e2 (ev_if_pos rfl (ev_bind0 e3 (ev_if_neg c0 (ev_if_pos c1 (Ev.bind e4 (Ev.now _))))))), hm, p4⟩
      · exact ⟨_, _, _, _, _, Ev.bind e (ev_bind0 e2 (ev_if_pos rfl (ev_bind0 e3 (ev_if_neg c0 (ev_if_neg c1 (Ev.now _)))))), hl, p3⟩

/-! #### l2mul -/
theorem mul_step (S P y t c p V : Int) (h : S + c * P = V) (ht : t = y + p + c) : S + (t % 65536 - y) * P + (t / 65536) * (65536 * P) = V + p * P := by
  have e := Int.mul_ediv_add_emod t 65536
  generalize t / 65536 = q at *
  generalize t % 65536 = r at *
  grind
theorem val_set (l : List Int) (i : Nat) (x : Int) (h : i < l.length) : val (l.set i x) = val l + (x - rd l (i : Int)) * pw i := by
  have h1 := val_take_drop (l.set i x) i (by simp; omega)
  have h2 := val_take_drop l i (by omega)
  rw [val_set_drop l i x h, List.take_set_of_le (by omega)] at h1
  rw [val_drop_at h] at h2
  rw [h1, h2]
  grind
theorem rd_set (l : List Int) (i j : Nat) (x : Int) (h : i < l.length) : rd (l.set i x) (j : Int) = if i = j then x else rd l (j : Int) := by
  rw [rd_nat, rd_nat, List.getD_eq_getElem?_getD, List.getD_eq_getElem?_getD, List.getElem?_set]
  by_cases e : i = j
  · subst e; simp [h]
  · simp [e]
theorem val_take_succ (l : List Int) (k : Nat) (h : k < l.length) : val (l.take (k + 1)) = val (l.take k) + pw k * rd l (k : Int) := by
  rw [take_snoc h, val_snoc, List.length_take, Nat.min_eq_left (by omega), rd_get _ _ h]
theorem mul_bound {x y : Int} (hx : 0 ≤ x ∧ x ≤ 65535) (hy : 0 ≤ y ∧ y ≤ 65535) : 0 ≤ x * y ∧ x * y ≤ 4294836225 := by
  refine ⟨Int.mul_nonneg hx.1 hy.1, ?_⟩
  exact Int.le_trans (Int.mul_le_mul hx.2 hy.2 hy.1 (by omega)) (by omega)
theorem spec_mul_row (a b : List Int) (ha : Limbs a) (hb : Limbs b) (hl : a.length ≤ 1000000) (hl2 : b.length ≤ 1000000) (i : Nat) (hi : i < a.length) (V0 : Int) (d : Nat) :
    ∀ (k : Nat) (out : List Int) (c : Int), k + d = b.length → out.length = a.length + b.length → Limbs out → 0 ≤ c → c ≤ 65535 → (∀ j : Nat, i + b.length ≤ j → rd out (j : Int) = 0) → val out + c * pw (i + k) = V0 + rd a (i : Int) * val (b.take k) * pw i →
      ∃ out' : List Int, out'.length = a.length + b.length ∧ Limbs out' ∧ (∀ j : Nat, i + 1 + b.length ≤ j → rd out' (j : Int) = 0) ∧ val out' = V0 + rd a (i : Int) * val b * pw i ∧
        ∀ r, Ev (fun n => spec_l2mul.l0 n out' ((i + 1 : Nat) : Int) a b) r → Ev (fun n => spec_l2mul.l1 n out (i : Int) c (k : Int) a b) r := by
  induction d with
  | zero =>
    intro k out c hk hlen ho c0 c1 hz hv
    have hkk : k = b.length := by omega
    subst hkk
    have w : wrap64 ((i : Int) + (b.length : Int)) = ((i + b.length : Nat) : Int) := by rw [w64 (by omega) (by omega)]; omega
    have z := hz (i + b.length) (Nat.le_refl _)
    refine ⟨out.set (i + b.length) c, by simpa using hlen, ho.set _ c0 c1, ?_, ?_, ?_⟩
    · intro j hj
      rw [rd_set _ _ _ _ (by omega), if_neg (by omega)]
      exact hz j (by omega)
    · rw [val_set _ _ _ (by omega), z, Int.sub_zero, hv, List.take_length]
    · intro r hr
      refine Ev.step (fun n => by simp only [spec_l2mul.l1]; rfl) (ev_if_neg (by omega) ?_)
      rw [w, z, w64 (x := 0 + c) (by omega) (by omega), w64 (x := (i : Int) + 1) (by omega) (by omega), Int.zero_add]
      exact ev_if_pos (by omega) (ev_if_pos (by omega) hr)
  | succ d ih =>
    intro k out c hk hlen ho c0 c1 hz hv
    have w : wrap64 ((i : Int) + (k : Int)) = ((i + k : Nat) : Int) := by rw [w64 (by omega) (by omega)]; omega
    have hik : i + k < out.length := by
      clear hv hz
      omega
    have hkb : k < b.length := by
      clear hv hz
      omega
    have x1 := rd_limb ha (i : Int)
    have x2 := rd_limb hb (k : Int)
    have x3 := rd_limb ho ((i + k : Nat) : Int)
    have mb := mul_bound x1 x2
    have tb : 0 ≤ rd out ((i + k : Nat) : Int) + rd a (i : Int) * rd b (k : Int) + c ∧ rd out ((i + k : Nat) : Int) + rd a (i : Int) * rd b (k : Int) + c ≤ 4294967295 := by omega
    generalize ht : rd out ((i + k : Nat) : Int) + rd a (i : Int) * rd b (k : Int) + c = t at *
    have tq : (0 ≤ t % 65536 ∧ t % 65536 ≤ 65535) ∧ 0 ≤ t / 65536 ∧ t / 65536 ≤ 65535 := by
      clear hv hz ih mb
      omega
    have nlen : (out.set (i + k) (t % 65536)).length = a.length + b.length := by simpa using hlen
    have nz : ∀ j : Nat, i + b.length ≤ j → rd (out.set (i + k) (t % 65536)) (j : Int) = 0 := by
      intro j hj
      have hne : ¬ i + k = j := by
        clear hv hz ih tq tb mb x1 x2 x3
        omega
      rw [rd_set _ _ _ _ hik, if_neg hne]
      exact hz j hj
    have nv : val (out.set (i + k) (t % 65536)) + t / 65536 * pw (i + (k + 1)) = V0 + rd a (i : Int) * val (b.take (k + 1)) * pw i := by
      have ht' : t = rd out ((i + k : Nat) : Int) + rd a (i : Int) * rd b (k : Int) + c := ht.symm
      have hs := mul_step (val out) (pw (i + k)) (rd out ((i + k : Nat) : Int)) t c (rd a (i : Int) * rd b (k : Int)) _ hv ht'
      rw [val_set _ _ _ hik, val_take_succ _ _ hkb, show i + (k + 1) = (i + k) + 1 from rfl, show pw (i + k + 1) = 65536 * pw (i + k) from rfl, hs, pw_add]
      clear hs hv hz nz ih tb tq
      grind
    have hkd : k + 1 + d = b.length := by
      clear hv hz nv nz mb tb tq ih
      omega
    clear hv hz
    obtain ⟨out', g1, g2, g3, g4, g5⟩ := ih (k + 1) _ _ hkd nlen (ho.set _ tq.1.1 tq.1.2) tq.2.1 tq.2.2 nz nv
    have g4_ := g4
    clear ih nv nz g4
    refine ⟨out', g1, g2, g3, g4_, fun r hr => ?_⟩
    refine Ev.step (fun n => by simp only [spec_l2mul.l1]; rfl) (ev_if_pos (by omega) ?_)
    rw [w, w64 (x := rd a (i : Int) * rd b (k : Int)) (by omega) (by omega), w64 (x := rd out ((i + k : Nat) : Int) + rd a (i : Int) * rd b (k : Int)) (by omega) (by omega), ht, w64 (x := t) (by omega) (by omega), td t _ (by omega), tm t _ (by omega), w64 (x := t / 65536) (by omega) (by omega), w64 (x := (k : Int) + 1) (by omega) (by omega)]
    exact ev_if_pos (by omega) (ev_if_pos (by omega) (ev_if_pos (by omega) (ev_if_pos (by omega) (ev_if_pos (by omega) (g5 r hr)))))
theorem spec_mul_rows (a b : List Int) (ha : Limbs a) (hb : Limbs b) (hl : a.length ≤ 1000000) (hl2 : b.length ≤ 1000000) (d : Nat) :
    ∀ (i : Nat) (out : List Int), i + d = a.length → out.length = a.length + b.length → Limbs out → (∀ j : Nat, i + b.length ≤ j → rd out (j : Int) = 0) → val out = val (a.take i) * val b →
      ∃ q : List Int, Ev (fun n => spec_l2mul.l0 n out (i : Int) a b) q ∧ Norm q ∧ val q = val a * val b ∧ q.length ≤ a.length + b.length := by
  induction d with
  | zero =>
    intro i out hi hlen ho hz hv
    have hii : i = a.length := by omega
    subst hii
    refine ⟨strip out, ?_, strip_norm ho, by rw [val_strip, hv, List.take_length], by have := strip_len out; omega⟩
    refine Ev.step (fun n => by simp only [spec_l2mul.l0]; rfl) (ev_if_neg (by omega) ?_)
    exact Ev.bind (ev_spec_l2norm out (by omega)) (Ev.now _)
  | succ d ih =>
    intro i out hi hlen ho hz hv
    obtain ⟨out', g1, g2, g3, g4, g5⟩ := spec_mul_row a b ha hb hl hl2 i (by omega) (val out) b.length 0 out 0 (by omega) hlen ho (by omega) (by omega) hz (by simp [val])
    obtain ⟨q, q1, q2, q3, q4⟩ := ih (i + 1) out' (by omega) g1 g2 g3 (by
      rw [g4, hv, val_take_succ _ _ (by omega)]
      grind)
    refine ⟨q, ?_, q2, q3, q4⟩
    refine Ev.step (fun n => by simp only [spec_l2mul.l0]; rfl) (ev_if_pos (by omega) ?_)
    exact g5 q q1
theorem ev_spec_l2mul (a b : List Int) (ha : Limbs a) (hb : Limbs b) (hl : a.length ≤ 1000000) (hl2 : b.length ≤ 1000000) : ∃ q : List Int, Ev (fun n => spec_l2mul.f n a b) q ∧ Norm q ∧ val q = val a * val b ∧ q.length ≤ a.length + b.length := by
  obtain ⟨q, q1, q2, q3, q4⟩ := spec_mul_rows a b ha hb hl hl2 a.length 0 (List.replicate (a.length + b.length) 0) (by omega) (by simp) (Limbs.zeros _) (by
    intro j _
    rw [rd_nat, List.getD_eq_getElem?_getD, List.getElem?_replicate]
    split <;> rfl) (by rw [val_zeros]; simp [val])
  refine ⟨q, ?_, q2, q3, q4⟩
  unfold spec_l2mul.f
  have w : wrap64 ((a.length : Int) + (b.length : Int)) = ((a.length + b.length : Nat) : Int) := by rw [w64 (by omega) (by omega)]; omega
  rw [w]
  refine ev_if_pos (by omega) (ev_if_pos (by omega) ?_)
  rw [Int.toNat_natCast]
  exact q1

/-! #### upD -/
/-- The value of a number shifted to the left. -/
def shlI (l : List Int) (k : Int) : Int := pw (k / 16).toNat * (val l * 2 ^ (k % 16).toNat)

/-! #### l2shl -/
theorem ev_spec_l2shl (a : List Int) (k : Int) (ha : Limbs a) (hb : a.length ≤ 900000) (h0 : 0 ≤ k) (h1 : k ≤ 1000000) : ∃ q : List Int, Ev (fun n => spec_l2shl.f n a k) q ∧ Norm q ∧ val q = shlI a k ∧ (a ≠ [] → q.length ≤ (k / 16).toNat + a.length + 4) := by
  unfold spec_l2shl.f shlI
  by_cases hl : (a.length : Int) = 0
  · have e : a = [] := List.eq_nil_of_length_eq_zero (by omega)
    subst e
    exact ⟨[], ev_if_pos hl (Ev.now _), Norm.nil, by simp [val], by simp⟩
  · have hr : (k % 16).toNat < 16 := by omega
    have hp := two_pow_bd hr
    have e2 : shl .i64 1 (k % 16) = 2 ^ (k % 16).toNat := by rw [shl_in (by omega) (by omega) (by omega) (by omega)]; omega
    have zl : (List.replicate (k / 16).toNat (0 : Int)).length = (k / 16).toNat := by simp
    have al : (List.replicate (k / 16).toNat (0 : Int) ++ a).length = (k / 16).toNat + a.length := by simp
    have dl := dig_len (2 ^ (k % 16).toNat)
    obtain ⟨q, q1, q2, q3, q4⟩ := ev_spec_l2mul (List.replicate (k / 16).toNat 0 ++ a) (dig (2 ^ (k % 16).toNat)) (Limbs.append (Limbs.zeros _) ha) (dig_norm (by omega) (by omega)).1 (by omega) (by omega)
    refine ⟨q, ?_, q2, ?_, fun _ => by omega⟩
    · rw [td _ _ h0, tm _ _ h0, w64 (x := k / 16) (by omega) (by omega)]
      refine ev_if_neg hl (ev_if_pos (by omega) (ev_if_pos (by omega) (ev_bind0 rfl (ev_if_pos (by omega) (ev_if_pos (by omega) ?_)))))
      rw [e2]
      exact Ev.bind (ev_spec_l2of _ (by omega)) (Ev.bind q1 (Ev.now _))
    · rw [q3, val_append, val_zeros, zl, dig_val (by omega) (by omega)]
      grind

/-! #### scmpD -/
/-- Two numbers with signs, compared. -/
def sCmp (s : Bool) (a : List Int) (t : Bool) (b : List Int) : Int := if (s != t) = true then (if s = true then -1 else 1) else if s = true then cmpI (val b) (val a) else cmpI (val a) (val b)

/-! #### scmpV -/
theorem sCmp_sg (s : Bool) (a : List Int) (t : Bool) (b : List Int) (ha : Norm a) (hb : Norm b) (hs : s = true → a ≠ []) (ht : t = true → b ≠ []) : sCmp s a t b = cmpI (sg s (val a)) (sg t (val b)) := by
  have a0 := val_nonneg ha.1
  have b0 := val_nonneg hb.1
  unfold sCmp
  cases s <;> cases t
  · rfl
  · have := hb.pos (ht rfl)
    simp only [sg]
    rw [if_pos (by decide), if_neg (by decide), cmpI_gt (by simp; omega)]
  · have := ha.pos (hs rfl)
    simp only [sg]
    rw [if_pos (by decide), if_pos trivial, cmpI_lt (by simp; omega)]
  · simp only [sg]
    rw [if_neg (by decide), if_pos trivial, if_pos trivial, if_pos trivial]
    unfold cmpI
    by_cases h : val b < val a
    · rw [if_pos h, if_pos (by omega)]
    · by_cases h2 : val b > val a
      · rw [if_neg h, if_pos h2, if_neg (by omega), if_pos (by omega)]
      · rw [if_neg h, if_neg h2, if_neg (by omega), if_neg (by omega)]

/-! #### cmpS -/
theorem ev_spec_l2cmp (a b : List Int) (ha : Norm a) (hb : Norm b) (hl : a.length ≤ 1000000) (hl2 : b.length ≤ 1000000) : Ev (fun k => spec_l2cmp.f k a b) (cmpI (val a) (val b)) := by
  unfold spec_l2cmp.f
  by_cases he : (a.length : Int) = (b.length : Int)
  · refine ev_if_pos he ?_
    rw [w64 (by omega) (by omega)]
    have key : ∀ d : Nat, d ≤ a.length → val (a.drop d) = val (b.drop d) → Ev (fun k => spec_l2cmp.l0 k ((d : Int) - 1) a b) (cmpI (val a) (val b)) := by
      intro d
      induction d with
      | zero =>
        intro _ hv
        simp at hv
        rw [cmpI_eq hv]
        refine Ev.step (f := fun _ => some 0) (fun k => ?_) (Ev.now _)
        simp only [spec_l2cmp.l0]
        rw [if_neg (by omega)]
      | succ d ih =>
        intro hd hv
        rw [show ((d + 1 : Nat) : Int) - 1 = (d : Int) by omega]
        by_cases h1 : rd a (d : Int) < rd b (d : Int)
        · have hlt : val a < val b := val_lt_at ha.1 hb.1 (i := d) (by omega) (by omega) hv (by rwa [rd_get _ _ (by omega), rd_get _ _ (by omega)] at h1)
          rw [cmpI_lt hlt]
          refine Ev.step (f := fun _ => some (-1)) (fun k => ?_) (Ev.now _)
          simp only [spec_l2cmp.l0]
          rw [if_pos (by omega), if_pos (by omega), if_pos (by omega), if_pos (by omega), if_pos h1]
        · by_cases h2 : rd a (d : Int) > rd b (d : Int)
          · have hlt : val b < val a := val_lt_at hb.1 ha.1 (i := d) (by omega) (by omega) hv.symm (by rwa [gt_iff_lt, rd_get _ _ (by omega), rd_get _ _ (by omega)] at h2)
            rw [cmpI_gt hlt]
            refine Ev.step (f := fun _ => some 1) (fun k => ?_) (Ev.now _)
            simp only [spec_l2cmp.l0]
            rw [if_pos (by omega), if_pos (by omega), if_pos (by omega), if_pos (by omega), if_neg h1, if_pos h2]
          · refine Ev.step (f := fun k => spec_l2cmp.l0 k ((d : Int) - 1) a b) (fun k => ?_) (ih (by omega) ?_)
            · simp only [spec_l2cmp.l0]
              rw [if_pos (by omega), if_pos (by omega), if_pos (by omega), if_pos (by omega), if_neg h1, if_neg h2, w64 (by omega) (by omega)]
            · have e : rd a (d : Int) = rd b (d : Int) := by omega
              rw [rd_get _ _ (by omega), rd_get _ _ (by omega)] at e
              rw [List.drop_eq_getElem_cons (show d < a.length by omega), List.drop_eq_getElem_cons (show d < b.length by omega)]
              simp only [val, e, hv]
    exact key a.length (Nat.le_refl _) (by rw [List.drop_length, show a.length = b.length by omega, List.drop_length])
  · refine ev_if_neg he ?_
    by_cases h : (a.length : Int) < (b.length : Int)
    · rw [cmpI_lt (val_lt_len ha.1 hb (by omega))]; exact ev_if_pos h (Ev.now _)
    · rw [cmpI_gt (val_lt_len hb.1 ha (by omega))]; exact ev_if_neg h (Ev.now _)

/-! #### scmpS -/
theorem ev_spec_l3cmp (s : Bool) (a : List Int) (t : Bool) (b : List Int) (ha : Norm a) (hb : Norm b) (hl : a.length ≤ 1000000) (hl2 : b.length ≤ 1000000) : Ev (fun k => spec_l3cmp.f k s a t b) (sCmp s a t b) := by
  unfold spec_l3cmp.f sCmp
  by_cases h : (s != t) = true
  · simp only [if_pos h]
    cases s
    · exact ev_if_neg (by simp) (Ev.now _)
    · exact ev_if_pos (by trivial) (Ev.now _)
  · simp only [if_neg h]
    cases s
    · exact ev_if_neg (by simp) (Ev.bind (ev_spec_l2cmp a b ha hb hl hl2) (Ev.now _))
    · exact ev_if_pos (by trivial) (Ev.bind (ev_spec_l2cmp b a hb ha hl2 hl) (Ev.now _))

/-! #### alD -/
theorem shlI_two (l : List Int) (k : Int) (h0 : 0 ≤ k) : shlI l k = val l * 2 ^ k.toNat := by
  unfold shlI
  rw [← pw_two_toNat k h0, ← Int.mul_assoc, ← Int.mul_assoc, Int.mul_comm (pw _) (val l)]

/-! #### l4cmp -/
/-- The reference's side: a number brought to a lesser power of two. -/
theorem shl_side (t : Bool) (b : List Int) (y z : Int) (hb : Norm b) (hl : b.length ≤ 1000) (hn : b ≠ []) (hy : y ≤ 20000) (hz0 : -20000 ≤ z) (h : z ≤ y) :
    ∃ q : List Int, Ev (fun k => spec_l2shl.f k b (wrap64 (y - z))) q ∧ Ev (fun k => spec_l3make.f k t q) (t, q) ∧ Norm q ∧ q.length ≤ 50000 ∧ q ≠ [] ∧ ∀ s : Bool, xv s (val b) y = sg s (val q) * 2 ^ (z + 20000).toNat := by
  rw [w64 (by omega) (by omega)]
  obtain ⟨q, q1, q2, q3, q4⟩ := ev_spec_l2shl b (y - z) hb.1 (by omega) (by omega) (by omega)
  rw [shlI_two b _ (by omega)] at q3
  have hlen := len_shl hb.1 q2 _ q3
  have hne : q ≠ [] := by
    intro e
    have h1 := hb.pos hn
    rw [e] at q3
    simp only [val] at q3
    have h2 := two_pos (y - z).toNat
    have h3 : 1 * 1 ≤ val b * 2 ^ (y - z).toNat := Int.mul_le_mul h1 h2 (by omega) (by omega)
    omega
  have hm := ev_spec_l3make t q q2 (by omega)
  have ht : (t && !q.isEmpty) = t := by
    cases hq : q with
    | nil => exact absurd hq hne
    | cons c q => simp
  rw [ht] at hm
  refine ⟨q, q1, hm, q2, by omega, hne, fun s => ?_⟩
  unfold xv
  rw [q3, ← sg_mul, Int.mul_assoc, ← two_add]
  congr 3
  omega
theorem xv_own (s : Bool) (m z : Int) : xv s m z = sg s m * 2 ^ (z + 20000).toNat := by unfold xv; rw [sg_mul]
theorem ev_spec_l4cmp (s : Bool) (a : List Int) (x : Int) (t : Bool) (b : List Int) (y : Int) (ha : Norm a) (hb : Norm b) (hl : a.length ≤ 1000) (hl2 : b.length ≤ 1000) (hx : x ≤ 20000) (hx0 : -20000 ≤ x) (hy : y ≤ 20000) (hy0 : -20000 ≤ y)
    (hs : s = true → a ≠ []) (ht : t = true → b ≠ []) : Ev (fun k => spec_l4cmp.f k s a x t b y) (cmpI (xv s (val a) x) (xv t (val b) y)) := by
  have nil_iff : ∀ l : List Int, (l.length : Int) = 0 ↔ l = [] := fun l => ⟨fun h => List.eq_nil_of_length_eq_zero (by omega), fun h => by subst h; rfl⟩
  have fin : ∀ (u v : List Int) (z : Int), Norm u → Norm v → u.length ≤ 50000 → v.length ≤ 50000 → (a ≠ [] → u ≠ []) → (b ≠ [] → v ≠ []) → xv s (val a) x = sg s (val u) * 2 ^ (z + 20000).toNat → xv t (val b) y = sg t (val v) * 2 ^ (z + 20000).toNat →
      Ev (fun k => spec_l4align.f k s a x t b y) (s, u, t, v, z) → Ev (fun k => spec_l4cmp.f k s a x t b y) (cmpI (xv s (val a) x) (xv t (val b) y)) := by
    intro u v z hu hv lu lv nu nv e1 e2 hev
    rw [e1, e2, cmpI_scale _ _ _ (two_pos _), ← sCmp_sg s u t v hu hv (fun e => nu (hs e)) (fun e => nv (ht e))]
    unfold spec_l4cmp.f
    exact Ev.bind hev (Ev.bind (ev_spec_l3cmp s u t v hu hv (by omega) (by omega)) (Ev.now _))
  by_cases e1 : a = []
  · refine fin a b y ha hb (by omega) (by omega) id id ?_ (xv_own _ _ _) ?_
    · subst e1
      rw [show val [] = 0 from rfl, xv_zero]
      cases s <;> simp [sg]
    · unfold spec_l4align.f
      exact ev_if_pos ((nil_iff a).2 e1) (Ev.now _)
  · by_cases e2 : b = []
    · refine fin a b x ha hb (by omega) (by omega) id id (xv_own _ _ _) ?_ ?_
      · subst e2
        rw [show val [] = 0 from rfl, xv_zero]
        cases t <;> simp [sg]
      · unfold spec_l4align.f
        exact ev_if_neg (fun h => e1 ((nil_iff a).1 h)) (ev_if_pos ((nil_iff b).2 e2) (Ev.now _))
    · by_cases h : x ≤ y
      · obtain ⟨q, q1, q2, q3, q4, q5, q6⟩ := shl_side t b y x hb hl2 e2 hy hx0 h
        refine fin a q x ha q3 (by omega) q4 id (fun _ => q5) (xv_own _ _ _) (q6 t) ?_
        unfold spec_l4align.f
        exact ev_if_neg (fun h => e1 ((nil_iff a).1 h)) (ev_if_neg (fun h => e2 ((nil_iff b).1 h)) (ev_if_pos h (Ev.bind q1 (Ev.bind q2 (Ev.now _)))))
      · obtain ⟨q, q1, q2, q3, q4, q5, q6⟩ := shl_side s a x y ha hl e1 hx hy0 (by omega)
        refine fin q b y q3 hb q4 (by omega) (fun _ => q5) id (q6 s) (xv_own _ _ _) ?_
        unfold spec_l4align.f
        exact ev_if_neg (fun h => e1 ((nil_iff a).1 h)) (ev_if_neg (fun h => e2 ((nil_iff b).1 h)) (ev_if_neg h (Ev.bind q1 (Ev.bind q2 (Ev.now _)))))

/-! #### bitsI -/
theorem impl_bitsOf_eq (l : List Int) (h : Norm l) (hb : l.length ≤ 1000000) : impl_bitsOf.f l = some (bitsV l) := by
  unfold impl_bitsOf.f bitsV bits_Len.f bits_Len64.f
  by_cases hl : 0 < l.length
  · have hne : l ≠ [] := by intro e; subst e; simp at hl
    rw [if_neg hne, getLastD_rd l hl]
    have ht := okB_top h hl
    rw [if_neg (by omega), w64 (x := (l.length : Int) - 1) (by omega) (by omega), if_pos (by omega), if_pos (by omega)]
    rw [u64_in (by omega) (by omega), if_pos (by omega), w64 (x := 16 * ((l.length : Int) - 1)) (by omega) (by omega)]
    have hle : Go.Lib.bitLen (rd l ((l.length : Int) - 1)).toNat ≤ 16 := Go.Lib.bitLen_le _ 16 (by decide) (by omega)
    simp only [Option.bind_some]
    rw [w64 (by omega) (by omega)]
  · have e : l = [] := List.eq_nil_of_length_eq_zero (by omega)
    subst e; rfl

/-! #### within -/
theorem within_eq (a b c : Int) : impl_within.f a b c = some (decide (b ≤ a ∧ a ≤ c)) := by
  unfold impl_within.f
  by_cases h : b ≤ a <;> simp [h]

/-! #### DyOk -/
theorem impl_bit0 (l : List Int) (h : Limbs l) : impl_bitOf.f l 0 = some (bit0 l) := by
  unfold impl_bitOf.f bit0
  have z : Int.tdiv 0 16 = 0 := rfl
  have z2 : Int.tmod 0 16 = 0 := rfl
  rw [if_neg (by omega), z, z2, w64 (x := 0) (by omega) (by omega)]
  cases l with
  | nil => rfl
  | cons x l =>
    rw [if_neg (by simp only [List.length_cons]; omega), if_pos (by omega), if_pos (by simp only [List.length_cons]; omega), if_pos (by omega), rd_zero_cons]
    have hx := h.head
    have sh : shr .i64 x 0 = x := by simp [shr]
    rw [sh, and_1 _ hx.1 (by omega)]; rfl
theorem impl_DyOk_eq (s : Bool) (l : List Int) (e : Int) : impl_DyOk.f s l e = some (dyOkB s l e) := by
  unfold impl_DyOk.f dyOkB
  rw [impl_WholeOk_eq]
  simp only [Option.bind_some, within_eq]
  by_cases h : wOkB s l = true
  · have hn := wOkB_nat h
    rw [if_pos h]
    by_cases he : -3000 ≤ e ∧ e ≤ 3000
    · simp only [he, and_self, decide_true, if_true]
      rw [impl_bit0 l hn.2.1]
      simp only [Option.bind_some, h, Bool.true_and]
      by_cases hl : l = []
      · subst hl
        have g : (e == 0) = decide (e = 0) := by by_cases z : e = 0 <;> simp [z]
        simp [bit0, g]
      · have : ¬ (l.length : Int) = 0 := by
          intro z; exact hl (List.eq_nil_of_length_eq_zero (by omega))
        rw [if_neg hl, if_neg this]
        by_cases g : bit0 l = 1 <;> simp [g]
    · simp [he]
  · rw [if_neg h]; simp [h]

/-! #### negS -/
/-- A number with the other sign. -/
def negV (s : Bool) (l : List Int) : Bool × List Int := (!s && !l.isEmpty, l)
theorem ev_spec_l3neg (s : Bool) (l : List Int) (h : Norm l) (hb : l.length ≤ 1000000) : Ev (fun n => spec_l3neg.f n s l) (negV s l) := by
  unfold spec_l3neg.f
  exact Ev.bind (ev_spec_l3make (!s) l h hb) (Ev.now _)

/-! #### DyNegS -/
/-- What DyNeg answers. -/
def dyNegV (s : Bool) (l : List Int) (e : Int) : Bool × List Int × Int := if dyOkB s l e = true then ((negV s l).1, (negV s l).2, e) else (false, [], 0)
theorem dyOkB_nat {s : Bool} {l : List Int} {e : Int} (h : dyOkB s l e = true) : l.length ≤ 100 ∧ Norm l := by
  unfold dyOkB at h
  simp only [Bool.and_eq_true] at h
  exact wOkB_nat h.1.1
theorem dyNegV_len (s : Bool) (l : List Int) (e : Int) : (dyNegV s l e).2.1.length ≤ 100 := by
  unfold dyNegV negV
  by_cases h : dyOkB s l e = true
  · rw [if_pos h]; exact (dyOkB_nat h).1
  · rw [if_neg h]; simp
theorem ev_spec_DyNeg (s : Bool) (l : List Int) (e : Int) (hb : l.length ≤ 1048576) : Ev (fun n => spec_DyNeg.f n s l e) (dyNegV s l e) := by
  unfold spec_DyNeg.f dyNegV spec_l4neg.f
  refine Ev.bind (ev_spec_DyOk s l e (by omega)) ?_
  by_cases h : dyOkB s l e = true
  · rw [if_pos h]
    have hk := dyOkB_nat h
    exact ev_if_pos h (Ev.bind (Ev.bind (ev_spec_l3neg s l hk.2 (by omega)) (Ev.now _)) (Ev.now _))
  · rw [if_neg h]
    exact ev_if_neg h (Ev.now _)

/-! #### bitTop -/
theorem bitLen_top (t : Int) (h0 : 1 ≤ t) (h1 : t ≤ 65535) : ∃ L : Nat, Go.Lib.bitLen t.toNat = L ∧ 1 ≤ L ∧ L ≤ 16 ∧ t < 2 ^ L ∧ 2 ^ (L - 1) ≤ t := by
  have hle : Go.Lib.bitLen t.toNat ≤ 16 := Go.Lib.bitLen_le _ 16 (by decide) (by omega)
  have hp := bitLen_pos t.toNat (by omega) (by omega)
  refine ⟨_, rfl, hp, hle, ?_, ?_⟩
  · have := bitLen_lt t.toNat (Go.Lib.bitLen t.toNat) (Nat.le_refl _) (by omega)
    have e : ((2 ^ Go.Lib.bitLen t.toNat : Nat) : Int) = 2 ^ Go.Lib.bitLen t.toNat := by simp
    rw [← e]; omega
  · by_cases h : (2 : Int) ^ (Go.Lib.bitLen t.toNat - 1) ≤ t
    · exact h
    · have e : ((2 ^ (Go.Lib.bitLen t.toNat - 1) : Nat) : Int) = 2 ^ (Go.Lib.bitLen t.toNat - 1) := by simp
      rw [← e] at h
      have := Go.Lib.bitLen_le t.toNat (Go.Lib.bitLen t.toNat - 1) (by omega) (by omega)
      omega

/-! #### law_FnDyTops -/
theorem bits_bounds {l : List Int} (h : Norm l) (hn : l ≠ []) : ∃ B : Nat, bitsV l = B ∧ 1 ≤ B ∧ B ≤ 16 * l.length ∧ 2 ^ (B - 1) ≤ val l ∧ val l < 2 ^ B := by
  have hl := List.length_pos_iff.2 hn
  have ht := okB_top h hl
  have hv := val_top hl
  have hk := val_take_lt h.1 (l.length - 1) (by omega)
  have h0 := val_nonneg (h.1.take (l.length - 1))
  have hB : bitsV l = 16 * ((l.length : Int) - 1) + Go.Lib.bitLen (rd l ((l.length : Int) - 1)).toNat := by
    unfold bitsV
    rw [if_neg hn, getLastD_rd l hl]
  obtain ⟨L, e, L1, L2, L3, L4⟩ := bitLen_top _ ht.1 ht.2
  generalize rd l ((l.length : Int) - 1) = t at *
  obtain ⟨n, hn'⟩ : ∃ n, n = l.length - 1 := ⟨_, rfl⟩
  rw [← hn'] at hv hk h0
  rw [pw_two] at hv hk
  have hP : (0 : Int) < 2 ^ (16 * n) := Int.pow_pos (by omega)
  refine ⟨16 * n + L, ?_, by omega, by omega, ?_, ?_⟩
  · rw [hB, e]; omega
  · rw [show 16 * n + L - 1 = 16 * n + (L - 1) by omega, two_add, hv]
    have := Int.mul_le_mul_of_nonneg_left L4 (Int.le_of_lt hP)
    omega
  · rw [two_add, hv]
    have := Int.mul_le_mul_of_nonneg_left (show t + 1 ≤ 2 ^ L by omega) (Int.le_of_lt hP)
    rw [Int.mul_add] at this
    omega
theorem impl_DyTop_ok {s : Bool} {l : List Int} {e : Int} (h : dyOkB s l e = true) (hn : l ≠ []) : impl_DyTop.f s l e = some (wrap64 (e + bitsV l)) := by
  have hw : wOkB s l = true := by
    unfold dyOkB at h
    simp only [Bool.and_eq_true] at h
    exact h.1.1
  obtain ⟨n1, n2⟩ := wOkB_nat hw
  have hl := List.length_pos_iff.2 hn
  unfold impl_DyTop.f impl_Dy_exact.f impl_exact_top.f
  rw [impl_DyOk_eq, Option.bind_some, if_pos h, Option.bind_some, if_neg (by omega), impl_bitsOf_eq l n2 (by omega), Option.bind_some, Int.add_comm]
  rfl
theorem impl_DyTop_some (s : Bool) (l : List Int) (e : Int) : ∃ r, impl_DyTop.f s l e = some r := by
  by_cases h : dyOkB s l e = true
  · by_cases hn : l = []
    · refine ⟨0, ?_⟩
      unfold impl_DyTop.f impl_Dy_exact.f impl_exact_top.f
      rw [impl_DyOk_eq, Option.bind_some, if_pos h, Option.bind_some, if_pos (by rw [hn]; rfl)]
      rfl
    · exact ⟨_, impl_DyTop_ok h hn⟩
  · refine ⟨0, ?_⟩
    unfold impl_DyTop.f
    rw [impl_DyOk_eq, Option.bind_some, if_neg h]
theorem norm_one {n : Int} (h0 : 1 ≤ n) (h1 : n ≤ 65535) : Norm [n] := by
  rw [← dig_small h0 h1]; exact dig_norm (by omega) (by omega)
theorem dyOk_one {n e : Int} (h0 : 1 ≤ n) (h1 : n ≤ 65535) (ho : n % 2 = 1) (e0 : -3000 ≤ e) (e1 : e ≤ 3000) : dyOkB false [n] e = true := by
  have : okB [n] = true := (okB_iff _).2 ⟨by simp, norm_one h0 h1⟩
  unfold dyOkB wOkB bit0
  rw [this]
  simp [ho, e0, e1]
theorem ev_spec_DyOf_one {n e : Int} (h0 : 1 ≤ n) (h1 : n ≤ 65535) (ho : n % 2 = 1) (e0 : -3000 ≤ e) (e1 : e ≤ 3000) : Ev (fun k => spec_DyOf.f k false [n] e) (false, [n], e, true) := by
  have hN := norm_one h0 h1
  have hw : wOkB false [n] = true := by
    have : okB [n] = true := (okB_iff _).2 ⟨by simp, hN⟩
    unfold wOkB
    rw [this]; rfl
  obtain ⟨q, z, m1, m2, m3, m4, m5, m6, m7, m8⟩ := ev_spec_l4make_x false [n] e hN (by simp) (by simp) (by omega) (by omega)
  have hx := m8 false
  have v1 : val [n] = n := by simp [val]
  rw [v1, xv_own, xv_own] at hx
  obtain ⟨d, hd⟩ : ∃ d : Nat, z = e + d := ⟨(z - e).toNat, by omega⟩
  rw [hd, show (e + (d : Int) + 20000).toNat = d + (e + 20000).toNat by omega, two_add, ← Int.mul_assoc] at hx
  have hp : (0 : Int) < 2 ^ (e + 20000).toNat := Int.pow_pos (by omega)
  have hq : sg false (val q) * 2 ^ d = sg false n := Int.eq_of_mul_eq_mul_right (by omega) hx
  unfold sg at hq
  simp only [Bool.false_eq_true, if_false] at hq
  have d0 : d = 0 := by
    cases d with
    | zero => rfl
    | succ d =>
      rw [Int.pow_succ, ← Int.mul_assoc] at hq
      omega
  subst d0
  have ez : z = e := by omega
  have eq : q = [n] := norm_inj m2 hN (by rw [v1]; omega)
  subst ez eq
  unfold spec_DyOf.f
  refine Ev.bind (ev_spec_WholeOk _ _ (by simp)) (ev_if_pos hw (ev_bind0 (l4e_eq _) ?_))
  rw [decide_eq_true (by omega)]
  refine Ev.step (fun k => by simp only [spec_DyOf.j0]; rfl) (ev_if_neg (by simp) ?_)
  have hf : Ev (fun k => spec_l4fits.f k false [n] z) (false, [n], z, true) := by
    unfold spec_l4fits.f
    exact Ev.bind (ev_spec_DyOk _ _ _ (by simp)) (ev_if_pos (dyOk_one h0 h1 ho e0 e1) (Ev.now _))
  exact Ev.bind m1 (Ev.bind hf (Ev.now _))
theorem ev_dy {n e : Int} (h0 : 1 ≤ n) (h1 : n ≤ 65535) (ho : n % 2 = 1) (e0 : -3000 ≤ e) (e1 : e ≤ 3000) : Ev (fun k => laws_dy.f k n e) (false, [n], e) := by
  obtain ⟨l, l1, l2, l3, l4⟩ := ev_spec_l3of n (by omega) (by omega)
  rw [if_neg (by omega)] at l3
  have el : l = [n] := norm_inj l2 (norm_one h0 h1) (by rw [l3]; simp [val])
  rw [el, decide_eq_false (by omega)] at l1
  unfold laws_dy.f
  refine Ev.bind (a := (false, [n])) ?_ (Ev.bind (ev_spec_DyOf_one h0 h1 ho e0 e1) (Ev.now _))
  unfold spec_WholeOf.f
  exact Ev.bind l1 (Ev.now _)
theorem dyOkB_sign {s : Bool} {l : List Int} {e : Int} (h : dyOkB s l e = true) (hn : l ≠ []) : dyOkB false l e = true := by
  unfold dyOkB wOkB at h ⊢
  cases l with
  | nil => exact absurd rfl hn
  | cons x l => simpa using h
theorem ev_abs (s : Bool) (l : List Int) (e : Int) (h : dyOkB s l e = true) (hn : l ≠ []) : Ev (fun k => laws_abs.f k s l e) (false, l, e) := by
  have hl : l.length ≤ 100 := (dyOkB_nat h).1
  unfold laws_abs.f
  cases s with
  | false => exact ev_if_neg (by simp) (Ev.now _)
  | true =>
    refine ev_if_pos rfl ?_
    have e1 := ev_spec_DyNeg true l e (by omega)
    unfold dyNegV at e1
    rw [if_pos h] at e1
    have e2 : Ev (fun k => laws_neg.f k true l e) (false, l, e) := by
      unfold laws_neg.f
      exact Ev.bind e1 (Ev.now _)
    exact Ev.bind e2 (Ev.now _)
theorem ev_DyCmp_one {l : List Int} {e k : Int} (h : dyOkB false l e = true) (k0 : -3000 ≤ k) (k1 : k ≤ 3000) : Ev (fun n => spec_DyCmp.f n false l e false [1] k) (cmpI (xv false (val l) e) (xv false 1 k)) := by
  have hk := dyOkB_nat h
  have he := dyOkB_e h
  have ho := dyOk_one (n := 1) (e := k) (by omega) (by omega) (by omega) k0 k1
  have c := ev_spec_l4cmp false l e false [1] k hk.2 (norm_one (by omega) (by omega)) (by omega) (by simp) (by omega) (by omega) (by omega) (by omega) (by simp) (by simp)
  rw [show val [1] = (1 : Int) by simp [val]] at c
  unfold spec_DyCmp.f
  exact Ev.bind (ev_spec_DyOk _ _ _ (by omega)) (ev_if_pos h (Ev.bind (ev_spec_DyOk _ _ _ (by simp)) (ev_if_pos ho (Ev.bind c (Ev.now _)))))
theorem tops_bad (x : Int) (s : Bool) (l : List Int) (e : Int) : Ev (fun k => laws_FnDyTops.j0 k x true s l e) true := by
  refine Ev.step (fun k => by simp only [laws_FnDyTops.j0]; rfl) (ev_if_pos (show true = true from rfl) (Ev.bind (ev_dy (n := 5) (e := 1) (by omega) (by omega) (by omega) (by omega) (by omega)) ?_))
  have t : impl_DyTop.f false [5] 1 = some 4 := by
    rw [impl_DyTop_ok (dyOk_one (by omega) (by omega) (by omega) (by omega) (by omega)) (by simp)]
    have b : bitsV [5] = 3 := by
      unfold bitsV
      rw [if_neg (by simp)]
      first | rfl | decide | (simp [Go.Lib.bitLen, Go.Lib.bitLenAux]; done)
    rw [b, w64 (by omega) (by omega)]
    rfl
  exact ev_bind0 t (Ev.now _)
theorem FnDyTops : laws_FnDyTops.Pure := by
  intro c hc hc2 hw
  have g : Ev (fun k => laws_FnDyTops.f k c) true := by
    unfold laws_FnDyTops.f
    obtain ⟨h, e0⟩ := ev_l1New c (by omega)
    obtain ⟨s, l, e, j, g, e1, hl, p⟩ := ev_l4bent c 0 h (by omega) (by omega)
    have d : Ev (fun k => spec_DrawDyTop.f k c) (s, l, e) := by
      unfold spec_DrawDyTop.f
      exact Ev.bind e0 (Ev.bind e1 (Ev.now _))
    refine Ev.bind d ?_
    dsimp only
    by_cases ho : dyOkB s l e = true
    · by_cases hn : l = []
      · obtain ⟨r, hr⟩ := impl_DyTop_some s l e
        exact ev_bind0 hr (Ev.bind (ev_spec_DyOk s l e (by omega)) (ev_if_pos ho (ev_if_pos (by rw [hn]; rfl) (tops_bad _ _ _ _))))
      · have hlp := List.length_pos_iff.2 hn
        have hk := dyOkB_nat ho
        have he := dyOkB_e ho
        obtain ⟨B, b1, b2, b3, b4, b5⟩ := bits_bounds hk.2 hn
        refine ev_bind0 (impl_DyTop_ok ho hn) (Ev.bind (ev_spec_DyOk s l e (by omega)) (ev_if_pos ho (ev_if_neg (by omega) ?_)))
        rw [b1, w64 (by omega) (by omega)]
        by_cases t1 : e + (B : Int) > 3000
        · exact ev_if_pos t1 (tops_bad _ _ _ _)
        · refine ev_if_neg t1 ?_
          by_cases t2 : e + (B : Int) ≤ -3000
          · rw [decide_eq_true t2]; exact tops_bad _ _ _ _
          · rw [decide_eq_false t2]
            have ha := ev_abs s l e ho hn
            have hf := dyOkB_sign ho hn
            have c1 := ev_DyCmp_one (k := e + (B : Int)) hf (by omega) (by omega)
            have c2 := ev_DyCmp_one (k := e + (B : Int) - 1) hf (by omega) (by omega)
            obtain ⟨E, hE⟩ : ∃ E : Nat, E = (e + 20000).toNat := ⟨_, rfl⟩
            have hP : (0 : Int) < 2 ^ E := Int.pow_pos (by omega)
            have x0 : xv false (val l) e = val l * 2 ^ E := by rw [xv_own, ← hE]; rfl
            have x1 : xv false 1 (e + (B : Int)) = 2 ^ B * 2 ^ E := by
              rw [xv_own, show (e + (B : Int) + 20000).toNat = B + E by omega, two_add, ← Int.mul_assoc]
              show 1 * 2 ^ B * 2 ^ E = _
              rw [Int.one_mul]
            have x2 : xv false 1 (e + (B : Int) - 1) = 2 ^ (B - 1) * 2 ^ E := by
              rw [xv_own, show (e + (B : Int) - 1 + 20000).toNat = B - 1 + E by omega, two_add, ← Int.mul_assoc]
              show 1 * 2 ^ (B - 1) * 2 ^ E = _
              rw [Int.one_mul]
            rw [x0, x1, cmpI_lt (Int.mul_lt_mul_of_pos_right b5 hP)] at c1
            rw [x0, x2, cmpI_scale _ _ _ (by omega)] at c2
            have c3 : cmpI (val l) (2 ^ (B - 1)) ≥ 0 := by
              by_cases hh : (2 : Int) ^ (B - 1) < val l
              · rw [cmpI_gt hh]; omega
              · rw [cmpI_eq (by omega)]; omega
            refine Ev.step (fun k => by simp only [laws_FnDyTops.j0]; rfl) (ev_if_neg (by simp) (Ev.bind ha (Ev.bind (ev_dy (n := 1) (e := e + (B : Int)) (by omega) (by omega) (by omega) (by omega) (by omega)) (Ev.bind c1 (ev_if_pos (show (-1 : Int) < 0 by omega) ?_)))))
            rw [w64 (x := e + (B : Int) - 1) (by omega) (by omega)]
            refine Ev.bind (ev_dy (n := 1) (e := e + (B : Int) - 1) (by omega) (by omega) (by omega) (by omega) (by omega)) (Ev.bind c2 ?_)
            rw [decide_eq_true c3]
            exact Ev.now _
    · obtain ⟨r, hr⟩ := impl_DyTop_some s l e
      exact ev_bind0 hr (Ev.bind (ev_spec_DyOk s l e (by omega)) (ev_if_neg ho (tops_bad _ _ _ _)))
  exact g.rounds

end Go.Proofs.Ytgjpahofopoflaa.Pure
