/- The pure statement of the law FnRuneBytes: at every input that its guards let in the program's answer is the reference's. -/
import Derived.Test.YtlefbfdeelldjaaPFnRuneBytesx2
import Derived.Test.YtlefbfdeelldjaaLib
import Derived.WalkKit
namespace Go.Proofs.Ytlefbfdeelldjaa.Pure
open Go.RowKit Go.Proofs.Ytlefbfdeelldjaa.PFnRuneBytes Go.Proofs.YtlefbfdeelldjaaW.PrintWords Go.Proofs.YtlefbfdeelldjaaW.PrintLast Go.Proofs.Ytlefbfdeelldjaa.Lib
set_option linter.unusedVariables false
set_option linter.unusedSimpArgs false

/-! #### l1draws -/
/-- A byte drawn: there is one; the cursor stays where it may read. -/
theorem l1Byte_some (b : List Int) (i h : Int) (hb : b.length ≤ 1000000000000000000) (h0 : 0 ≤ i) : ∃ x j g, spec_l1Byte.f b i h = some (x, j, g) ∧ 0 ≤ x ∧ x ≤ 255 ∧ 0 ≤ j := by
  unfold spec_l1Byte.f
  by_cases h1 : i < (b.length : Int)
  · rw [if_pos h1, if_pos h0]
    exact ⟨_, _, _, rfl, (and255_bd _).1, (and255_bd _).2, by rw [w64 (by omega) (by omega)]; omega⟩
  · rw [if_neg h1]
    exact ⟨_, _, _, rfl, (and255_bd _).1, (and255_bd _).2, h0⟩
theorem l1Below_some (b : List Int) (i h n : Int) (hb : b.length ≤ 1000000000000000000) (h0 : 0 ≤ i) : ∃ x j g, spec_l1Below.f b i h n = some (x, j, g) ∧ 0 ≤ x ∧ (0 < n → x < n) ∧ x ≤ 4294967295 ∧ 0 ≤ j := by
  unfold spec_l1Below.f
  by_cases h1 : n ≤ 0
  · rw [if_pos h1]
    exact ⟨_, _, _, rfl, Int.le_refl _, fun h => by omega, by omega, h0⟩
  rw [if_neg h1]
  obtain ⟨x, i1, g1, e1, x0, x1, p1⟩ := l1Byte_some b i h hb h0
  by_cases h2 : n ≤ 256
  · rw [if_pos h2, e1]
    simp only [Option.bind_some]
    rw [if_neg (by omega), tm _ _ x0]
    have a1 := Int.emod_nonneg x (show n ≠ 0 by omega)
    have a2 := Int.emod_lt_of_pos x (show 0 < n by omega)
    exact ⟨_, _, _, rfl, a1, fun _ => a2, by omega, p1⟩
  · rw [if_neg h2, e1]
    simp only [Option.bind_some]
    obtain ⟨y, i2, g2, e2, y0, y1, p2⟩ := l1Byte_some b i1 g1 hb p1
    rw [e2]
    simp only [Option.bind_some]
    obtain ⟨z, i3, g3, e3, z0, z1, p3⟩ := l1Byte_some b i2 g2 hb p2
    rw [e3]
    simp only [Option.bind_some]
    obtain ⟨u, i4, g4, e4, u0, u1, p4⟩ := l1Byte_some b i3 g3 hb p3
    rw [e4]
    simp only [Option.bind_some]
    rw [if_neg (by omega), w64 (x := x * 16777216) (by omega) (by omega), w64 (x := y * 65536) (by omega) (by omega), w64 (x := z * 256) (by omega) (by omega), w64 (x := x * 16777216 + y * 65536) (by omega) (by omega), w64 (x := x * 16777216 + y * 65536 + z * 256) (by omega) (by omega), w64 (by omega) (by omega), tm _ _ (by omega)]
    have a1 := Int.emod_nonneg (x * 16777216 + y * 65536 + z * 256 + u) (show n ≠ 0 by omega)
    have a2 := Int.emod_lt_of_pos (x * 16777216 + y * 65536 + z * 256 + u) (show 0 < n by omega)
    have a4 : (x * 16777216 + y * 65536 + z * 256 + u) % n ≤ x * 16777216 + y * 65536 + z * 256 + u := by
      have h5 := Int.mul_ediv_add_emod (x * 16777216 + y * 65536 + z * 256 + u) n
      have h6 : 0 ≤ (x * 16777216 + y * 65536 + z * 256 + u) / n := Int.ediv_nonneg (by omega) (by omega)
      have h7 : 0 ≤ n * ((x * 16777216 + y * 65536 + z * 256 + u) / n) := Int.mul_nonneg (by omega) h6
      omega
    exact ⟨_, _, _, rfl, a1, fun _ => a2, by omega, p4⟩
theorem l1Once_some (b : List Int) (i h n : Int) (hb : b.length ≤ 1000000000000000000) (h0 : 0 ≤ i) : ∃ t j g, spec_l1Once.f b i h n = some (t, j, g) ∧ 0 ≤ j := by
  unfold spec_l1Once.f
  obtain ⟨x, j, g, e, _, _, _, p⟩ := l1Below_some b i h n hb h0
  rw [e]
  exact ⟨_, _, _, rfl, p⟩
theorem l1Pick_some (b : List Int) (i h : Int) (l : List Int) (hb : b.length ≤ 1000000000000000000) (h0 : 0 ≤ i) (hl : 0 < l.length) (hl2 : l.length ≤ 256) : ∃ q j g, spec_l1PickInt.f b i h l = some (l.getD q 0, j, g) ∧ q < l.length ∧ 0 ≤ j := by
  unfold spec_l1PickInt.f
  obtain ⟨x, j, g, e, x0, x1, _, p⟩ := l1Below_some b i h (l.length : Int) hb h0
  have x2 := x1 (by omega)
  rw [e]
  simp only [Option.bind_some]
  rw [if_pos x0, if_pos x2]
  refine ⟨x.toNat, j, g, ?_, by omega, p⟩
  rfl
theorem ev_l1New (b : List Int) (hb : b.length ≤ 1000000000000000000) : ∃ h, Ev (fun k => spec_l1New.f k b) (b, 0, h) := by
  unfold spec_l1New.f
  generalize wrap64 (38282 + (b.length : Int)) = h0
  have key : ∀ (d : Nat) (i : Nat) (h : Int), i + d = 4001 → ∃ g, Ev (fun k => spec_l1New.l0 k b h (i : Int)) (b, 0, g) := by
    intro d
    induction d with
    | zero =>
      intro i h hd
      refine ⟨h, Ev.step (f := fun _ => some (b, 0, h)) (fun k => ?_) (Ev.now _)⟩
      simp only [spec_l1New.l0]
      by_cases h1 : (i : Int) < (b.length : Int)
      · rw [if_pos h1, if_neg (by omega)]
      · rw [if_neg h1]
    | succ d ih =>
      intro i h hd
      by_cases h1 : (i : Int) < (b.length : Int)
      · by_cases h2 : (i : Int) < 4000
        · obtain ⟨g, hg⟩ := ih (i + 1) (Go.bits .and .i64 (wrap64 ((wrap64 ((wrap64 (h * 131)) + (wrap64 (rd b (i : Int))))) + 7)) 1073741823) (by omega)
          refine ⟨g, Ev.step (fun k => ?_) hg⟩
          simp only [spec_l1New.l0]
          rw [if_pos h1, if_pos h2, if_pos (by omega), w64 (x := (i : Int) + 1) (by omega) (by omega), show (i : Int) + 1 = ((i + 1 : Nat) : Int) by omega]
        · refine ⟨h, Ev.step (f := fun _ => some (b, 0, h)) (fun k => ?_) (Ev.now _)⟩
          simp only [spec_l1New.l0]
          rw [if_pos h1, if_neg h2]
      · refine ⟨h, Ev.step (f := fun _ => some (b, 0, h)) (fun k => ?_) (Ev.now _)⟩
        simp only [spec_l1New.l0]
        rw [if_neg h1]
  exact key 4001 0 h0 (by omega)
theorem l1drawRune_some (b : List Int) (i h : Int) (hb : b.length ≤ 1000000000000000000) (h0 : 0 ≤ i) : ∃ t j g, spec_l1drawRune.f b i h = some (t, j, g) ∧ 0 ≤ j := by
  unfold spec_l1drawRune.f
  obtain ⟨t, i1, g1, e1, p1⟩ := l1Once_some b i h 3 hb h0
  rw [e1]
  simp only [Option.bind_some]
  by_cases c : t = true
  · rw [if_pos c]
    obtain ⟨q, i2, g2, e2, _, p2⟩ := l1Pick_some b i1 g1 [0, 127, 128, 2047, 2048, 65535, 65536, 1114111, 55295, 57344, 65533, 8722, 160, 12288] hb p1 (by decide) (by decide)
    rw [e2]
    exact ⟨_, _, _, rfl, p2⟩
  · rw [if_neg c]
    obtain ⟨u, i2, g2, e2, p2⟩ := l1Once_some b i1 g1 2 hb p1
    rw [e2]
    simp only [Option.bind_some]
    by_cases c2 : u = true
    · rw [if_pos c2]
      obtain ⟨q, i3, g3, e3, _, p3⟩ := l1Pick_some b i2 g2 [48, 1632, 1776, 2406, 65296] hb p2 (by decide) (by decide)
      rw [e3]
      simp only [Option.bind_some]
      obtain ⟨x, i4, g4, e4, _, _, _, p4⟩ := l1Below_some b i3 g3 10 hb p3
      rw [e4]
      exact ⟨_, _, _, rfl, p4⟩
    · rw [if_neg c2]
      obtain ⟨x, i3, g3, e3, _, _, _, p3⟩ := l1Below_some b i2 g2 95 hb p2
      rw [e3]
      exact ⟨_, _, _, rfl, p3⟩

/-! #### within -/
theorem within_eq (a b c : Int) : impl_within.f a b c = some (decide (b ≤ a ∧ a ≤ c)) := by
  unfold impl_within.f
  by_cases h : b ≤ a <;> simp [h]

/-! #### mayI -/
theorem impl_isPoint_eq (r : Int) : impl_isPoint.f r = some (mayB r) := by
  unfold impl_isPoint.f mayB
  simp only [within_eq, Option.bind_some, decide_eq_true_eq]
  by_cases h : 0 ≤ r ∧ r ≤ 1114111
  · rw [if_pos h, ← decide_not]; exact congrArg some (decide_eq_decide.mpr (by omega))
  · rw [if_neg h]; simp; omega

/-! #### runeV -/
/-- The bytes of a code point. -/
def runeV (r : Int) : List Int :=
  if mayB r = true then
    if r < 128 then [r] else if r < 2048 then [192 + r / 64, 128 + r % 64]
    else if r < 65536 then [224 + r / 4096, 128 + r / 64 % 64, 128 + r % 64]
    else [240 + r / 262144, 128 + r / 4096 % 64, 128 + r / 64 % 64, 128 + r % 64]
  else []
theorem runeV_len (r : Int) : (runeV r).length ≤ 4 := by
  unfold runeV
  repeat' split
  all_goals simp

/-! #### RuneBytesI -/
theorem lowByte (r : Int) (h0 : 0 ≤ r) (h1 : r ≤ 1114111) : Go.bits .or .i64 128 (Go.bits .and .i64 r 63) % 256 = 128 + r % 64 := by
  rw [and_63 _ h0 (by omega), or_join 6 128 (r % 64) (by decide) (by decide) (by decide) (by omega) (by omega) (by omega)]
  omega
theorem ev_impl_RuneBytes (r : Int) : Ev (fun k => impl_RuneBytes.f k r) (runeV r) := by
  have key : impl_RuneBytes.f 4 r = some (runeV r) := by
    unfold impl_RuneBytes.f runeV impl_sizeOf.f
    rw [impl_isPoint_eq]
    simp only [Option.bind_some]
    by_cases h : mayB r = true
    · rw [if_pos h, if_pos h]
      have hr : 0 ≤ r ∧ r ≤ 1114111 := by unfold mayB at h; simp at h; omega
      by_cases h1 : r < 128
      · rw [if_pos h1, if_pos h1]
        simp only [Option.bind_some, if_true]
        rw [show r % 256 = r by omega]
      rw [if_neg h1, if_neg h1]
      have y2 : rd [0, 0, 192, 224, 240] 2 = 192 := rfl
      have y3 : rd [0, 0, 192, 224, 240] 3 = 224 := rfl
      have y4 : rd [0, 0, 192, 224, 240] 4 = 240 := rfl
      have v2 : wrap64 (2 - 1) = 1 := w64 (by omega) (by omega)
      have v3 : wrap64 (3 - 1) = 2 := w64 (by omega) (by omega)
      have v4 : wrap64 (4 - 1) = 3 := w64 (by omega) (by omega)
      have v1 : wrap64 (1 - 1) = 0 := w64 (by omega) (by omega)
      by_cases h2 : r < 2048
      · rw [if_pos h2, if_pos h2]
        have o : Go.bits .or .i64 192 (r / 64) % 256 = 192 + r / 64 := by
          rw [or_join 5 192 (r / 64) (by decide) (by decide) (by decide) (by omega) (by omega) (by omega)]; omega
        have rep : List.replicate (2 : Int).toNat (0 : Int) = [0, 0] := rfl
        simp only [Option.bind_some, rep, v2, impl_RuneBytes.l0, v1, lowByte r hr.1 hr.2]
        simp [y2, o]
      rw [if_neg h2, if_neg h2]
      by_cases h3 : r < 65536
      · rw [if_pos h3, if_pos h3]
        have o : Go.bits .or .i64 224 (r / 64 / 64) % 256 = 224 + r / 4096 := by
          rw [or_join 4 224 (r / 64 / 64) (by decide) (by decide) (by decide) (by omega) (by omega) (by omega)]; omega
        have rep : List.replicate (3 : Int).toNat (0 : Int) = [0, 0, 0] := rfl
        simp only [Option.bind_some, rep, v3, impl_RuneBytes.l0, v2, v1, lowByte r hr.1 hr.2, lowByte (r / 64) (by omega) (by omega)]
        simp [y3, o]
      rw [if_neg h3, if_neg h3]
      have o : Go.bits .or .i64 240 (r / 64 / 64 / 64) % 256 = 240 + r / 262144 := by
        rw [or_join 3 240 (r / 64 / 64 / 64) (by decide) (by decide) (by decide) (by omega) (by omega) (by omega)]; omega
      have rep : List.replicate (4 : Int).toNat (0 : Int) = [0, 0, 0, 0] := rfl
      simp only [Option.bind_some, rep, v4, impl_RuneBytes.l0, v3, v2, v1, lowByte r hr.1 hr.2, lowByte (r / 64) (by omega) (by omega), lowByte (r / 64 / 64) (by omega) (by omega)]
      simp [y4, o]
      omega
    · rw [if_neg h, if_neg h]
  exact Ev.of (fun k => impl_RuneBytes.mono r k) key

/-! #### dropG -/
theorem drop_getD (l : List Int) (i j : Nat) : (l.drop i).getD j 0 = rd l ((i : Int) + j) := by
  rw [show (i : Int) + (j : Int) = ((i + j : Nat) : Int) by omega, rd_nat, List.getD_eq_getElem?_getD, List.getD_eq_getElem?_getD, List.getElem?_drop]

/-! #### runeAt -/
theorem impl_sizeOf_eq (r : Int) : impl_sizeOf.f r = some (if r < 128 then 1 else if r < 2048 then 2 else if r < 65536 then 3 else 4) := by
  unfold impl_sizeOf.f
  by_cases h1 : r < 128
  · rw [if_pos h1, if_pos h1]
  rw [if_neg h1, if_neg h1]
  by_cases h2 : r < 2048
  · rw [if_pos h2, if_pos h2]
  rw [if_neg h2, if_neg h2]
  by_cases h3 : r < 65536
  · rw [if_pos h3, if_pos h3]
  · rw [if_neg h3, if_neg h3]
theorem impl_leadSize_eq (x : Int) (h0 : 0 ≤ x) (h1 : x ≤ 255) : impl_leadSize.f x = some (if 192 ≤ x ∧ x ≤ 223 then (2, x % 32) else if 224 ≤ x ∧ x ≤ 239 then (3, x % 16) else if 240 ≤ x ∧ x ≤ 247 then (4, x % 8) else (0, 0)) := by
  unfold impl_leadSize.f
  simp only [within_eq, Option.bind_some, decide_eq_true_eq]
  rw [and_31 _ h0 (by omega), and_15 _ h0 (by omega), and_7 _ h0 (by omega)]
  by_cases a : 192 ≤ x ∧ x ≤ 223
  · rw [if_pos a, if_pos a]
  rw [if_neg a, if_neg a]
  by_cases b : 224 ≤ x ∧ x ≤ 239
  · rw [if_pos b, if_pos b]
  rw [if_neg b, if_neg b]
  by_cases c : 240 ≤ x ∧ x ≤ 247
  · rw [if_pos c, if_pos c]
  · rw [if_neg c, if_neg c]
/-- What a rune's bytes told, looked at last. -/
theorem impl_fin_eq (r least n : Int) (h : (if r < 128 then (1 : Int) else if r < 2048 then 2 else if r < 65536 then 3 else 4) = n ↔ ¬ r < least) :
    ((impl_isPoint.f r).bind fun t126 => (if t126 = true then ((impl_sizeOf.f r).bind fun t127 => (if t127 = n then (some (r, n)) else (some (65533, 1)))) else (some ((65533 : Int), (1 : Int))))) = some (finV r least n) := by
  rw [impl_isPoint_eq, impl_sizeOf_eq]
  simp only [Option.bind_some]
  unfold finV
  by_cases a : mayB r = true
  · rw [if_pos a]
    by_cases b : r < least
    · rw [if_neg (fun z => (h.1 z) b), if_pos (.inl b)]
    · rw [if_pos (h.2 b), if_neg (by simp [a]; omega)]
  · rw [if_neg a, if_pos (.inr (by simpa using a))]
theorem impl_step (k : Nat) (n r : Int) (q : List Int) (i : Nat) (hi : i < q.length) (hq : Bytes q) (hl : q.length ≤ 3) (r0 : 0 ≤ r) (r1 : r ≤ 1000000) :
    impl_runeAt.l0 (k + 1) n r q (q.length : Int) (i : Int) = if 128 ≤ rd q i ∧ rd q i ≤ 191 then impl_runeAt.l0 k n (r * 64 + rd q i % 64) q (q.length : Int) ((i + 1 : Nat) : Int) else some (65533, 1) := by
  have hx := hq.at_ (i : Int)
  simp only [impl_runeAt.l0]
  rw [if_pos (by omega), if_pos (by omega), if_pos (by omega), orc _ _ r0 r1 hx.1 hx.2, w64 (x := (i : Int) + 1) (by omega) (by omega)]
  by_cases h : 128 ≤ rd q i ∧ rd q i ≤ 191
  · rw [if_pos h, if_pos (by omega)]; rfl
  · rw [if_neg h, if_neg (by omega)]
theorem impl_stop (k : Nat) (n r : Int) (q : List Int) : impl_runeAt.l0 (k + 1) n r q (q.length : Int) (q.length : Int) = ((impl_isPoint.f r).bind fun t126 => (if t126 = true then ((impl_sizeOf.f r).bind fun t127 => (if t127 = n then (some (r, n)) else (some (65533, 1)))) else (some (65533, 1)))) := by
  simp only [impl_runeAt.l0]
  rw [if_neg (by omega)]
theorem ev_impl_runeAt (l : List Int) (hb : Bytes l) (h : 0 < l.length) : Ev (fun k => impl_runeAt.f k l) (decV l) := by
  have key : impl_runeAt.f 9 l = some (decV l) := by
    rcases l with _ | ⟨x, l⟩
    · cases h
    have hx := hb.head
    have hb := hb.tail
    unfold impl_runeAt.f decV
    rw [if_pos (by simp only [List.length_cons]; omega), show rd (x :: l) 0 = x from rfl, w64 (x := x) (by omega) (by omega), impl_leadSize_eq x hx.1 hx.2, Option.bind_some]
    show _ = some (dec4 x (l.getD 0 0) (l.getD 1 0) (l.getD 2 0))
    unfold dec4
    by_cases a0 : x < 128
    · rw [if_pos a0, if_pos a0]
    rw [if_neg a0, if_neg a0]
    by_cases a1 : 192 ≤ x ∧ x ≤ 223
    · rw [if_pos a1, if_pos a1, if_neg (by simp)]
      rcases l with _ | ⟨c1, l⟩
      · rfl
      have b1 := hb.head
      have hq : Bytes [c1] := Bytes.cons b1.1 b1.2 Bytes.nil
      have e : ((x :: c1 :: l).take ((2 : Int)).toNat).drop 1 = [c1] := rfl
      simp only [impl_runeAt.j0]
      rw [if_neg (by simp; omega), if_pos (by decide), if_pos (by simp only [List.length_cons]; omega), e, show (0 : Int) = ((0 : Nat) : Int) from rfl, impl_step 7 2 _ _ 0 (by simp) hq (by simp) (by omega) (by omega), show rd [c1] ((0 : Nat) : Int) = c1 from rfl]
      show _ = some (if 128 ≤ c1 ∧ c1 ≤ 191 then _ else _)
      by_cases g1 : 128 ≤ c1 ∧ c1 ≤ 191
      · rw [if_pos g1, if_pos g1]
        refine (impl_stop 6 2 _ [c1]).trans (impl_fin_eq _ _ _ ?_)
        omega
      · rw [if_neg g1, if_neg g1]
    rw [if_neg a1, if_neg a1]
    by_cases a2 : 224 ≤ x ∧ x ≤ 239
    · rw [if_pos a2, if_pos a2, if_neg (by simp)]
      rcases l with _ | ⟨c1, _ | ⟨c2, l⟩⟩
      · rfl
      · show some _ = some (if (128 ≤ c1 ∧ c1 ≤ 191) ∧ (128 ≤ (0 : Int) ∧ (0 : Int) ≤ 191) then _ else _)
        rw [if_neg (by omega)]
      have b1 := hb.head
      have b2 := hb.tail.head
      have hq : Bytes [c1, c2] := Bytes.cons b1.1 b1.2 (Bytes.cons b2.1 b2.2 Bytes.nil)
      have e : ((x :: c1 :: c2 :: l).take ((3 : Int)).toNat).drop 1 = [c1, c2] := rfl
      simp only [impl_runeAt.j0]
      rw [if_neg (by simp; omega), if_pos (by decide), if_pos (by simp only [List.length_cons]; omega), e, show (0 : Int) = ((0 : Nat) : Int) from rfl, impl_step 7 3 _ _ 0 (by simp) hq (by simp) (by omega) (by omega), show rd [c1, c2] ((0 : Nat) : Int) = c1 from rfl]
      show _ = some (if (128 ≤ c1 ∧ c1 ≤ 191) ∧ (128 ≤ c2 ∧ c2 ≤ 191) then _ else _)
      by_cases g1 : 128 ≤ c1 ∧ c1 ≤ 191
      · rw [if_pos g1, impl_step 6 3 _ _ 1 (by simp) hq (by simp) (by omega) (by omega), show rd [c1, c2] ((1 : Nat) : Int) = c2 from rfl]
        by_cases g2 : 128 ≤ c2 ∧ c2 ≤ 191
        · rw [if_pos g2, if_pos ⟨g1, g2⟩]
          refine (impl_stop 5 3 _ [c1, c2]).trans (impl_fin_eq _ _ _ ?_)
          omega
        · rw [if_neg g2, if_neg (fun z => g2 z.2)]
      · rw [if_neg g1, if_neg (fun z => g1 z.1)]
    rw [if_neg a2, if_neg a2]
    by_cases a3 : 240 ≤ x ∧ x ≤ 247
    · rw [if_pos a3, if_pos a3, if_neg (by simp)]
      rcases l with _ | ⟨c1, _ | ⟨c2, _ | ⟨c3, l⟩⟩⟩
      · rfl
      · show some _ = some (if (128 ≤ c1 ∧ c1 ≤ 191) ∧ (128 ≤ (0 : Int) ∧ (0 : Int) ≤ 191) ∧ (128 ≤ (0 : Int) ∧ (0 : Int) ≤ 191) then _ else _)
        rw [if_neg (by omega)]
      · show some _ = some (if (128 ≤ c1 ∧ c1 ≤ 191) ∧ (128 ≤ c2 ∧ c2 ≤ 191) ∧ (128 ≤ (0 : Int) ∧ (0 : Int) ≤ 191) then _ else _)
        rw [if_neg (by omega)]
      have b1 := hb.head
      have b2 := hb.tail.head
      have b3 := hb.tail.tail.head
      have hq : Bytes [c1, c2, c3] := Bytes.cons b1.1 b1.2 (Bytes.cons b2.1 b2.2 (Bytes.cons b3.1 b3.2 Bytes.nil))
      have e : ((x :: c1 :: c2 :: c3 :: l).take ((4 : Int)).toNat).drop 1 = [c1, c2, c3] := rfl
      simp only [impl_runeAt.j0]
      rw [if_neg (by simp; omega), if_pos (by decide), if_pos (by simp only [List.length_cons]; omega), e, show (0 : Int) = ((0 : Nat) : Int) from rfl, impl_step 7 4 _ _ 0 (by simp) hq (by simp) (by omega) (by omega), show rd [c1, c2, c3] ((0 : Nat) : Int) = c1 from rfl]
      show _ = some (if (128 ≤ c1 ∧ c1 ≤ 191) ∧ (128 ≤ c2 ∧ c2 ≤ 191) ∧ (128 ≤ c3 ∧ c3 ≤ 191) then _ else _)
      by_cases g1 : 128 ≤ c1 ∧ c1 ≤ 191
      · rw [if_pos g1, impl_step 6 4 _ _ 1 (by simp) hq (by simp) (by omega) (by omega), show rd [c1, c2, c3] ((1 : Nat) : Int) = c2 from rfl]
        by_cases g2 : 128 ≤ c2 ∧ c2 ≤ 191
        · rw [if_pos g2, impl_step 5 4 _ _ 2 (by simp) hq (by simp) (by omega) (by omega), show rd [c1, c2, c3] ((2 : Nat) : Int) = c3 from rfl]
          by_cases g3 : 128 ≤ c3 ∧ c3 ≤ 191
          · rw [if_pos g3, if_pos ⟨g1, g2, g3⟩]
            refine (impl_stop 4 4 _ [c1, c2, c3]).trans (impl_fin_eq _ _ _ ?_)
            omega
          · rw [if_neg g3, if_neg (fun z => g3 z.2.2)]
        · rw [if_neg g2, if_neg (fun z => g2 z.2.1)]
      · rw [if_neg g1, if_neg (fun z => g1 z.1)]
    · rw [if_neg a3, if_neg a3, if_pos rfl]
      rfl
  exact Ev.of (fun k => impl_runeAt.mono l k) key

/-! #### law_FnRuneBytes -/
theorem dec_rune (r : Int) (h : mayB r = true) (t : List Int) : decV (runeV r ++ t) = (r, ((runeV r).length : Int)) := by
  have hr : 0 ≤ r ∧ r ≤ 1114111 := by unfold mayB at h; simp at h; omega
  unfold runeV
  rw [if_pos h]
  by_cases h1 : r < 128
  · rw [if_pos h1]
    simp only [decV, dec4, List.cons_append, List.nil_append, List.getD_cons_zero]
    rw [if_pos h1]
    simp
  rw [if_neg h1]
  by_cases h2 : r < 2048
  · rw [if_pos h2]
    simp only [decV, dec4, List.cons_append, List.nil_append, List.getD_cons_zero, List.getD_cons_succ]
    rw [if_neg (by omega), if_pos (by omega), if_pos (by omega), show (192 + r / 64) % 32 * 64 + (128 + r % 64) % 64 = r by omega]
    unfold finV
    rw [if_neg (by rw [h]; simp; omega)]
    simp
  rw [if_neg h2]
  by_cases h3 : r < 65536
  · rw [if_pos h3]
    simp only [decV, dec4, List.cons_append, List.nil_append, List.getD_cons_zero, List.getD_cons_succ]
    rw [if_neg (by omega), if_neg (by omega), if_pos (by omega), if_pos (by omega), show ((224 + r / 4096) % 16 * 64 + (128 + r / 64 % 64) % 64) * 64 + (128 + r % 64) % 64 = r by omega]
    unfold finV
    rw [if_neg (by rw [h]; simp; omega)]
    simp
  rw [if_neg h3]
  simp only [decV, dec4, List.cons_append, List.nil_append, List.getD_cons_zero, List.getD_cons_succ]
  rw [if_neg (by omega), if_neg (by omega), if_neg (by omega), if_pos (by omega), if_pos (by omega), show (((240 + r / 262144) % 8 * 64 + (128 + r / 4096 % 64) % 64) * 64 + (128 + r / 64 % 64) % 64) * 64 + (128 + r % 64) % 64 = r by omega]
  unfold finV
  rw [if_neg (by rw [h]; simp; omega)]
  simp
theorem runeV_bytes (r : Int) : Bytes (runeV r) := by
  unfold runeV
  by_cases h : mayB r = true
  · have hr : 0 ≤ r ∧ r ≤ 1114111 := by unfold mayB at h; simp at h; omega
    rw [if_pos h]
    by_cases h1 : r < 128
    · rw [if_pos h1]; exact Bytes.cons (by omega) (by omega) Bytes.nil
    rw [if_neg h1]
    by_cases h2 : r < 2048
    · rw [if_pos h2]; exact Bytes.cons (by omega) (by omega) (Bytes.cons (by omega) (by omega) Bytes.nil)
    rw [if_neg h2]
    by_cases h3 : r < 65536
    · rw [if_pos h3]; exact Bytes.cons (by omega) (by omega) (Bytes.cons (by omega) (by omega) (Bytes.cons (by omega) (by omega) Bytes.nil))
    rw [if_neg h3]; exact Bytes.cons (by omega) (by omega) (Bytes.cons (by omega) (by omega) (Bytes.cons (by omega) (by omega) (Bytes.cons (by omega) (by omega) Bytes.nil)))
  · rw [if_neg h]; exact Bytes.nil
theorem runeV_pos (r : Int) (h : mayB r = true) : 1 ≤ (runeV r).length := by
  unfold runeV
  rw [if_pos h]
  repeat' split
  all_goals simp
theorem DrawRuneBytes_some (l : List Int) (hb : l.length ≤ 1000000000000000000) : ∃ r, Ev (fun k => spec_DrawRuneBytes.f k l) r := by
  unfold spec_DrawRuneBytes.f
  obtain ⟨h, hh⟩ := ev_l1New l hb
  obtain ⟨t, i1, g1, e1, p1⟩ := l1Once_some l 0 h 4 hb (by omega)
  by_cases c : t = true
  · obtain ⟨q, i2, g2, e2, _, p2⟩ := l1Pick_some l i1 g1 [(-1), 55296, 57343, 1114112, 9223372036854775807, (-9223372036854775808)] hb p1 (by decide) (by decide)
    exact ⟨_, Ev.bind hh (ev_bind0 e1 (ev_if_pos c (ev_bind0 e2 (Ev.now _))))⟩
  · obtain ⟨u, i2, g2, e2, p2⟩ := l1drawRune_some l i1 g1 hb p1
    exact ⟨_, Ev.bind hh (ev_bind0 e1 (ev_if_neg c (ev_bind0 e2 (Ev.now _))))⟩
theorem FnRuneBytes : laws_FnRuneBytes.Pure := by
  intro l hm hm1 hw
  have e : Ev (fun n => laws_FnRuneBytes.f n l) true := by
    unfold laws_FnRuneBytes.f
    obtain ⟨r, hr⟩ := DrawRuneBytes_some l (by omega)
    refine Ev.bind hr (Ev.bind (ev_impl_RuneBytes r) ?_)
    have hlen := runeV_len r
    by_cases h : mayB r = true
    · have hp := runeV_pos r h
      have hB := runeV_bytes r
      refine ev_if_neg (by omega) (ev_bind0 rfl (ev_if_pos (by simp; omega) (ev_bind0 rfl (ev_if_pos (by simp; omega) ?_))))
      have hd : ((([97] : List Int) ++ runeV r ++ [122]).drop (1 : Int).toNat) = runeV r ++ [122] := by simp
      have hbb : Bytes (runeV r ++ [122]) := hB.append (Bytes.cons (by omega) (by omega) Bytes.nil)
      have hv := ev_impl_runeAt (runeV r ++ [122]) hbb (by simp)
      rw [dec_rune r h [122]] at hv
      have ha : Ev (fun k => impl_RuneAt.f k (([97] : List Int) ++ runeV r ++ [122]) 1) (r, ((runeV r).length : Int)) := by
        unfold impl_RuneAt.f
        refine ev_bind0 (within_eq _ _ _) (ev_if_pos ?_ (ev_if_pos (by omega) (ev_if_pos (by simp; omega) ?_)))
        · rw [w64 (by omega) (by simp; omega)]; simp; omega
        · rw [hd]
          exact Ev.bind hv (Ev.now _)
      refine Ev.bind ha (ev_if_pos rfl ?_)
      simp
      exact Ev.now _
    · have hz : (runeV r).length = 0 := by unfold runeV; rw [if_neg h]; rfl
      refine ev_if_pos (by omega) ?_
      have hn : r < 0 ∨ r > 1114111 ∨ (r ≥ 55296 ∧ r ≤ 57343) := by
        unfold mayB at h
        simp at h
        omega
      by_cases h1 : r < 0
      · exact ev_if_pos h1 (Ev.now _)
      · refine ev_if_neg h1 ?_
        by_cases h2 : r > 1114111
        · exact ev_if_pos h2 (Ev.now _)
        · refine ev_if_neg h2 (ev_if_pos (by omega) ?_)
          rw [decide_eq_true (by omega)]
          exact Ev.now _
  exact e.rounds

end Go.Proofs.Ytlefbfdeelldjaa.Pure
