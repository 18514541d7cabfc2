/- The pure statement of the law FnRunes: at every input that its guards let in the program's answer is the reference's. -/
import Derived.Test.YtlefbfdeelldjaaPFnRunesx4
import Derived.Test.YtlefbfdeelldjaaVFnRunesb
import Derived.WalkKit
namespace Go.Proofs.Ytlefbfdeelldjaa.Pure
open Go.RowKit Go.Proofs.Ytlefbfdeelldjaa.PFnRunes Go.Proofs.YtlefbfdeelldjaaW.PrintWords Go.Proofs.YtlefbfdeelldjaaW.PrintLast Go.Proofs.Ytlefbfdeelldjaa.Lib
set_option linter.unusedVariables false
set_option linter.unusedSimpArgs false

/-! #### l1draws -/
/-- A byte drawn: there is one; the cursor stays where it may read. -/
theorem l1Byte_some (b : List Int) (i h : Int) (hb : b.length ≤ 1000000000000000000) (h0 : 0 ≤ i) : ∃ x j g, spec_l1Byte.f b i h = some (x, j, g) ∧ 0 ≤ x ∧ x ≤ 255 ∧ 0 ≤ j := by
  unfold spec_l1Byte.f
  by_cases h1 : i < (b.length : Int)
  · rw [if_pos h1, if_pos h0]
    exact ⟨_, _, _, rfl, (and255_bd _).1, (and255_bd _).2, by rw [w64 (by omega) (by omega)]; omega⟩
  · rw [if_neg h1]
    exact ⟨_, _, _, rfl, (and255_bd _).1, (and255_bd _).2, h0⟩
theorem l1Below_some (b : List Int) (i h n : Int) (hb : b.length ≤ 1000000000000000000) (h0 : 0 ≤ i) : ∃ x j g, spec_l1Below.f b i h n = some (x, j, g) ∧ 0 ≤ x ∧ (0 < n → x < n) ∧ x ≤ 4294967295 ∧ 0 ≤ j := by
  unfold spec_l1Below.f
  by_cases h1 : n ≤ 0
  · rw [if_pos h1]
    exact ⟨_, _, _, rfl, Int.le_refl _, fun h => by omega, by omega, h0⟩
  rw [if_neg h1]
  obtain ⟨x, i1, g1, e1, x0, x1, p1⟩ := l1Byte_some b i h hb h0
  by_cases h2 : n ≤ 256
  · rw [if_pos h2, e1]
    simp only [Option.bind_some]
    rw [if_neg (by omega), tm _ _ x0]
    have a1 := Int.emod_nonneg x (show n ≠ 0 by omega)
    have a2 := Int.emod_lt_of_pos x (show 0 < n by omega)
    exact ⟨_, _, _, rfl, a1, fun _ => a2, by omega, p1⟩
  · rw [if_neg h2, e1]
    simp only [Option.bind_some]
    obtain ⟨y, i2, g2, e2, y0, y1, p2⟩ := l1Byte_some b i1 g1 hb p1
    rw [e2]
    simp only [Option.bind_some]
    obtain ⟨z, i3, g3, e3, z0, z1, p3⟩ := l1Byte_some b i2 g2 hb p2
    rw [e3]
    simp only [Option.bind_some]
    obtain ⟨u, i4, g4, e4, u0, u1, p4⟩ := l1Byte_some b i3 g3 hb p3
    rw [e4]
    simp only [Option.bind_some]
    rw [if_neg (by omega), w64 (x := x * 16777216) (by omega) (by omega), w64 (x := y * 65536) (by omega) (by omega), w64 (x := z * 256) (by omega) (by omega), w64 (x := x * 16777216 + y * 65536) (by omega) (by omega), w64 (x := x * 16777216 + y * 65536 + z * 256) (by omega) (by omega), w64 (by omega) (by omega), tm _ _ (by omega)]
    have a1 := Int.emod_nonneg (x * 16777216 + y * 65536 + z * 256 + u) (show n ≠ 0 by omega)
    have a2 := Int.emod_lt_of_pos (x * 16777216 + y * 65536 + z * 256 + u) (show 0 < n by omega)
    have a4 : (x * 16777216 + y * 65536 + z * 256 + u) % n ≤ x * 16777216 + y * 65536 + z * 256 + u := by
      have h5 := Int.mul_ediv_add_emod (x * 16777216 + y * 65536 + z * 256 + u) n
      have h6 : 0 ≤ (x * 16777216 + y * 65536 + z * 256 + u) / n := Int.ediv_nonneg (by omega) (by omega)
      have h7 : 0 ≤ n * ((x * 16777216 + y * 65536 + z * 256 + u) / n) := Int.mul_nonneg (by omega) h6
      omega
    exact ⟨_, _, _, rfl, a1, fun _ => a2, by omega, p4⟩
theorem l1Once_some (b : List Int) (i h n : Int) (hb : b.length ≤ 1000000000000000000) (h0 : 0 ≤ i) : ∃ t j g, spec_l1Once.f b i h n = some (t, j, g) ∧ 0 ≤ j := by
  unfold spec_l1Once.f
  obtain ⟨x, j, g, e, _, _, _, p⟩ := l1Below_some b i h n hb h0
  rw [e]
  exact ⟨_, _, _, rfl, p⟩
theorem l1Pick_some (b : List Int) (i h : Int) (l : List Int) (hb : b.length ≤ 1000000000000000000) (h0 : 0 ≤ i) (hl : 0 < l.length) (hl2 : l.length ≤ 256) : ∃ q j g, spec_l1PickInt.f b i h l = some (l.getD q 0, j, g) ∧ q < l.length ∧ 0 ≤ j := by
  unfold spec_l1PickInt.f
  obtain ⟨x, j, g, e, x0, x1, _, p⟩ := l1Below_some b i h (l.length : Int) hb h0
  have x2 := x1 (by omega)
  rw [e]
  simp only [Option.bind_some]
  rw [if_pos x0, if_pos x2]
  refine ⟨x.toNat, j, g, ?_, by omega, p⟩
  rfl
theorem ev_l1New (b : List Int) (hb : b.length ≤ 1000000000000000000) : ∃ h, Ev (fun k => spec_l1New.f k b) (b, 0, h) := by
  unfold spec_l1New.f
  generalize wrap64 (38282 + (b.length : Int)) = h0
  have key : ∀ (d : Nat) (i : Nat) (h : Int), i + d = 4001 → ∃ g, Ev (fun k => spec_l1New.l0 k b h (i : Int)) (b, 0, g) := by
    intro d
    induction d with
    | zero =>
      intro i h hd
      refine ⟨h, Ev.step (f := fun _ => some (b, 0, h)) (fun k => ?_) (Ev.now _)⟩
      simp only [spec_l1New.l0]
      by_cases h1 : (i : Int) < (b.length : Int)
      · rw [if_pos h1, if_neg (by omega)]
      · rw [if_neg h1]
    | succ d ih =>
      intro i h hd
      by_cases h1 : (i : Int) < (b.length : Int)
      · by_cases h2 : (i : Int) < 4000
        · obtain ⟨g, hg⟩ := ih (i + 1) (Go.bits .and .i64 (wrap64 ((wrap64 ((wrap64 (h * 131)) + (wrap64 (rd b (i : Int))))) + 7)) 1073741823) (by omega)
          refine ⟨g, Ev.step (fun k => ?_) hg⟩
          simp only [spec_l1New.l0]
          rw [if_pos h1, if_pos h2, if_pos (by omega), w64 (x := (i : Int) + 1) (by omega) (by omega), show (i : Int) + 1 = ((i + 1 : Nat) : Int) by omega]
        · refine ⟨h, Ev.step (f := fun _ => some (b, 0, h)) (fun k => ?_) (Ev.now _)⟩
          simp only [spec_l1New.l0]
          rw [if_pos h1, if_neg h2]
      · refine ⟨h, Ev.step (f := fun _ => some (b, 0, h)) (fun k => ?_) (Ev.now _)⟩
        simp only [spec_l1New.l0]
        rw [if_neg h1]
  exact key 4001 0 h0 (by omega)

/-! #### l1rune -/
theorem l1drawRune_some (b : List Int) (i h : Int) (hb : b.length ≤ 1000000000000000000) (h0 : 0 ≤ i) : ∃ t j g, spec_l1drawRune.f b i h = some (t, j, g) ∧ 0 ≤ j := by
  unfold spec_l1drawRune.f
  obtain ⟨t, i1, g1, e1, p1⟩ := l1Once_some b i h 3 hb h0
  rw [e1]
  simp only [Option.bind_some]
  by_cases c : t = true
  · rw [if_pos c]
    obtain ⟨q, i2, g2, e2, _, p2⟩ := l1Pick_some b i1 g1 [0, 127, 128, 2047, 2048, 65535, 65536, 1114111, 55295, 57344, 65533, 8722, 160, 12288] hb p1 (by decide) (by decide)
    rw [e2]
    exact ⟨_, _, _, rfl, p2⟩
  · rw [if_neg c]
    obtain ⟨u, i2, g2, e2, p2⟩ := l1Once_some b i1 g1 2 hb p1
    rw [e2]
    simp only [Option.bind_some]
    by_cases c2 : u = true
    · rw [if_pos c2]
      obtain ⟨q, i3, g3, e3, _, p3⟩ := l1Pick_some b i2 g2 [48, 1632, 1776, 2406, 65296] hb p2 (by decide) (by decide)
      rw [e3]
      simp only [Option.bind_some]
      obtain ⟨x, i4, g4, e4, _, _, _, p4⟩ := l1Below_some b i3 g3 10 hb p3
      rw [e4]
      exact ⟨_, _, _, rfl, p4⟩
    · rw [if_neg c2]
      obtain ⟨x, i3, g3, e3, _, _, _, p3⟩ := l1Below_some b i2 g2 95 hb p2
      rw [e3]
      exact ⟨_, _, _, rfl, p3⟩

/-! #### mayS -/
theorem spec_l1may_eq (r : Int) : spec_l1may.f r = some (mayB r) := by
  unfold spec_l1may.f mayB
  by_cases h0 : r ≥ 0
  · rw [if_pos h0]
    by_cases h1 : r ≤ 1114111
    · rw [if_pos h1]
      by_cases h2 : r < 55296
      · rw [if_pos h2]; simp; omega
      · rw [if_neg h2]; exact congrArg some (decide_eq_decide.mpr (by omega))
    · rw [if_neg h1]; simp; omega
  · rw [if_neg h0]; simp; omega

/-! #### runeV -/
/-- The bytes of a code point. -/
def runeV (r : Int) : List Int :=
  if mayB r = true then
    if r < 128 then [r] else if r < 2048 then [192 + r / 64, 128 + r % 64]
    else if r < 65536 then [224 + r / 4096, 128 + r / 64 % 64, 128 + r % 64]
    else [240 + r / 262144, 128 + r / 4096 % 64, 128 + r / 64 % 64, 128 + r % 64]
  else []
theorem runeV_len (r : Int) : (runeV r).length ≤ 4 := by
  unfold runeV
  repeat' split
  all_goals simp

/-! #### RuneBytesS -/
theorem spec_RuneBytes_eq (r : Int) : spec_RuneBytes.f r = some (runeV r) := by
  unfold spec_RuneBytes.f runeV
  rw [spec_l1may_eq]
  simp only [Option.bind_some]
  by_cases h : mayB r = true
  · rw [if_pos h, if_pos h]
    have hr : 0 ≤ r ∧ r ≤ 1114111 := by unfold mayB at h; simp at h; omega
    by_cases h1 : r < 128
    · rw [if_pos h1, if_pos h1, show r % 256 = r by omega]
    rw [if_neg h1, if_neg h1, td _ 64 (by omega), tm r 64 (by omega), td _ 4096 (by omega), td _ 262144 (by omega), w64 (x := r / 64) (by omega) (by omega), w64 (x := r / 4096) (by omega) (by omega), w64 (x := r / 262144) (by omega) (by omega), tm (r / 64) 64 (by omega), tm (r / 4096) 64 (by omega)]
    by_cases h2 : r < 2048
    · rw [if_pos h2, if_pos h2, w64 (by omega) (by omega), w64 (by omega) (by omega), show (192 + r / 64) % 256 = 192 + r / 64 by omega, show (128 + r % 64) % 256 = 128 + r % 64 by omega]
    rw [if_neg h2, if_neg h2]
    by_cases h3 : r < 65536
    · rw [if_pos h3, if_pos h3, w64 (by omega) (by omega), w64 (by omega) (by omega), w64 (by omega) (by omega), show (224 + r / 4096) % 256 = 224 + r / 4096 by omega, show (128 + r / 64 % 64) % 256 = 128 + r / 64 % 64 by omega, show (128 + r % 64) % 256 = 128 + r % 64 by omega]
    rw [if_neg h3, if_neg h3, w64 (by omega) (by omega), w64 (by omega) (by omega), w64 (by omega) (by omega), w64 (by omega) (by omega), show (240 + r / 262144) % 256 = 240 + r / 262144 by omega, show (128 + r / 4096 % 64) % 256 = 128 + r / 4096 % 64 by omega, show (128 + r / 64 % 64) % 256 = 128 + r / 64 % 64 by omega, show (128 + r % 64) % 256 = 128 + r % 64 by omega]
  · rw [if_neg h, if_neg h]

/-! #### decRune -/
theorem dec_rune (r : Int) (h : mayB r = true) (t : List Int) : decV (runeV r ++ t) = (r, ((runeV r).length : Int)) := by
  have hr : 0 ≤ r ∧ r ≤ 1114111 := by unfold mayB at h; simp at h; omega
  unfold runeV
  rw [if_pos h]
  by_cases h1 : r < 128
  · rw [if_pos h1]
    simp only [decV, dec4, List.cons_append, List.nil_append, List.getD_cons_zero]
    rw [if_pos h1]
    simp
  rw [if_neg h1]
  by_cases h2 : r < 2048
  · rw [if_pos h2]
    simp only [decV, dec4, List.cons_append, List.nil_append, List.getD_cons_zero, List.getD_cons_succ]
    rw [if_neg (by omega), if_pos (by omega), if_pos (by omega), show (192 + r / 64) % 32 * 64 + (128 + r % 64) % 64 = r by omega]
    unfold finV
    rw [if_neg (by rw [h]; simp; omega)]
    simp
  rw [if_neg h2]
  by_cases h3 : r < 65536
  · rw [if_pos h3]
    simp only [decV, dec4, List.cons_append, List.nil_append, List.getD_cons_zero, List.getD_cons_succ]
    rw [if_neg (by omega), if_neg (by omega), if_pos (by omega), if_pos (by omega), show ((224 + r / 4096) % 16 * 64 + (128 + r / 64 % 64) % 64) * 64 + (128 + r % 64) % 64 = r by omega]
    unfold finV
    rw [if_neg (by rw [h]; simp; omega)]
    simp
  rw [if_neg h3]
  simp only [decV, dec4, List.cons_append, List.nil_append, List.getD_cons_zero, List.getD_cons_succ]
  rw [if_neg (by omega), if_neg (by omega), if_neg (by omega), if_pos (by omega), if_pos (by omega), show (((240 + r / 262144) % 8 * 64 + (128 + r / 4096 % 64) % 64) * 64 + (128 + r / 64 % 64) % 64) * 64 + (128 + r % 64) % 64 = r by omega]
  unfold finV
  rw [if_neg (by rw [h]; simp; omega)]
  simp
theorem runeV_bytes (r : Int) : Bytes (runeV r) := by
  unfold runeV
  by_cases h : mayB r = true
  · have hr : 0 ≤ r ∧ r ≤ 1114111 := by unfold mayB at h; simp at h; omega
    rw [if_pos h]
    by_cases h1 : r < 128
    · rw [if_pos h1]; exact Bytes.cons (by omega) (by omega) Bytes.nil
    rw [if_neg h1]
    by_cases h2 : r < 2048
    · rw [if_pos h2]; exact Bytes.cons (by omega) (by omega) (Bytes.cons (by omega) (by omega) Bytes.nil)
    rw [if_neg h2]
    by_cases h3 : r < 65536
    · rw [if_pos h3]; exact Bytes.cons (by omega) (by omega) (Bytes.cons (by omega) (by omega) (Bytes.cons (by omega) (by omega) Bytes.nil))
    rw [if_neg h3]; exact Bytes.cons (by omega) (by omega) (Bytes.cons (by omega) (by omega) (Bytes.cons (by omega) (by omega) (Bytes.cons (by omega) (by omega) Bytes.nil)))
  · rw [if_neg h]; exact Bytes.nil
theorem runeV_pos (r : Int) (h : mayB r = true) : 1 ≤ (runeV r).length := by
  unfold runeV
  rw [if_pos h]
  repeat' split
  all_goals simp

/-! #### l1draw -/
theorem ev_l1draw (b : List Int) (i h : Int) (hb : b.length ≤ 1000000000000000000) (h0 : 0 ≤ i) : ∃ l j g, Ev (fun k => spec_l1draw.f k b i h) (l, j, g) ∧ Bytes l ∧ l.length ≤ 1000 := by
  have zb : ∀ n : Nat, Bytes (List.replicate n 0) := fun n x hx => by rw [List.eq_of_mem_replicate hx]; omega
  have tail : ∀ (x : List Int) (i h : Int) (t : Bool) (j g : Int), spec_l1Once.f b i h 40 = some (t, j, g) → Bytes x → x.length ≤ 500 →
      ∃ l j' g', Ev (fun k => (spec_l1Once.f b i h 40).bind fun bt301 => (if bt301.1 = true then (if x.length + 400 < 140737488355328 then (some ((x ++ List.replicate 400 0), bt301.2.1, bt301.2.2)) else (none)) else (some (x, bt301.2.1, bt301.2.2)))) (l, j', g') ∧ Bytes l ∧ l.length ≤ 1000 := by
    intro x i h t j g e hx hl
    cases t with
    | true => exact ⟨_, _, _, ev_bind0 e (ev_if_pos rfl (ev_if_pos (by omega) (Ev.now _))), hx.append (zb 400), by simp only [List.length_append, List.length_replicate]; omega⟩
    | false => exact ⟨_, _, _, ev_bind0 e (ev_if_neg (by simp) (Ev.now _)), hx, by omega⟩
  have last : ∀ (x : List Int) (t : Bool) (i h : Int), Bytes x → x.length ≤ 100 → (t = true → 0 < x.length) → 0 ≤ i → ∃ l j g, Ev (fun k => spec_l1draw.j1 k x t b i h) (l, j, g) ∧ Bytes l ∧ l.length ≤ 1000 := by
    intro x t i h hx hl ht h0
    cases t with
    | false =>
      obtain ⟨t, j, g, e, p⟩ := l1Once_some b i h 40 hb h0
      obtain ⟨l, j', g', k1, k2⟩ := tail x i h t j g e hx (by omega)
      exact ⟨l, j', g', Ev.step (fun k => by simp only [spec_l1draw.j1]; rfl) (ev_if_neg (show ¬ (false = true) by simp) k1), k2⟩
    | true =>
      have hp := ht rfl
      obtain ⟨y, j1, g1, e1, y0, y1, _, p1⟩ := l1Below_some b i h (x.length : Int) hb h0
      have y2 := y1 (by omega)
      obtain ⟨z, j2, g2, e2, z0, z1, _, p2⟩ := l1Below_some b j1 g1 3 hb p1
      by_cases c0 : z = 0
      · obtain ⟨u, j3, g3, e3, u0, u1, p3⟩ := l1Byte_some b j2 g2 hb p2
        obtain ⟨t, j4, g4, e4, p4⟩ := l1Once_some b j3 g3 40 hb p3
        have hs : Bytes (x.set y.toNat (u % 256)) := by
          intro v hv
          rcases List.mem_or_eq_of_mem_set hv with hv | hv
          · exact hx v hv
          · rw [hv]; omega
        obtain ⟨l, j', g', k1, k2⟩ := tail (x.set y.toNat (u % 256)) j3 g3 t j4 g4 e4 hs (by simp; omega)
        exact ⟨l, j', g', Ev.step (fun k => by simp only [spec_l1draw.j1]; rfl) (ev_if_pos (show true = true from rfl) (ev_bind0 e1 (ev_bind0 e2 (ev_if_pos c0 (ev_bind0 e3 (ev_if_pos y0 (ev_if_pos y2 (ev_bind0 rfl k1)))))))), k2⟩
      by_cases c1 : z = 1
      · obtain ⟨t, j4, g4, e4, p4⟩ := l1Once_some b j2 g2 40 hb p2
        obtain ⟨l, j', g', k1, k2⟩ := tail (x.take y.toNat) j2 g2 t j4 g4 e4 (hx.take _) (by rw [List.length_take]; omega)
        exact ⟨l, j', g', Ev.step (fun k => by simp only [spec_l1draw.j1]; rfl) (ev_if_pos (show true = true from rfl) (ev_bind0 e1 (ev_bind0 e2 (ev_if_neg c0 (ev_if_pos c1 (ev_if_pos y0 (ev_if_pos (show y ≤ (x.length : Int) by omega) (ev_bind0 rfl k1)))))))), k2⟩
      obtain ⟨q, j3, g3, e3, q1, p3⟩ := l1Pick_some b j2 g2 [192, 193, 224, 237, 240, 244, 245, 255, 128, 191] hb p2 (by decide) (by decide)
      obtain ⟨w, hw⟩ : ∃ w, w = ([192, 193, 224, 237, 240, 244, 245, 255, 128, 191] : List Int).getD q 0 := ⟨_, rfl⟩
      rw [← hw] at e3
      obtain ⟨t, j4, g4, e4, p4⟩ := l1Once_some b j3 g3 40 hb p3
      have lt := List.length_take_le y.toNat x
      have ld : (x.drop y.toNat).length ≤ x.length := by rw [List.length_drop]; omega
      obtain ⟨l, j', g', k1, k2⟩ := tail ((([] ++ x.take y.toNat) ++ [w % 256]) ++ x.drop y.toNat) j3 g3 t j4 g4 e4 (((Bytes.nil.append (hx.take _)).append (Bytes.cons (by omega) (by omega) Bytes.nil)).append (hx.drop _)) (by simp only [List.length_append, List.length_cons, List.length_nil]; omega)
      refine ⟨l, j', g', Ev.step (fun k => by simp only [spec_l1draw.j1]; rfl) (ev_if_pos (show true = true from rfl) (ev_bind0 e1 (ev_bind0 e2 (ev_if_neg c0 (ev_if_neg c1 (ev_bind0 e3 (ev_bind0 rfl (ev_if_pos y0 (ev_if_pos (show y ≤ (x.length : Int) by omega) (ev_bind0 rfl ?_)))))))))), k2⟩
      refine ev_if_pos (by simp only [List.length_nil]; omega) (ev_bind0 rfl (ev_bind0 rfl (ev_if_pos (by simp only [List.length_append, List.length_cons, List.length_nil]; omega) (ev_bind0 rfl (ev_bind0 rfl (ev_if_pos (by simp only [List.length_append, List.length_cons, List.length_nil]; omega) (ev_bind0 rfl k1)))))))
  have key : ∀ (d : Nat) (x : List Int) (n c i h : Int), Bytes x → 0 ≤ c → x.length ≤ 4 * c → n ≤ 9 → n - c ≤ d → c ≤ 9 → 0 ≤ i → ∃ l j g, Ev (fun k => spec_l1draw.l0 k x n c b i h) (l, j, g) ∧ Bytes l ∧ l.length ≤ 1000 := by
    intro d
    induction d with
    | zero =>
      intro x n c i h hx c0 hl hn hd c9 h0
      obtain ⟨t, j, g, e, p⟩ := l1Once_some b i h 3 hb h0
      cases t with
      | true =>
        obtain ⟨l, j', g', k1, k2⟩ := last x (decide ((x.length : Int) > 0)) j g hx (by omega) (fun z => by have := of_decide_eq_true z; omega) p
        exact ⟨l, j', g', Ev.step (fun k => by simp only [spec_l1draw.l0]; rfl) (ev_if_neg (by omega) (ev_bind0 e (ev_if_pos rfl k1))), k2⟩
      | false =>
        obtain ⟨l, j', g', k1, k2⟩ := last x false j g hx (by omega) (by simp) p
        exact ⟨l, j', g', Ev.step (fun k => by simp only [spec_l1draw.l0]; rfl) (ev_if_neg (by omega) (ev_bind0 e (ev_if_neg (show ¬ (false = true) by simp) k1))), k2⟩
    | succ d ih =>
      intro x n c i h hx c0 hl hn hd c9 h0
      by_cases hc : c < n
      · obtain ⟨r, j, g, e, p⟩ := l1drawRune_some b i h hb h0
        have hr := runeV_len r
        obtain ⟨l, j', g', k1, k2⟩ := ih (x ++ runeV r) n (c + 1) j g (hx.append (runeV_bytes r)) (by omega) (by simp only [List.length_append]; omega) hn (by omega) (by omega) p
        refine ⟨l, j', g', Ev.step (fun k => by simp only [spec_l1draw.l0]; rfl) (ev_if_pos hc (ev_bind0 e (ev_bind0 (spec_RuneBytes_eq r) (ev_if_pos (show x.length + (runeV r).length < 140737488355328 by omega) ?_)))), k2⟩
        rw [w64 (by omega) (by omega)]
        exact k1
      · obtain ⟨t, j, g, e, p⟩ := l1Once_some b i h 3 hb h0
        cases t with
        | true =>
          obtain ⟨l, j', g', k1, k2⟩ := last x (decide ((x.length : Int) > 0)) j g hx (by omega) (fun z => by have := of_decide_eq_true z; omega) p
          exact ⟨l, j', g', Ev.step (fun k => by simp only [spec_l1draw.l0]; rfl) (ev_if_neg hc (ev_bind0 e (ev_if_pos rfl k1))), k2⟩
        | false =>
          obtain ⟨l, j', g', k1, k2⟩ := last x false j g hx (by omega) (by simp) p
          exact ⟨l, j', g', Ev.step (fun k => by simp only [spec_l1draw.l0]; rfl) (ev_if_neg hc (ev_bind0 e (ev_if_neg (show ¬ (false = true) by simp) k1))), k2⟩
  unfold spec_l1draw.f
  obtain ⟨n, j, g, e, n0, n1, _, p⟩ := l1Below_some b i h 9 hb h0
  obtain ⟨l, j', g', k1, k2⟩ := key 9 [] n 0 j g Bytes.nil (by omega) (by simp) (by have := n1 (by omega); omega) (by have := n1 (by omega); omega) (by omega) p
  exact ⟨l, j', g', ev_bind0 e k1, k2⟩

/-! #### within -/
theorem within_eq (a b c : Int) : impl_within.f a b c = some (decide (b ≤ a ∧ a ≤ c)) := by
  unfold impl_within.f
  by_cases h : b ≤ a <;> simp [h]

/-! #### mayI -/
theorem impl_isPoint_eq (r : Int) : impl_isPoint.f r = some (mayB r) := by
  unfold impl_isPoint.f mayB
  simp only [within_eq, Option.bind_some, decide_eq_true_eq]
  by_cases h : 0 ≤ r ∧ r ≤ 1114111
  · rw [if_pos h, ← decide_not]; exact congrArg some (decide_eq_decide.mpr (by omega))
  · rw [if_neg h]; simp; omega

/-! #### dropG -/
theorem drop_getD (l : List Int) (i j : Nat) : (l.drop i).getD j 0 = rd l ((i : Int) + j) := by
  rw [show (i : Int) + (j : Int) = ((i + j : Nat) : Int) by omega, rd_nat, List.getD_eq_getElem?_getD, List.getD_eq_getElem?_getD, List.getElem?_drop]

/-! #### runeAt -/
theorem impl_sizeOf_eq (r : Int) : impl_sizeOf.f r = some (if r < 128 then 1 else if r < 2048 then 2 else if r < 65536 then 3 else 4) := by
  unfold impl_sizeOf.f
  by_cases h1 : r < 128
  · rw [if_pos h1, if_pos h1]
  rw [if_neg h1, if_neg h1]
  by_cases h2 : r < 2048
  · rw [if_pos h2, if_pos h2]
  rw [if_neg h2, if_neg h2]
  by_cases h3 : r < 65536
  · rw [if_pos h3, if_pos h3]
  · rw [if_neg h3, if_neg h3]
theorem impl_leadSize_eq (x : Int) (h0 : 0 ≤ x) (h1 : x ≤ 255) : impl_leadSize.f x = some (if 192 ≤ x ∧ x ≤ 223 then (2, x % 32) else if 224 ≤ x ∧ x ≤ 239 then (3, x % 16) else if 240 ≤ x ∧ x ≤ 247 then (4, x % 8) else (0, 0)) := by
  unfold impl_leadSize.f
  simp only [within_eq, Option.bind_some, decide_eq_true_eq]
  rw [and_31 _ h0 (by omega), and_15 _ h0 (by omega), and_7 _ h0 (by omega)]
  by_cases a : 192 ≤ x ∧ x ≤ 223
  · rw [if_pos a, if_pos a]
  rw [if_neg a, if_neg a]
  by_cases b : 224 ≤ x ∧ x ≤ 239
  · rw [if_pos b, if_pos b]
  rw [if_neg b, if_neg b]
  by_cases c : 240 ≤ x ∧ x ≤ 247
  · rw [if_pos c, if_pos c]
  · rw [if_neg c, if_neg c]
/-- What a rune's bytes told, looked at last. -/
theorem impl_fin_eq (r least n : Int) (h : (if r < 128 then (1 : Int) else if r < 2048 then 2 else if r < 65536 then 3 else 4) = n ↔ ¬ r < least) :
    ((impl_isPoint.f r).bind fun t126 => (if t126 = true then ((impl_sizeOf.f r).bind fun t127 => (if t127 = n then (some (r, n)) else (some (65533, 1)))) else (some ((65533 : Int), (1 : Int))))) = some (finV r least n) := by
  rw [impl_isPoint_eq, impl_sizeOf_eq]
  simp only [Option.bind_some]
  unfold finV
  by_cases a : mayB r = true
  · rw [if_pos a]
    by_cases b : r < least
    · rw [if_neg (fun z => (h.1 z) b), if_pos (.inl b)]
    · rw [if_pos (h.2 b), if_neg (by simp [a]; omega)]
  · rw [if_neg a, if_pos (.inr (by simpa using a))]
theorem impl_step (k : Nat) (n r : Int) (q : List Int) (i : Nat) (hi : i < q.length) (hq : Bytes q) (hl : q.length ≤ 3) (r0 : 0 ≤ r) (r1 : r ≤ 1000000) :
    impl_runeAt.l0 (k + 1) n r q (q.length : Int) (i : Int) = if 128 ≤ rd q i ∧ rd q i ≤ 191 then impl_runeAt.l0 k n (r * 64 + rd q i % 64) q (q.length : Int) ((i + 1 : Nat) : Int) else some (65533, 1) := by
  have hx := hq.at_ (i : Int)
  simp only [impl_runeAt.l0]
  rw [if_pos (by omega), if_pos (by omega), if_pos (by omega), orc _ _ r0 r1 hx.1 hx.2, w64 (x := (i : Int) + 1) (by omega) (by omega)]
  by_cases h : 128 ≤ rd q i ∧ rd q i ≤ 191
  · rw [if_pos h, if_pos (by omega)]; rfl
  · rw [if_neg h, if_neg (by omega)]
theorem impl_stop (k : Nat) (n r : Int) (q : List Int) : impl_runeAt.l0 (k + 1) n r q (q.length : Int) (q.length : Int) = ((impl_isPoint.f r).bind fun t126 => (if t126 = true then ((impl_sizeOf.f r).bind fun t127 => (if t127 = n then (some (r, n)) else (some (65533, 1)))) else (some (65533, 1)))) := by
  simp only [impl_runeAt.l0]
  rw [if_neg (by omega)]
theorem ev_impl_runeAt (l : List Int) (hb : Bytes l) (h : 0 < l.length) : Ev (fun k => impl_runeAt.f k l) (decV l) := by
  have key : impl_runeAt.f 9 l = some (decV l) := by
    rcases l with _ | ⟨x, l⟩
    · cases h
    have hx := hb.head
    have hb := hb.tail
    unfold impl_runeAt.f decV
    rw [if_pos (by simp only [List.length_cons]; omega), show rd (x :: l) 0 = x from rfl, w64 (x := x) (by omega) (by omega), impl_leadSize_eq x hx.1 hx.2, Option.bind_some]
    show _ = some (dec4 x (l.getD 0 0) (l.getD 1 0) (l.getD 2 0))
    unfold dec4
    by_cases a0 : x < 128
    · rw [if_pos a0, if_pos a0]
    rw [if_neg a0, if_neg a0]
    by_cases a1 : 192 ≤ x ∧ x ≤ 223
    · rw [if_pos a1, if_pos a1, if_neg (by simp)]
      rcases l with _ | ⟨c1, l⟩
      · rfl
      have b1 := hb.head
      have hq : Bytes [c1] := Bytes.cons b1.1 b1.2 Bytes.nil
      have e : ((x :: c1 :: l).take ((2 : Int)).toNat).drop 1 = [c1] := rfl
      simp only [impl_runeAt.j0]
      rw [if_neg (by simp; omega), if_pos (by decide), if_pos (by simp only [List.length_cons]; omega), e, show (0 : Int) = ((0 : Nat) : Int) from rfl, impl_step 7 2 _ _ 0 (by simp) hq (by simp) (by omega) (by omega), show rd [c1] ((0 : Nat) : Int) = c1 from rfl]
      show _ = some (if 128 ≤ c1 ∧ c1 ≤ 191 then _ else _)
      by_cases g1 : 128 ≤ c1 ∧ c1 ≤ 191
      · rw [if_pos g1, if_pos g1]
        refine (impl_stop 6 2 _ [c1]).trans (impl_fin_eq _ _ _ ?_)
        omega
      · rw [if_neg g1, if_neg g1]
    rw [if_neg a1, if_neg a1]
    by_cases a2 : 224 ≤ x ∧ x ≤ 239
    · rw [if_pos a2, if_pos a2, if_neg (by simp)]
      rcases l with _ | ⟨c1, _ | ⟨c2, l⟩⟩
      · rfl
      · show some _ = some (if (128 ≤ c1 ∧ c1 ≤ 191) ∧ (128 ≤ (0 : Int) ∧ (0 : Int) ≤ 191) then _ else _)
        rw [if_neg (by omega)]
      have b1 := hb.head
      have b2 := hb.tail.head
      have hq : Bytes [c1, c2] := Bytes.cons b1.1 b1.2 (Bytes.cons b2.1 b2.2 Bytes.nil)
      have e : ((x :: c1 :: c2 :: l).take ((3 : Int)).toNat).drop 1 = [c1, c2] := rfl
      simp only [impl_runeAt.j0]
      rw [if_neg (by simp; omega), if_pos (by decide), if_pos (by simp only [List.length_cons]; omega), e, show (0 : Int) = ((0 : Nat) : Int) from rfl, impl_step 7 3 _ _ 0 (by simp) hq (by simp) (by omega) (by omega), show rd [c1, c2] ((0 : Nat) : Int) = c1 from rfl]
      show _ = some (if (128 ≤ c1 ∧ c1 ≤ 191) ∧ (128 ≤ c2 ∧ c2 ≤ 191) then _ else _)
      by_cases g1 : 128 ≤ c1 ∧ c1 ≤ 191
      · rw [if_pos g1, impl_step 6 3 _ _ 1 (by simp) hq (by simp) (by omega) (by omega), show rd [c1, c2] ((1 : Nat) : Int) = c2 from rfl]
        by_cases g2 : 128 ≤ c2 ∧ c2 ≤ 191
        · rw [if_pos g2, if_pos ⟨g1, g2⟩]
          refine (impl_stop 5 3 _ [c1, c2]).trans (impl_fin_eq _ _ _ ?_)
          omega
        · rw [if_neg g2, if_neg (fun z => g2 z.2)]
      · rw [if_neg g1, if_neg (fun z => g1 z.1)]
    rw [if_neg a2, if_neg a2]
    by_cases a3 : 240 ≤ x ∧ x ≤ 247
    · rw [if_pos a3, if_pos a3, if_neg (by simp)]
      rcases l with _ | ⟨c1, _ | ⟨c2, _ | ⟨c3, l⟩⟩⟩
      · rfl
      · show some _ = some (if (128 ≤ c1 ∧ c1 ≤ 191) ∧ (128 ≤ (0 : Int) ∧ (0 : Int) ≤ 191) ∧ (128 ≤ (0 : Int) ∧ (0 : Int) ≤ 191) then _ else _)
        rw [if_neg (by omega)]
      · show some _ = some (if (128 ≤ c1 ∧ c1 ≤ 191) ∧ (128 ≤ c2 ∧ c2 ≤ 191) ∧ (128 ≤ (0 : Int) ∧ (0 : Int) ≤ 191) then _ else _)
        rw [if_neg (by omega)]
      have b1 := hb.head
      have b2 := hb.tail.head
      have b3 := hb.tail.tail.head
      have hq : Bytes [c1, c2, c3] := Bytes.cons b1.1 b1.2 (Bytes.cons b2.1 b2.2 (Bytes.cons b3.1 b3.2 Bytes.nil))
      have e : ((x :: c1 :: c2 :: c3 :: l).take ((4 : Int)).toNat).drop 1 = [c1, c2, c3] := rfl
      simp only [impl_runeAt.j0]
      rw [if_neg (by simp; omega), if_pos (by decide), if_pos (by simp only [List.length_cons]; omega), e, show (0 : Int) = ((0 : Nat) : Int) from rfl, impl_step 7 4 _ _ 0 (by simp) hq (by simp) (by omega) (by omega), show rd [c1, c2, c3] ((0 : Nat) : Int) = c1 from rfl]
      show _ = some (if (128 ≤ c1 ∧ c1 ≤ 191) ∧ (128 ≤ c2 ∧ c2 ≤ 191) ∧ (128 ≤ c3 ∧ c3 ≤ 191) then _ else _)
      by_cases g1 : 128 ≤ c1 ∧ c1 ≤ 191
      · rw [if_pos g1, impl_step 6 4 _ _ 1 (by simp) hq (by simp) (by omega) (by omega), show rd [c1, c2, c3] ((1 : Nat) : Int) = c2 from rfl]
        by_cases g2 : 128 ≤ c2 ∧ c2 ≤ 191
        · rw [if_pos g2, impl_step 5 4 _ _ 2 (by simp) hq (by simp) (by omega) (by omega), show rd [c1, c2, c3] ((2 : Nat) : Int) = c3 from rfl]
          by_cases g3 : 128 ≤ c3 ∧ c3 ≤ 191
          · rw [if_pos g3, if_pos ⟨g1, g2, g3⟩]
            refine (impl_stop 4 4 _ [c1, c2, c3]).trans (impl_fin_eq _ _ _ ?_)
            omega
          · rw [if_neg g3, if_neg (fun z => g3 z.2.2)]
        · rw [if_neg g2, if_neg (fun z => g2 z.2.1)]
      · rw [if_neg g1, if_neg (fun z => g1 z.1)]
    · rw [if_neg a3, if_neg a3, if_pos rfl]
      rfl
  exact Ev.of (fun k => impl_runeAt.mono l k) key

/-! #### runesOf -/
theorem finV_snd (r least n : Int) : (finV r least n).2 = 1 ∨ (finV r least n).2 = n := by
  unfold finV
  split <;> simp
/-- A rune takes some bytes, and no more than there are. -/
theorem decV_snd (b : List Int) (h : b ≠ []) : 1 ≤ (decV b).2 ∧ (decV b).2 ≤ b.length := by
  rcases b with _ | ⟨x, l⟩
  · exact absurd rfl h
  have bad : 1 ≤ ((65533 : Int), (1 : Int)).2 ∧ ((65533 : Int), (1 : Int)).2 ≤ ((x :: l).length : Int) := by simp; omega
  show 1 ≤ (dec4 x (l.getD 0 0) (l.getD 1 0) (l.getD 2 0)).2 ∧ (dec4 x (l.getD 0 0) (l.getD 1 0) (l.getD 2 0)).2 ≤ _
  have out : ∀ i : Nat, 128 ≤ l.getD i 0 → i < l.length := by
    intro i hi
    by_cases g : i < l.length
    · exact g
    · rw [List.getD_eq_getElem?_getD, List.getElem?_eq_none (by omega)] at hi
      simp at hi
  unfold dec4
  by_cases a0 : x < 128
  · rw [if_pos a0]; simp; omega
  rw [if_neg a0]
  by_cases a1 : 192 ≤ x ∧ x ≤ 223
  · rw [if_pos a1]
    by_cases g : 128 ≤ l.getD 0 0 ∧ l.getD 0 0 ≤ 191
    · rw [if_pos g]
      have := out 0 g.1
      have hl : ((x :: l).length : Int) = l.length + 1 := by simp
      rcases finV_snd (x % 32 * 64 + l.getD 0 0 % 64) 128 2 with e | e <;> omega
    · rw [if_neg g]; exact bad
  rw [if_neg a1]
  by_cases a2 : 224 ≤ x ∧ x ≤ 239
  · rw [if_pos a2]
    by_cases g : (128 ≤ l.getD 0 0 ∧ l.getD 0 0 ≤ 191) ∧ 128 ≤ l.getD 1 0 ∧ l.getD 1 0 ≤ 191
    · rw [if_pos g]
      have := out 1 g.2.1
      have hl : ((x :: l).length : Int) = l.length + 1 := by simp
      rcases finV_snd ((x % 16 * 64 + l.getD 0 0 % 64) * 64 + l.getD 1 0 % 64) 2048 3 with e | e <;> omega
    · rw [if_neg g]; exact bad
  rw [if_neg a2]
  by_cases a3 : 240 ≤ x ∧ x ≤ 247
  · rw [if_pos a3]
    by_cases g : (128 ≤ l.getD 0 0 ∧ l.getD 0 0 ≤ 191) ∧ (128 ≤ l.getD 1 0 ∧ l.getD 1 0 ≤ 191) ∧ 128 ≤ l.getD 2 0 ∧ l.getD 2 0 ≤ 191
    · rw [if_pos g]
      have := out 2 g.2.2.1
      have hl : ((x :: l).length : Int) = l.length + 1 := by simp
      rcases finV_snd (((x % 8 * 64 + l.getD 0 0 % 64) * 64 + l.getD 1 0 % 64) * 64 + l.getD 2 0 % 64) 65536 4 with e | e <;> omega
    · rw [if_neg g]; exact bad
  rw [if_neg a3]
  exact bad
/-- All runes of bytes (n: at most so many). -/
def runesL : Nat → List Int → List Int
  | 0, _ => []
  | n + 1, b => if b = [] then [] else (decV b).1 :: runesL n (b.drop (decV b).2.toNat)
/-- Is none of them bad with one byte? -/
def cleanL : Nat → List Int → Bool
  | 0, _ => true
  | n + 1, b => if b = [] then true else !(decide ((decV b).1 = 65533) && decide ((decV b).2 = 1)) && cleanL n (b.drop (decV b).2.toNat)
theorem runesL_len (n : Nat) : ∀ b : List Int, (runesL n b).length ≤ n := by
  induction n with
  | zero => intro b; simp [runesL]
  | succ n ih =>
    intro b
    unfold runesL
    split
    · simp
    · simp only [List.length_cons]; have := ih (b.drop (decV b).2.toNat); omega
theorem ev_impl_runesOf (n : Nat) : ∀ (b acc : List Int) (fl : Bool), Bytes b → b.length ≤ n → acc.length + n ≤ 1000 → Ev (fun k => impl_runesOf.l0 k b acc fl) (acc ++ runesL n b, fl && cleanL n b) := by
  induction n with
  | zero =>
    intro b acc fl hb hl ha
    obtain rfl : b = [] := List.length_eq_zero_iff.1 (by omega)
    refine Ev.step (f := fun _ => some (acc ++ runesL 0 [], fl && cleanL 0 [])) (fun k => ?_) (Ev.now _)
    simp [impl_runesOf.l0, runesL, cleanL]
  | succ n ih =>
    intro b acc fl hb hl ha
    by_cases h : b = []
    · subst h
      refine Ev.step (f := fun _ => some (acc ++ runesL (n + 1) [], fl && cleanL (n + 1) [])) (fun k => ?_) (Ev.now _)
      simp [impl_runesOf.l0, runesL, cleanL]
    have hp : 0 < b.length := List.length_pos_iff.2 h
    have hs := decV_snd b h
    have hd : (b.drop (decV b).2.toNat).length ≤ n := by rw [List.length_drop]; omega
    have e : (acc ++ runesL (n + 1) b, fl && cleanL (n + 1) b) = ((acc ++ [(decV b).1]) ++ runesL n (b.drop (decV b).2.toNat), (fl && !(decide ((decV b).1 = 65533) && decide ((decV b).2 = 1))) && cleanL n (b.drop (decV b).2.toNat)) := by
      conv => lhs; unfold runesL cleanL
      rw [if_neg h, if_neg h]
      simp [Bool.and_assoc]
    rw [e]
    have next := ih (b.drop (decV b).2.toNat) (acc ++ [(decV b).1]) (fl && !(decide ((decV b).1 = 65533) && decide ((decV b).2 = 1))) (hb.drop _) hd (by simp; omega)
    refine Ev.step (fun k => by simp only [impl_runesOf.l0]; rfl) (ev_if_pos (by omega) (Ev.bind (ev_impl_runeAt b hb hp) ?_))
    have hx : (decV b).2 ≤ (b.length : Int) := hs.2
    cases fl with
    | true =>
      refine ev_if_pos rfl ?_
      by_cases g : (decV b).1 = 65533
      · refine ev_if_pos g (ev_if_pos (by omega) (ev_if_pos (by omega) (ev_if_pos hx ?_)))
        rw [show (!((decV b).2 == 1)) = (true && !(decide ((decV b).1 = 65533) && decide ((decV b).2 = 1))) by simp [g]; rfl]
        exact next
      · refine ev_if_neg g (ev_if_pos (by omega) (ev_if_pos (by omega) (ev_if_pos hx ?_)))
        rw [show (!false) = (true && !(decide ((decV b).1 = 65533) && decide ((decV b).2 = 1))) by simp [g]]
        exact next
    | false =>
      refine ev_if_neg (by decide) (ev_if_pos (by omega) (ev_if_pos (by omega) (ev_if_pos hx ?_)))
      exact next

/-! #### runeDec -/
theorem may_bad : mayB 65533 = true := by decide
theorem getD_pos {l : List Int} (h : 128 ≤ l.getD 0 0) : ∃ c t, l = c :: t := by
  cases l with
  | nil => simp at h
  | cons c t => exact ⟨c, t, rfl⟩
theorem fin_enc (r least n : Int) (w : List Int) (hn : n ≤ 4) (h : ¬ r < least → mayB r = true → runeV r = w) :
    mayB (finV r least n).1 = true ∧ (finV r least n).2 ≤ 4 ∧ (¬ ((finV r least n).1 = 65533 ∧ (finV r least n).2 = 1) → (finV r least n).2 = n ∧ runeV (finV r least n).1 = w) := by
  unfold finV
  by_cases g : r < least ∨ mayB r = false
  · rw [if_pos g]; exact ⟨may_bad, by decide, fun z => absurd ⟨rfl, rfl⟩ z⟩
  · rw [if_neg g]
    have h2 : mayB r = true := by
      cases hm : mayB r with
      | true => rfl
      | false => exact absurd (Or.inr hm) g
    exact ⟨h2, hn, fun _ => ⟨rfl, h (fun z => g (Or.inl z)) h2⟩⟩
theorem enc_dec (b : List Int) (hb : Bytes b) (hn : b ≠ []) : mayB (decV b).1 = true ∧ (decV b).2 ≤ 4 ∧ (¬ ((decV b).1 = 65533 ∧ (decV b).2 = 1) → runeV (decV b).1 = b.take (decV b).2.toNat) := by
  obtain ⟨x, l, rfl⟩ : ∃ x l, b = x :: l := by cases b with | nil => exact absurd rfl hn | cons x l => exact ⟨x, l, rfl⟩
  have hx := hb.head
  have bad : mayB ((65533 : Int), (1 : Int)).1 = true ∧ ((65533 : Int), (1 : Int)).2 ≤ 4 ∧ (¬ (((65533 : Int), (1 : Int)).1 = 65533 ∧ ((65533 : Int), (1 : Int)).2 = 1) → runeV ((65533 : Int), (1 : Int)).1 = (x :: l).take ((65533 : Int), (1 : Int)).2.toNat) :=
    ⟨may_bad, by decide, fun z => absurd ⟨rfl, rfl⟩ z⟩
  have use : ∀ (r least n : Int) (w : List Int), n ≤ 4 → (¬ r < least → mayB r = true → runeV r = w) → w = (x :: l).take n.toNat →
      mayB (finV r least n).1 = true ∧ (finV r least n).2 ≤ 4 ∧ (¬ ((finV r least n).1 = 65533 ∧ (finV r least n).2 = 1) → runeV (finV r least n).1 = (x :: l).take (finV r least n).2.toNat) := by
    intro r least n w h1 h2 h3
    obtain ⟨a, b, c⟩ := fin_enc r least n w h1 h2
    refine ⟨a, b, fun z => ?_⟩
    obtain ⟨d, e⟩ := c z
    rw [d, e, h3]
  have mb : ∀ r : Int, mayB r = true → 0 ≤ r ∧ r ≤ 1114111 := by intro r h; unfold mayB at h; simp at h; omega
  unfold decV
  simp only [List.getD_cons_zero, List.getD_cons_succ]
  unfold dec4
  by_cases a0 : x < 128
  · rw [if_pos a0]
    have hm : mayB x = true := by unfold mayB; simp; omega
    refine ⟨hm, by dsimp only; omega, fun _ => ?_⟩
    unfold runeV
    rw [if_pos hm, if_pos a0]
    simp
  rw [if_neg a0]
  by_cases a1 : 192 ≤ x ∧ x ≤ 223
  · rw [if_pos a1]
    by_cases g : 128 ≤ l.getD 0 0 ∧ l.getD 0 0 ≤ 191
    · rw [if_pos g]
      obtain ⟨c1, t1, rfl⟩ := getD_pos g.1
      simp only [List.getD_cons_zero] at g ⊢
      refine use _ _ _ [x, c1] (by omega) (fun h1 h2 => ?_) (by simp)
      have := mb _ h2
      unfold runeV
      rw [if_pos h2, if_neg (by omega), if_pos (by omega)]
      congr 1
      · omega
      · congr 1; omega
    · rw [if_neg g]; exact bad
  rw [if_neg a1]
  by_cases a2 : 224 ≤ x ∧ x ≤ 239
  · rw [if_pos a2]
    by_cases g : (128 ≤ l.getD 0 0 ∧ l.getD 0 0 ≤ 191) ∧ 128 ≤ l.getD 1 0 ∧ l.getD 1 0 ≤ 191
    · rw [if_pos g]
      obtain ⟨c1, t1, rfl⟩ := getD_pos g.1.1
      simp only [List.getD_cons_zero, List.getD_cons_succ] at g ⊢
      obtain ⟨c2, t2, rfl⟩ := getD_pos g.2.1
      simp only [List.getD_cons_zero] at g ⊢
      refine use _ _ _ [x, c1, c2] (by omega) (fun h1 h2 => ?_) (by simp)
      have := mb _ h2
      unfold runeV
      rw [if_pos h2, if_neg (by omega), if_neg (by omega), if_pos (by omega)]
      congr 1
      · omega
      · congr 1
        · omega
        · congr 1; omega
    · rw [if_neg g]; exact bad
  rw [if_neg a2]
  by_cases a3 : 240 ≤ x ∧ x ≤ 247
  · rw [if_pos a3]
    by_cases g : (128 ≤ l.getD 0 0 ∧ l.getD 0 0 ≤ 191) ∧ (128 ≤ l.getD 1 0 ∧ l.getD 1 0 ≤ 191) ∧ 128 ≤ l.getD 2 0 ∧ l.getD 2 0 ≤ 191
    · rw [if_pos g]
      obtain ⟨c1, t1, rfl⟩ := getD_pos g.1.1
      simp only [List.getD_cons_zero, List.getD_cons_succ] at g ⊢
      obtain ⟨c2, t2, rfl⟩ := getD_pos g.2.1.1
      simp only [List.getD_cons_zero, List.getD_cons_succ] at g ⊢
      obtain ⟨c3, t3, rfl⟩ := getD_pos g.2.2.1
      simp only [List.getD_cons_zero] at g ⊢
      refine use _ _ _ [x, c1, c2, c3] (by omega) (fun h1 h2 => ?_) (by simp)
      have := mb _ h2
      unfold runeV
      rw [if_pos h2, if_neg (by omega), if_neg (by omega), if_neg (by omega)]
      congr 1
      · omega
      · congr 1
        · omega
        · congr 1
          · omega
          · congr 1; omega
    · rw [if_neg g]; exact bad
  rw [if_neg a3]
  exact bad
theorem flat_clean (n : Nat) : ∀ b : List Int, Bytes b → b.length ≤ n → ((runesL n b).flatMap runeV = b ↔ cleanL n b = true) := by
  induction n with
  | zero =>
    intro b hb hl
    obtain rfl : b = [] := List.length_eq_zero_iff.1 (by omega)
    simp [runesL, cleanL]
  | succ n ih =>
    intro b hb hl
    unfold runesL cleanL
    by_cases h : b = []
    · rw [if_pos h, if_pos h, h]; simp
    · rw [if_neg h, if_neg h]
      obtain ⟨e1, e2, e3⟩ := enc_dec b hb h
      have e4 := decV_snd b h
      have hd := ih (b.drop (decV b).2.toNat) (hb.drop _) (by rw [List.length_drop]; omega)
      rw [List.flatMap_cons]
      by_cases g : (decV b).1 = 65533 ∧ (decV b).2 = 1
      · rw [decide_eq_true g.1, decide_eq_true g.2]
        simp only [Bool.and_self, Bool.not_true, Bool.false_and, Bool.false_eq_true, iff_false]
        intro z
        have := dec_rune (decV b).1 e1 ((runesL n (b.drop (decV b).2.toNat)).flatMap runeV)
        rw [z, g.1] at this
        have hc := congrArg Prod.snd this
        rw [g.2] at hc
        exact absurd hc (by decide)
      · rw [e3 g]
        have : (!(decide ((decV b).1 = 65533) && decide ((decV b).2 = 1))) = true := by
          cases h1 : decide ((decV b).1 = 65533) <;> cases h2 : decide ((decV b).2 = 1) <;> simp_all
        rw [this, Bool.true_and, ← hd]
        constructor
        · intro z
          have z2 : b.take (decV b).2.toNat ++ (runesL n (b.drop (decV b).2.toNat)).flatMap runeV = b.take (decV b).2.toNat ++ b.drop (decV b).2.toNat := by rw [List.take_append_drop]; exact z
          exact List.append_cancel_left z2
        · intro z
          rw [z, List.take_append_drop]

/-! #### RuneBytesI -/
theorem lowByte (r : Int) (h0 : 0 ≤ r) (h1 : r ≤ 1114111) : Go.bits .or .i64 128 (Go.bits .and .i64 r 63) % 256 = 128 + r % 64 := by
  rw [and_63 _ h0 (by omega), or_join 6 128 (r % 64) (by decide) (by decide) (by decide) (by omega) (by omega) (by omega)]
  omega
theorem ev_impl_RuneBytes (r : Int) : Ev (fun k => impl_RuneBytes.f k r) (runeV r) := by
  have key : impl_RuneBytes.f 4 r = some (runeV r) := by
    unfold impl_RuneBytes.f runeV impl_sizeOf.f
    rw [impl_isPoint_eq]
    simp only [Option.bind_some]
    by_cases h : mayB r = true
    · rw [if_pos h, if_pos h]
      have hr : 0 ≤ r ∧ r ≤ 1114111 := by unfold mayB at h; simp at h; omega
      by_cases h1 : r < 128
      · rw [if_pos h1, if_pos h1]
        simp only [Option.bind_some, if_true]
        rw [show r % 256 = r by omega]
      rw [if_neg h1, if_neg h1]
      have y2 : rd [0, 0, 192, 224, 240] 2 = 192 := rfl
      have y3 : rd [0, 0, 192, 224, 240] 3 = 224 := rfl
      have y4 : rd [0, 0, 192, 224, 240] 4 = 240 := rfl
      have v2 : wrap64 (2 - 1) = 1 := w64 (by omega) (by omega)
      have v3 : wrap64 (3 - 1) = 2 := w64 (by omega) (by omega)
      have v4 : wrap64 (4 - 1) = 3 := w64 (by omega) (by omega)
      have v1 : wrap64 (1 - 1) = 0 := w64 (by omega) (by omega)
      by_cases h2 : r < 2048
      · rw [if_pos h2, if_pos h2]
        have o : Go.bits .or .i64 192 (r / 64) % 256 = 192 + r / 64 := by
          rw [or_join 5 192 (r / 64) (by decide) (by decide) (by decide) (by omega) (by omega) (by omega)]; omega
        have rep : List.replicate (2 : Int).toNat (0 : Int) = [0, 0] := rfl
        simp only [Option.bind_some, rep, v2, impl_RuneBytes.l0, v1, lowByte r hr.1 hr.2]
        simp [y2, o]
      rw [if_neg h2, if_neg h2]
      by_cases h3 : r < 65536
      · rw [if_pos h3, if_pos h3]
        have o : Go.bits .or .i64 224 (r / 64 / 64) % 256 = 224 + r / 4096 := by
          rw [or_join 4 224 (r / 64 / 64) (by decide) (by decide) (by decide) (by omega) (by omega) (by omega)]; omega
        have rep : List.replicate (3 : Int).toNat (0 : Int) = [0, 0, 0] := rfl
        simp only [Option.bind_some, rep, v3, impl_RuneBytes.l0, v2, v1, lowByte r hr.1 hr.2, lowByte (r / 64) (by omega) (by omega)]
        simp [y3, o]
      rw [if_neg h3, if_neg h3]
      have o : Go.bits .or .i64 240 (r / 64 / 64 / 64) % 256 = 240 + r / 262144 := by
        rw [or_join 3 240 (r / 64 / 64 / 64) (by decide) (by decide) (by decide) (by omega) (by omega) (by omega)]; omega
      have rep : List.replicate (4 : Int).toNat (0 : Int) = [0, 0, 0, 0] := rfl
      simp only [Option.bind_some, rep, v4, impl_RuneBytes.l0, v3, v2, v1, lowByte r hr.1 hr.2, lowByte (r / 64) (by omega) (by omega), lowByte (r / 64 / 64) (by omega) (by omega)]
      simp [y4, o]
      omega
    · rw [if_neg h, if_neg h]
  exact Ev.of (fun k => impl_RuneBytes.mono r k) key

/-! #### law_FnRunes -/
theorem nat8 {x y : Int} (x0 : 0 ≤ x) (x1 : x ≤ 255) (y0 : 0 ≤ y) (y1 : y ≤ 255) (h : UInt8.ofNat x.toNat = UInt8.ofNat y.toNat) : x = y := by
  have := congrArg UInt8.toNat h
  simp only [UInt8.toNat_ofNat'] at this
  omega
def bOf (xs : List Int) : List UInt8 := xs.map fun n => UInt8.ofNat n.toNat
theorem str_list (xs : List Int) : (strOfNums xs).toList = bOf xs := by
  rw [Go.Lib.toList_data]
  rfl
theorem bytes_inj : ∀ {a b : List Int}, Bytes a → Bytes b → bOf a = bOf b → a = b := by
  intro a
  induction a with
  | nil =>
    intro b _ _ h
    cases b with
    | nil => rfl
    | cons y b => simp [bOf] at h
  | cons x a ih =>
    intro b ha hb h
    cases b with
    | nil => simp [bOf] at h
    | cons y b =>
      simp only [bOf, List.map_cons, List.cons.injEq] at h
      rw [nat8 ha.head.1 ha.head.2 hb.head.1 hb.head.2 h.1, ih ha.tail hb.tail h.2]
theorem sameBytes_eq (a b : List Int) (ha : Bytes a) (hb : Bytes b) : laws_sameBytes.f a b = some (decide (a = b)) := by
  unfold laws_sameBytes.f
  rw [str_list, str_list]
  congr 1
  by_cases h : a = b
  · rw [decide_eq_true h, h]; exact beq_self_eq_true _
  · rw [decide_eq_false h]; exact beq_eq_false_iff_ne.mpr (fun z => h (bytes_inj ha hb z))
theorem within_any (a lo hi : Int) : impl_within.f a lo hi = some (decide (lo ≤ a ∧ a ≤ hi)) := by
  unfold impl_within.f
  by_cases h : a ≥ lo
  · rw [if_pos h]; exact congrArg some (decide_eq_decide.mpr (by omega))
  · rw [if_neg h, decide_eq_false (by omega)]
theorem ev_impl_RuneAt (b : List Int) (i : Nat) (hb : Bytes b) (hi : i < b.length) (hl : b.length ≤ 1000) : Ev (fun k => impl_RuneAt.f k b (i : Int)) (decV (b.drop i)) := by
  unfold impl_RuneAt.f
  rw [w64 (x := (b.length : Int) - 1) (by omega) (by omega), within_any, decide_eq_true (by omega)]
  refine ev_bind0 rfl (ev_if_pos rfl (ev_if_pos (by omega) (ev_if_pos (by omega) ?_)))
  rw [Int.toNat_natCast]
  exact Ev.bind (ev_impl_runeAt (b.drop i) (hb.drop i) (by rw [List.length_drop]; omega)) (Ev.now _)
theorem flat_bytes (l : List Int) : Bytes (l.flatMap runeV) := by
  intro x hx
  obtain ⟨r, _, h⟩ := List.mem_flatMap.1 hx
  exact runeV_bytes r x h
theorem ev_impl_Clean_any (b : List Int) (hb : Bytes b) (hl : b.length ≤ 400) : Ev (fun k => impl_Clean.f k b) (cleanL b.length b) := by
  unfold impl_Clean.f impl_runesOf.f
  refine ev_if_neg (by omega) ?_
  have := ev_impl_runesOf b.length b [] true hb (by omega) (by simp; omega)
  rw [Bool.true_and] at this
  exact Ev.bind this (Ev.now _)
theorem runes_loop (b : List Int) (hb : Bytes b) (hl : b.length ≤ 400) (l : List Int) (hll : l.length ≤ 400) (d : Nat) :
    ∀ (i k : Nat) (out : List Int), i ≤ b.length → b.length - i ≤ d → k ≤ l.length → l.drop k = runesL d (b.drop i) → out = (l.take k).flatMap runeV → out.length ≤ 4 * k →
      Ev (fun n => laws_FnRunes.l0 n b l out (i : Int) (k : Int)) (decide (l.flatMap runeV = b) == cleanL b.length b) := by
  have fin : ∀ (k : Nat) (out : List Int), k = l.length → out = (l.take k).flatMap runeV → Ev (fun n => laws_FnRunes.l0 n b l out (b.length : Int) (k : Int)) (decide (l.flatMap runeV = b) == cleanL b.length b) := by
    intro k out hk ho
    rw [hk, List.take_length] at ho
    subst ho
    refine Ev.step (fun n => by simp only [laws_FnRunes.l0]; rfl) (ev_if_neg (by omega) (ev_if_pos (show (b.length : Int) = (b.length : Int) from rfl) ?_))
    exact ev_bind0 (sameBytes_eq _ _ (flat_bytes l) hb) (Ev.bind (ev_impl_Clean_any b hb hl) (Ev.now _))
  induction d with
  | zero =>
    intro i k out hi hd hk he ho hol
    have hk2 : k = l.length := by
      have := congrArg List.length he
      rw [List.length_drop] at this
      simp [runesL] at this
      omega
    obtain rfl : i = b.length := by omega
    exact fin k out hk2 ho
  | succ d ih =>
    intro i k out hi hd hk he ho hol
    unfold runesL at he
    by_cases hn : b.drop i = []
    · rw [if_pos hn] at he
      have hk2 : k = l.length := by
        have := congrArg List.length he
        rw [List.length_drop] at this
        simp at this
        omega
      have hi2 : i = b.length := by
        have := congrArg List.length hn
        rw [List.length_drop] at this
        simp at this
        omega
      rw [hi2]
      exact fin k out hk2 ho
    · rw [if_neg hn] at he
      have hib : i < b.length := by
        have := List.length_pos_iff.2 hn
        rw [List.length_drop] at this
        omega
      have hkl : k < l.length := by
        have := congrArg List.length he
        rw [List.length_drop] at this
        simp only [List.length_cons] at this
        omega
      rw [List.drop_eq_getElem_cons hkl] at he
      obtain ⟨e1, e2⟩ := List.cons.inj he
      have hr := ev_impl_RuneAt b i hb hib (by omega)
      obtain ⟨m1, m2, _⟩ := enc_dec (b.drop i) (hb.drop i) hn
      have m3 := decV_snd (b.drop i) hn
      rw [List.length_drop] at m3
      generalize decV (b.drop i) = q at *
      have hp := runeV_pos q.1 m1
      have hq := runeV_len q.1
      have hrb := ev_impl_RuneBytes q.1
      have step := ih (i + q.2.toNat) (k + 1) (out ++ runeV q.1) (by omega) (by omega) (by omega) (by rw [e2, List.drop_drop]) (by
        rw [ho, List.take_succ_eq_append_getElem hkl, List.flatMap_append, e1]; simp) (by simp only [List.length_append]; omega)
      refine Ev.step (fun n => by simp only [laws_FnRunes.l0]; rfl) (ev_if_pos (show (k : Int) < (l.length : Int) by omega) (Ev.bind hr ?_))
      refine ev_if_pos (show (0 : Int) ≤ (k : Int) by omega) (ev_if_pos (show q.1 = rd l (k : Int) by rw [rd_get l k hkl, e1]) ?_)
      refine ev_if_neg (show ¬ q.2 < 1 by omega) (ev_if_neg (show ¬ q.2 > 4 by omega) (Ev.bind hrb ?_))
      refine ev_if_neg (show ¬ ((runeV q.1).length : Int) = 0 by omega) (Ev.bind hrb (ev_if_pos (show out.length + (runeV q.1).length < 140737488355328 by omega) ?_))
      rw [w64 (by omega) (by omega), w64 (by omega) (by omega), show (i : Int) + q.2 = ((i + q.2.toNat : Nat) : Int) by omega]
      exact step
theorem FnRunes : laws_FnRunes.Pure := by
  intro c hc hc2 hw
  have g : Ev (fun k => laws_FnRunes.f k c) true := by
    unfold laws_FnRunes.f
    obtain ⟨h, e0⟩ := ev_l1New c (by omega)
    obtain ⟨b, j, g, e1, hb, hl⟩ := ev_l1draw c 0 h (by omega) (by omega)
    have d : Ev (fun k => spec_DrawRunes.f k c) b := by
      unfold spec_DrawRunes.f
      exact Ev.bind e0 (Ev.bind e1 (Ev.now _))
    refine Ev.bind d ?_
    by_cases h4 : b.length ≤ 400
    · have hr : Ev (fun k => impl_Runes.f k b) (runesL b.length b) := by
        unfold impl_Runes.f impl_runesOf.f
        exact ev_if_neg (by omega) (Ev.bind (ev_impl_runesOf b.length b [] true hb (by omega) (by simp; omega)) (Ev.now _))
      refine Ev.bind hr (ev_if_neg (by omega) ?_)
      have hlen := runesL_len b.length b
      have lp := runes_loop b hb h4 (runesL b.length b) (by omega) b.length 0 0 [] (by omega) (by omega) (by omega) (by simp) (by simp) (by simp)
      have fc := flat_clean b.length b hb (by omega)
      have ht : (decide ((runesL b.length b).flatMap runeV = b) == cleanL b.length b) = true := by
        cases hcl : cleanL b.length b with
        | true => rw [decide_eq_true (fc.2 hcl)]; rfl
        | false => rw [decide_eq_false (fun z => by rw [fc.1 z] at hcl; exact absurd hcl (by simp))]; rfl
      rw [ht] at lp
      exact lp
    · have hr : Ev (fun k => impl_Runes.f k b) [] := by
        unfold impl_Runes.f
        exact ev_if_pos (by omega) (Ev.now _)
      have hcl : Ev (fun k => impl_Clean.f k b) false := by
        unfold impl_Clean.f
        exact ev_if_pos (by omega) (Ev.now _)
      exact Ev.bind hr (ev_if_pos (by omega) (ev_if_pos rfl (Ev.bind hcl (ev_if_neg (show ¬ (false = true) by simp) (Ev.bind (ev_impl_RuneBytes 65) (Ev.now _))))))
  exact g.rounds

end Go.Proofs.Ytlefbfdeelldjaa.Pure
