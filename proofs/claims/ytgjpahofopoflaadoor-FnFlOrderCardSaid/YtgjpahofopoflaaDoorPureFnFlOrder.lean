/- The pure statement of the law FnFlOrder: at every input that its guards let in the program's answer is the reference's. -/
import Derived.Test.YtgjpahofopoflaaDoorPFnFlOrderx38
import Derived.Test.YtgjpahofopoflaaDoorVFnFlOrderb
import Derived.WalkKit
namespace Go.Proofs.YtgjpahofopoflaaDoor.Pure
open Go.RowKit Go.Proofs.YtgjpahofopoflaaDoor.PFnFlOrder Go.Proofs.YtgjpahofopoflaaDoorW.PrintWords Go.Proofs.YtgjpahofopoflaaDoorW.PrintLast Go.Proofs.YtgjpahofopoflaaDoor.Lib
set_option linter.unusedVariables false
set_option linter.unusedSimpArgs false
theorem l1Byte_some (b : List Int) (i h : Int) (hb : b.length ≤ 1000000000000000000) (h0 : 0 ≤ i) : ∃ x j g, spec_l1Byte.f b i h = some (x, j, g) ∧ 0 ≤ x ∧ x ≤ 255 ∧ 0 ≤ j := by
 unfold spec_l1Byte.f
 by_cases h1 : i < (b.length : Int)
 ·rw [if_pos h1, if_pos h0]
  exact ⟨_, _, _, rfl, (and255_bd _).1, (and255_bd _).2, by rw [w64 (by omega) (by omega)]; omega⟩
 ·rw [if_neg h1]
  exact ⟨_, _, _, rfl, (and255_bd _).1, (and255_bd _).2, h0⟩
theorem l1Below_some (b : List Int) (i h n : Int) (hb : b.length ≤ 1000000000000000000) (h0 : 0 ≤ i) : ∃ x j g, spec_l1Below.f b i h n = some (x, j, g) ∧ 0 ≤ x ∧ (0 < n → x < n) ∧ x ≤ 4294967295 ∧ 0 ≤ j := by
 unfold spec_l1Below.f
 by_cases h1 : n ≤ 0
 ·rw [if_pos h1]
  exact ⟨_, _, _, rfl, Int.le_refl _, fun h => by omega, by omega, h0⟩
 rw [if_neg h1]
 obtain ⟨x, i1, g1, e1, x0, x1, p1⟩ := l1Byte_some b i h hb h0
 by_cases h2 : n ≤ 256
 ·rw [if_pos h2, e1]
  simp only [Option.bind_some]
  rw [if_neg (by omega), tm _ _ x0]
  have a1 := Int.emod_nonneg x (show n ≠ 0 by omega)
  have a2 := Int.emod_lt_of_pos x (show 0 < n by omega)
  exact ⟨_, _, _, rfl, a1, fun _ => a2, by omega, p1⟩
 ·rw [if_neg h2, e1]
  simp only [Option.bind_some]
  obtain ⟨y, i2, g2, e2, y0, y1, p2⟩ := l1Byte_some b i1 g1 hb p1
  rw [e2]
  simp only [Option.bind_some]
  obtain ⟨z, i3, g3, e3, z0, z1, p3⟩ := l1Byte_some b i2 g2 hb p2
  rw [e3]
  simp only [Option.bind_some]
  obtain ⟨u, i4, g4, e4, u0, u1, p4⟩ := l1Byte_some b i3 g3 hb p3
  rw [e4]
  simp only [Option.bind_some]
  rw [if_neg (by omega), w64 (x := x * 16777216) (by omega) (by omega), w64 (x := y * 65536) (by omega) (by omega), w64 (x := z * 256) (by omega) (by omega), w64 (x := x * 16777216 + y * 65536) (by omega) (by omega), w64 (x := x * 16777216 + y * 65536 + z * 256) (by omega) (by omega), w64 (by omega) (by omega), tm _ _ (by omega)]
  have a1 := Int.emod_nonneg (x * 16777216 + y * 65536 + z * 256 + u) (show n ≠ 0 by omega)
  have a2 := Int.emod_lt_of_pos (x * 16777216 + y * 65536 + z * 256 + u) (show 0 < n by omega)
  have a4 : (x * 16777216 + y * 65536 + z * 256 + u) % n ≤ x * 16777216 + y * 65536 + z * 256 + u := by
   have h5 := Int.mul_ediv_add_emod (x * 16777216 + y * 65536 + z * 256 + u) n
   have h6 : 0 ≤ (x * 16777216 + y * 65536 + z * 256 + u) / n := Int.ediv_nonneg (by omega) (by omega)
   have h7 : 0 ≤ n * ((x * 16777216 + y * 65536 + z * 256 + u) / n) := Int.mul_nonneg (by omega) h6
   omega
  exact ⟨_, _, _, rfl, a1, fun _ => a2, by omega, p4⟩
theorem l1Once_some (b : List Int) (i h n : Int) (hb : b.length ≤ 1000000000000000000) (h0 : 0 ≤ i) : ∃ t j g, spec_l1Once.f b i h n = some (t, j, g) ∧ 0 ≤ j := by
 unfold spec_l1Once.f
 obtain ⟨x, j, g, e, _, _, _, p⟩ := l1Below_some b i h n hb h0
 rw [e]
 exact ⟨_, _, _, rfl, p⟩
theorem l1Pick_some (b : List Int) (i h : Int) (l : List Int) (hb : b.length ≤ 1000000000000000000) (h0 : 0 ≤ i) (hl : 0 < l.length) (hl2 : l.length ≤ 256) : ∃ q j g, spec_l1PickInt.f b i h l = some (l.getD q 0, j, g) ∧ q < l.length ∧ 0 ≤ j := by
 unfold spec_l1PickInt.f
 obtain ⟨x, j, g, e, x0, x1, _, p⟩ := l1Below_some b i h (l.length : Int) hb h0
 have x2 := x1 (by omega)
 rw [e]
 simp only [Option.bind_some]
 rw [if_pos x0, if_pos x2]
 refine ⟨x.toNat, j, g, ?_, by omega, p⟩
 rfl
theorem ev_l1New (b : List Int) (hb : b.length ≤ 1000000000000000000) : ∃ h, Ev (fun k => spec_l1New.f k b) (b, 0, h) := by
 unfold spec_l1New.f
 generalize wrap64 (38282 + (b.length : Int)) = h0
 have key : ∀ (d : Nat) (i : Nat) (h : Int), i + d = 4001 → ∃ g, Ev (fun k => spec_l1New.l0 k b h (i : Int)) (b, 0, g) := by
  intro d
  induction d with
  | zero =>
   intro i h hd
   refine ⟨h, Ev.step (f := fun _ => some (b, 0, h)) (fun k => ?_) (Ev.now _)⟩
   simp only [spec_l1New.l0]
   by_cases h1 : (i : Int) < (b.length : Int)
   ·rw [if_pos h1, if_neg (by omega)]
   ·rw [if_neg h1]
  | succ d ih =>
   intro i h hd
   by_cases h1 : (i : Int) < (b.length : Int)
   ·by_cases h2 : (i : Int) < 4000
    ·obtain ⟨g, hg⟩ := ih (i + 1) (Go.bits .and .i64 (wrap64 ((wrap64 ((wrap64 (h * 131)) + (wrap64 (rd b (i : Int))))) + 7)) 1073741823) (by omega)
     refine ⟨g, Ev.step (fun k => ?_) hg⟩
     simp only [spec_l1New.l0]
     rw [if_pos h1, if_pos h2, if_pos (by omega), w64 (x := (i : Int) + 1) (by omega) (by omega), show (i : Int) + 1 = ((i + 1 : Nat) : Int) by omega]
    ·refine ⟨h, Ev.step (f := fun _ => some (b, 0, h)) (fun k => ?_) (Ev.now _)⟩
     simp only [spec_l1New.l0]
     rw [if_pos h1, if_neg h2]
   ·refine ⟨h, Ev.step (f := fun _ => some (b, 0, h)) (fun k => ?_) (Ev.now _)⟩
    simp only [spec_l1New.l0]
    rw [if_neg h1]
 exact key 4001 0 h0 (by omega)
theorem ev_spec_l2of (n : Int) (h1 : n ≤ 9223372036854775807) : Ev (fun k => spec_l2of.f k n) (dig n) := by
 unfold spec_l2of.f dig
 have key : ∀ f : Nat, ∀ x : Int, ∀ acc : List Int, x < pw f → x ≤ 9223372036854775807 → acc.length + f < 1000 → Ev (fun k => spec_l2of.l0 k x acc) (acc ++ digF f x) := by
  intro f
  induction f with
  | zero =>
   intro x acc hx hb ha
   simp [pw] at hx
   refine Ev.step (f := fun _ => some (acc ++ digF 0 x)) (fun k => ?_) (Ev.now _)
   simp only [spec_l2of.l0]
   rw [if_neg (by omega)]; simp [digF]
  | succ f ih =>
   intro x acc hx hb ha
   by_cases h : x ≤ 0
   ·refine Ev.step (f := fun _ => some (acc ++ digF (f + 1) x)) (fun k => ?_) (Ev.now _)
    simp only [spec_l2of.l0]
    rw [if_neg (by omega)]; simp [digF, h]
   ·have e : acc ++ digF (f + 1) x = (acc ++ [x % 65536]) ++ digF f (x / 65536) := by
     simp [digF, h]
    rw [e]
    simp only [pw] at hx
    refine Ev.step (f := fun k => spec_l2of.l0 k (x / 65536) (acc ++ [x % 65536])) (fun k => ?_) (ih _ _ (by omega) (by omega) (by simp; omega))
    simp only [spec_l2of.l0]
    rw [if_pos (by omega), if_pos (by omega), td _ _ (by omega), tm _ _ (by omega), w64 (by omega) (by omega)]
 have := key 4 n [] (by rw [pw4]; omega) h1 (by simp)
 simpa using this
theorem ev_spec_l2norm (l : List Int) (hb : l.length ≤ 1000000000) : Ev (fun k => spec_l2norm.f k l) (strip l) := by
 unfold spec_l2norm.f
 have key : ∀ n : Nat, n ≤ l.length → strip (l.take n) = strip l → Ev (fun k => spec_l2norm.l0 k l (n : Int)) (strip l) := by
  intro n
  induction n with
  | zero =>
   intro _ hs
   refine Ev.step (f := fun _ => some (strip l)) (fun k => ?_) (Ev.now _)
   simp only [spec_l2norm.l0, Option.bind_some]
   rw [if_neg (by omega), if_pos (by omega), if_pos (by omega), if_pos (by simp)]
   simpa [strip] using hs
  | succ n ih =>
   intro hn hs
   by_cases h0 : l[n] = 0
   ·refine Ev.step (f := fun k => spec_l2norm.l0 k l (n : Int)) (fun k => ?_) (ih (by omega) ?_)
    ·simp only [spec_l2norm.l0]
     rw [show ((n + 1 : Nat) : Int) - 1 = (n : Int) by omega, w64 (x := (n : Int)) (by omega) (by omega), if_pos (by omega), if_pos (by omega), if_pos (by omega), rd_get _ _ (by omega), if_pos h0]
    ·rw [← hs, strip_take_zero (by omega) h0]
   ·refine Ev.step (f := fun _ => some (strip l)) (fun k => ?_) (Ev.now _)
    simp only [spec_l2norm.l0, Option.bind_some]
    rw [show ((n + 1 : Nat) : Int) - 1 = (n : Int) by omega, w64 (x := (n : Int)) (by omega) (by omega), if_pos (by omega), if_pos (by omega), if_pos (by omega), rd_get _ _ (by omega), if_neg h0, if_pos (by omega), if_pos (by omega), if_pos (by simp; omega)]
    rw [← hs, strip_take_ne (by omega) h0]
    simp
 have := key l.length (Nat.le_refl _) (by simp)
 exact this
theorem add_step (x y c P A B O T : Int) (h : O + P * (c + (x + 65536 * A) + (y + 65536 * B)) = T) : O + P * ((c + x + y) % 65536) + 65536 * P * ((c + x + y) / 65536 + A + B) = T := by
 have e := Int.mul_ediv_add_emod (c + x + y) 65536
 have e2 : P * (c + (x + 65536 * A) + (y + 65536 * B)) = P * ((c + x + y) % 65536) + 65536 * P * ((c + x + y) / 65536 + A + B) := by
  have e3 : c + (x + 65536 * A) + (y + 65536 * B) = (c + x + y) % 65536 + 65536 * ((c + x + y) / 65536 + A + B) := by omega
  rw [e3, Int.mul_add, ← Int.mul_assoc, Int.mul_comm P 65536]
 omega
theorem val_drop_any (l : List Int) (i : Nat) : val (l.drop i) = rd l (i : Int) + 65536 * val (l.drop (i + 1)) := by
 by_cases h : i < l.length
 ·exact val_drop_at h
 ·rw [List.drop_eq_nil_of_le (by omega), List.drop_eq_nil_of_le (by omega), rd_out _ _ (by omega)]; simp [val]
theorem ev_spec_l2add (a b : List Int) (ha : Limbs a) (hb : Limbs b) (hla : a.length ≤ 1000000) (hlb : b.length ≤ 1000000) :
  ∃ q : List Int, Ev (fun n => spec_l2add.f n a b) q ∧ Norm q ∧ val q = val a + val b ∧ q.length ≤ max a.length b.length + 1 := by
 unfold spec_l2add.f
 have key : ∀ d i : Nat, i + d = max a.length b.length + 1 → ∀ (out : List Int) (c : Int), out.length = i → Limbs out → 0 ≤ c → c ≤ 1 → (d = 0 → c = 0) →
   val out + pw i * (c + val (a.drop i) + val (b.drop i)) = val a + val b →
   ∃ q : List Int, Ev (fun n => spec_l2add.l0 n out c (i : Int) a b) q ∧ Norm q ∧ val q = val a + val b ∧ q.length ≤ max a.length b.length + 1 := by
  intro d
  induction d with
  | zero =>
   intro i hi out c ho hl h0 h1 hc hv
   have hc0 := hc rfl
   subst hc0
   rw [List.drop_eq_nil_of_le (by omega), List.drop_eq_nil_of_le (by omega)] at hv
   simp [val] at hv
   refine ⟨strip out, ?_, strip_norm hl, by rw [val_strip]; exact hv, by have := strip_len out; omega⟩
   refine Ev.step (fun n => by simp only [spec_l2add.l0]; rw [if_neg (by omega), if_neg (by omega)]) ?_
   refine Ev.step (fun n => by simp only [spec_l2add.j1]; rfl) ?_
   simp only [Int.lt_irrefl, gt_iff_lt, decide_false, Bool.false_eq_true, if_false]
   exact Ev.bind (ev_spec_l2norm out (by omega)) (Ev.now _)
  | succ d ih =>
   intro i hi out c ho hl h0 h1 hc hv
   have hx := rd_limb ha (i : Int)
   have hy := rd_limb hb (i : Int)
   have hv2 := hv
   rw [val_drop_any a i, val_drop_any b i] at hv2
   have hs := add_step _ _ _ _ _ _ _ _ hv2
   have hm0 : 0 ≤ (c + rd a (i : Int) + rd b (i : Int)) % 65536 ∧ (c + rd a (i : Int) + rd b (i : Int)) % 65536 ≤ 65535 := by omega
   have hd0 : 0 ≤ (c + rd a (i : Int) + rd b (i : Int)) / 65536 ∧ (c + rd a (i : Int) + rd b (i : Int)) / 65536 ≤ 1 := by omega
   have hnext : val (out ++ [(c + rd a (i : Int) + rd b (i : Int)) % 65536]) + pw (i + 1) * ((c + rd a (i : Int) + rd b (i : Int)) / 65536 + val (a.drop (i + 1)) + val (b.drop (i + 1))) = val a + val b := by
    rw [val_snoc, ho]; simp only [pw]; exact hs
   have hcz : d = 0 → (c + rd a (i : Int) + rd b (i : Int)) / 65536 = 0 := by
    intro hd
    have p1 : rd a (i : Int) = 0 := rd_out _ _ (by omega)
    have p2 : rd b (i : Int) = 0 := rd_out _ _ (by omega)
    omega
   have next := ih (i + 1) (by omega) (out ++ [(c + rd a (i : Int) + rd b (i : Int)) % 65536]) ((c + rd a (i : Int) + rd b (i : Int)) / 65536) (by simp; omega) (hl.append (Limbs.cons hm0.1 hm0.2 Limbs.nil)) hd0.1 hd0.2 hcz hnext
   obtain ⟨q, hq, hrest⟩ := next
   have c1 : ((i + 1 : Nat) : Int) = (i : Int) + 1 := by omega
   rw [c1] at hq
   by_cases hla' : (i : Int) < (a.length : Int)
   ·refine ⟨q, ?_, hrest⟩
    refine Ev.step (fun n => by simp only [spec_l2add.l0]; rw [if_pos hla']) ?_
    refine Ev.step (fun n => by simp only [spec_l2add.j1]; rfl) ?_
    simp only [if_true, if_pos hla']
    refine ev_if_pos (by omega) ?_
    by_cases hlb' : (i : Int) < (b.length : Int)
    ·simp only [if_pos hlb']
     refine ev_if_pos (by omega) ?_
     rw [w64 (x := c + rd a (i : Int)) (by omega) (by omega), w64 (x := c + rd a (i : Int) + rd b (i : Int)) (by omega) (by omega), tm _ _ (by omega), td _ _ (by omega), w64 (by omega) (by omega), w64 (by omega) (by omega)]
     exact hq
    ·simp only [if_neg hlb']
     refine ev_if_pos (by omega) ?_
     have z : rd b (i : Int) = 0 := rd_out _ _ (by omega)
     rw [z] at hq
     rw [w64 (x := c + rd a (i : Int)) (by omega) (by omega), tm _ _ (by omega), td _ _ (by omega), w64 (by omega) (by omega), w64 (by omega) (by omega)]
     simpa using hq
   ·have za : rd a (i : Int) = 0 := rd_out _ _ (by omega)
    by_cases hlb' : (i : Int) < (b.length : Int)
    ·refine ⟨q, ?_, hrest⟩
     refine Ev.step (fun n => by simp only [spec_l2add.l0]; rw [if_neg hla', if_pos hlb']) ?_
     refine Ev.step (fun n => by simp only [spec_l2add.j1]; rfl) ?_
     simp only [if_true, if_neg hla', if_pos hlb']
     refine ev_if_pos (by omega) (ev_if_pos (by omega) ?_)
     rw [za] at hq
     rw [w64 (x := c + rd b (i : Int)) (by omega) (by omega), tm _ _ (by omega), td _ _ (by omega), w64 (by omega) (by omega), w64 (by omega) (by omega)]
     simpa using hq
    ·have zb : rd b (i : Int) = 0 := rd_out _ _ (by omega)
     by_cases hc1 : c > 0
     ·refine ⟨q, ?_, hrest⟩
      refine Ev.step (fun n => by simp only [spec_l2add.l0]; rw [if_neg hla', if_neg hlb']) ?_
      refine Ev.step (fun n => by simp only [spec_l2add.j1]; rfl) ?_
      simp only [hc1, decide_true, if_true, if_neg hla', if_neg hlb']
      refine ev_if_pos (by omega) ?_
      rw [za, zb] at hq
      rw [tm _ _ (by omega), td _ _ (by omega), w64 (by omega) (by omega), w64 (by omega) (by omega)]
      simpa using hq
     ·have hc0 : c = 0 := by omega
      subst hc0
      rw [List.drop_eq_nil_of_le (by omega), List.drop_eq_nil_of_le (by omega)] at hv
      simp [val] at hv
      refine ⟨strip out, ?_, strip_norm hl, by rw [val_strip]; exact hv, by have := strip_len out; omega⟩
      refine Ev.step (fun n => by simp only [spec_l2add.l0]; rw [if_neg hla', if_neg hlb']) ?_
      refine Ev.step (fun n => by simp only [spec_l2add.j1]; rfl) ?_
      simp only [Int.lt_irrefl, gt_iff_lt, decide_false, Bool.false_eq_true, if_false]
      exact Ev.bind (ev_spec_l2norm out (by omega)) (Ev.now _)
 have := key (max a.length b.length + 1) 0 (by omega) [] 0 rfl Limbs.nil (by omega) (by omega) (by omega) (by simp [val, pw])
 simpa using this
theorem ev_spec_l3make (s : Bool) (l : List Int) (h : Norm l) (hb : l.length ≤ 1000000) : Ev (fun n => spec_l3make.f n s l) (s && !l.isEmpty, l) := by
 unfold spec_l3make.f
 have e := ev_spec_l2norm l (by omega)
 rw [strip_of_norm h] at e
 cases s
 ·simp only [Bool.false_eq_true, if_false]
  exact Ev.bind e (Ev.now _)
 ·simp only [if_true]
  refine Ev.bind e ?_
  cases l
  ·exact Ev.now _
  ·simp; exact Ev.now _
theorem ev_spec_l3of (n : Int) (h0 : -9223372036854775808 ≤ n) (h1 : n ≤ 9223372036854775807) :
  ∃ l : List Int, Ev (fun k => spec_l3of.f k n) (decide (n < 0), l) ∧ Norm l ∧ val l = (if n < 0 then -n else n) ∧ l.length ≤ 5 := by
 unfold spec_l3of.f
 by_cases h : n < 0
 ·have d1 := dig_norm (n := -(n + 1)) (by omega) (by omega)
  have d2 := dig_norm (n := 1) (by omega) (by omega)
  have l1 := dig_len (-(n + 1))
  have l2 := dig_len 1
  obtain ⟨q, hq, q1, q2, q3⟩ := ev_spec_l2add _ _ d1.1 d2.1 (by omega) (by omega)
  rw [dig_val (by omega) (by omega), dig_val (by omega) (by omega)] at q2
  have hne : q ≠ [] := by intro e; subst e; simp [val] at q2; omega
  refine ⟨q, ?_, q1, by rw [if_pos h, q2]; omega, by omega⟩
  refine ev_if_pos h ?_
  rw [w64 (x := n + 1) (by omega) (by omega), w64 (by omega) (by omega)]
  refine Ev.bind (ev_spec_l2of _ (by omega)) (Ev.bind (ev_spec_l2of 1 (by omega)) (Ev.bind hq (Ev.bind (ev_spec_l3make true q q1 (by omega)) ?_)))
  have e : (true && !q.isEmpty) = decide (n < 0) := by cases q <;> simp_all
  rw [e]; exact Ev.now _
 ·have d1 := dig_norm (n := n) (by omega) (by omega)
  have l1 := dig_len n
  refine ⟨dig n, ?_, d1, by rw [if_neg h, dig_val (by omega) (by omega)], by omega⟩
  refine ev_if_neg h ?_
  refine Ev.bind (ev_spec_l2of _ (by omega)) (Ev.bind (ev_spec_l3make false _ d1 (by omega)) ?_)
  have e : (false && !(dig n).isEmpty) = decide (n < 0) := by simp [h]
  rw [e]; exact Ev.now _
theorem spec_l2bit_eq (l : List Int) (h : Limbs l) (i : Nat) (hi : i < 16 * l.length) (hb : l.length ≤ 1000000) : spec_l2bit.f l (i : Int) = some (rd l ((i / 16 : Nat) : Int) / 2 ^ (i % 16) % 2) := by
 have hx := rd_limb h ((i / 16 : Nat) : Int)
 have q : (i : Int) / 16 = ((i / 16 : Nat) : Int) := by omega
 have m : (i : Int) % 16 = ((i % 16 : Nat) : Int) := by omega
 have hp := two_pow_bd (show i % 16 < 16 by omega)
 unfold spec_l2bit.f
 rw [td _ _ (by omega), tm _ _ (by omega), q, m, w64 (by omega) (by omega), if_neg (by omega), if_neg (by omega), if_pos (by omega), if_pos (by omega), if_pos (by omega)]
 rw [shr_in (by omega) (by omega), Int.toNat_natCast]
 have h0 : 0 ≤ rd l ((i / 16 : Nat) : Int) / 2 ^ (i % 16) := Int.ediv_nonneg hx.1 (by omega)
 have h1 : rd l ((i / 16 : Nat) : Int) / 2 ^ (i % 16) ≤ 65535 := Int.le_trans (Int.ediv_le_self _ hx.1) hx.2
 rw [and_1 _ h0 (by omega)]
theorem bit_val {l : List Int} (h : Limbs l) (i : Nat) (hi : i < 16 * l.length) : rd l ((i / 16 : Nat) : Int) / 2 ^ (i % 16) % 2 = val l / 2 ^ i % 2 := by
 have e := shrI_two h (i : Int) (by omega)
 rw [Int.toNat_natCast] at e
 rw [← e]
 unfold shrI
 have e1 : ((i : Int) / 16).toNat = i / 16 := by omega
 have e2 : ((i : Int) % 16).toNat = i % 16 := by omega
 rw [e1, e2, val_drop_at (by omega)]
 generalize rd l ((i / 16 : Nat) : Int) = x
 generalize val (l.drop (i / 16 + 1)) = v
 rcases r16 (show i % 16 < 16 by omega) with c | c | c | c | c | c | c | c | c | c | c | c | c | c | c | c <;> rw [c] <;> simp only [Int.reducePow] <;> omega
theorem ev_spec_trail (l : List Int) (h : Norm l) (hn : l ≠ []) (hb : l.length ≤ 100000) : ∃ r : Nat, Ev (fun k => spec_l2trail.f k l) (r : Int) ∧ r ≤ 16 * l.length ∧ val l % 2 ^ r = 0 ∧ val l / 2 ^ r % 2 = 1 := by
 unfold spec_l2trail.f
 have hw : wrap64 (16 * (l.length : Int)) = 16 * (l.length : Int) := w64 (by omega) (by omega)
 have hp := h.pos hn
 have hv := val_lt h.1
 rw [pw_two] at hv
 have key : ∀ d i : Nat, i + d = 16 * l.length → val l % 2 ^ i = 0 → ∃ r : Nat, Ev (fun k => spec_l2trail.l0 k (i : Int) l) (r : Int) ∧ r ≤ 16 * l.length ∧ val l % 2 ^ r = 0 ∧ val l / 2 ^ r % 2 = 1 := by
  intro d
  induction d with
  | zero =>
   intro i hi hz
   rw [show i = 16 * l.length by omega, Int.emod_eq_of_lt (by omega) hv] at hz
   omega
  | succ d ih =>
   intro i hi hz
   have hbit := spec_l2bit_eq l h.1 i (by omega) (by omega)
   rw [bit_val h.1 i (by omega)] at hbit
   have hm : val l / 2 ^ i % 2 = 0 ∨ val l / 2 ^ i % 2 = 1 := by omega
   rcases hm with hm | hm
   ·have hz2 : val l % 2 ^ (i + 1) = 0 := by
     have h1 := Int.mul_ediv_add_emod (val l) (2 ^ i)
     have h2 : val l / 2 ^ i = 2 * (val l / 2 ^ i / 2) := by omega
     rw [hz, Int.add_zero, h2, ← Int.mul_assoc, Int.mul_comm _ 2, Int.mul_comm 2, ← Int.pow_succ] at h1
     rw [← h1]
     exact Int.mul_emod_right _ _
    obtain ⟨r, hr, h3⟩ := ih (i + 1) (by omega) hz2
    refine ⟨r, Ev.step (fun k => ?_) hr, h3⟩
    simp only [spec_l2trail.l0]
    rw [if_pos (by omega), hbit]
    simp only [Option.bind_some]
    rw [if_neg (by omega), w64 (by omega) (by omega), show (i : Int) + 1 = ((i + 1 : Nat) : Int) by omega]
   ·refine ⟨i, Ev.step (f := fun _ => some (i : Int)) (fun k => ?_) (Ev.now _), by omega, hz, hm⟩
    simp only [spec_l2trail.l0]
    rw [if_pos (by omega), hbit]
    simp only [Option.bind_some]
    rw [if_pos hm]
 exact key (16 * l.length) 0 (by omega) (by simp)
theorem ev_spec_l2small (a : List Int) (D : Int) (ha : Limbs a) (hb : a.length ≤ 1000000) (hD : 1 ≤ D) (hD2 : D ≤ 65536) :
  ∃ q : List Int, Ev (fun k => spec_l2small.f k a D) (q, val a % D) ∧ Norm q ∧ val q = val a / D ∧ q.length ≤ a.length := by
 unfold spec_l2small.f
 have key : ∀ d : Nat, d ≤ a.length → ∀ (x : List Int) (r : Int), x.length = a.length → Limbs x → 0 ≤ r → r < D → val (a.drop d) = val (x.drop d) * D + r →
   ∃ q : List Int, Ev (fun k => spec_l2small.l0 k D x r ((d : Int) - 1) a) (q, val a % D) ∧ Norm q ∧ val q = val a / D ∧ q.length ≤ a.length := by
  intro d
  induction d with
  | zero =>
   intro _ x r hx hl h0 h1 hv
   simp only [List.drop_zero] at hv
   obtain ⟨e1, e2⟩ := div_unique hD hv h0 h1
   refine ⟨strip x, ?_, strip_norm hl, by rw [val_strip]; exact e1, by have := strip_len x; omega⟩
   have hn := ev_spec_l2norm x (by omega)
   refine Ev.step (f := fun k => (spec_l2norm.f k x).bind fun t => some (t, r)) (fun k => ?_) ?_
   ·simp only [spec_l2small.l0]
    rw [if_neg (by omega)]
   ·rw [← e2]; exact Ev.bind hn (Ev.now _)
  | succ d ih =>
   intro hd x r hx hl h0 h1 hv
   have hy := rd_limb ha (d : Int)
   have hdg := small_digit D r (rd a (d : Int)) hD h0 h1 hy.1 hy.2
   have hm0 := Int.emod_nonneg (r * 65536 + rd a (d : Int)) (show D ≠ 0 by omega)
   have hm1 := Int.emod_lt_of_pos (r * 65536 + rd a (d : Int)) (show 0 < D by omega)
   obtain ⟨q, hq, hrest⟩ := ih (by omega) (x.set d ((r * 65536 + rd a (d : Int)) / D)) ((r * 65536 + rd a (d : Int)) % D) (by simpa using hx) (hl.set d hdg.1 hdg.2) hm0 hm1 (by
    rw [val_set_drop _ _ _ (by omega), val_drop_at (by omega)]
    exact small_step D r _ _ _ hD hv)
   refine ⟨q, Ev.step (fun k => ?_) hq, hrest⟩
   simp only [spec_l2small.l0]
   rw [show ((d + 1 : Nat) : Int) - 1 = (d : Int) by omega]
   rw [if_pos (by omega), if_pos (by omega), if_pos (by omega), if_neg (by omega), if_pos (by omega), w64 (x := r * 65536) (by omega) (by omega), w64 (x := r * 65536 + rd a (d : Int)) (by omega) (by omega), td _ _ (by omega), tm _ _ (by omega), w64 (by omega) (by omega), w64 (by omega) (by omega), Int.toNat_natCast]
 obtain ⟨q, hq, h2⟩ := key a.length (Nat.le_refl _) (List.replicate a.length 0) 0 (by simp) (Limbs.zeros _) (by omega) (by omega) (by rw [List.drop_length]; simp [val])
 refine ⟨q, ?_, h2⟩
 refine ev_if_pos (by omega) (ev_if_pos (by omega) ?_)
 rw [w64 (by omega) (by omega), Int.toNat_natCast]
 exact hq
theorem ev_spec_l2shr (a : List Int) (k : Int) (ha : Limbs a) (hb : a.length ≤ 1000000) (h0 : 0 ≤ k) (h1 : k ≤ 9223372036854775807) :
  ∃ q : List Int, Ev (fun n => spec_l2shr.f n a k) q ∧ Norm q ∧ val q = shrI a k ∧ q.length ≤ a.length := by
 unfold spec_l2shr.f shrI
 rw [td _ _ h0, tm _ _ h0, w64 (x := k / 16) (by omega) (by omega)]
 by_cases hl : k / 16 ≥ (a.length : Int)
 ·refine ⟨[], ev_if_pos hl (Ev.now _), Norm.nil, ?_, by simp⟩
  rw [List.drop_eq_nil_of_le (by omega)]; simp [val]
 ·have hp := two_pow_bd (show (k % 16).toNat < 16 by omega)
  obtain ⟨q, hq, h2, h3, h4⟩ := ev_spec_l2small (a.drop (k / 16).toNat) (2 ^ (k % 16).toNat) (ha.drop _) (by simp; omega) hp.1 (by omega)
  refine ⟨q, ?_, h2, h3, by simp at h4; omega⟩
  refine ev_if_neg hl (ev_if_pos (by omega) (ev_if_pos (by omega) (ev_if_pos (by omega) ?_)))
  have e : shl .i64 1 (k % 16) = 2 ^ (k % 16).toNat := by rw [shl_in (by omega) (by omega) (by omega) (by omega)]; omega
  rw [e]
  exact Ev.bind hq (Ev.now _)
theorem ev_spec_l4make_x (s : Bool) (l : List Int) (e : Int) (h : Norm l) (hn : l ≠ []) (hb : l.length ≤ 1000) (h0 : -20000 ≤ e) (h1 : e ≤ 20000) :
  ∃ (q : List Int) (z : Int), Ev (fun k => spec_l4make.f k s l e) (s, q, z) ∧ Norm q ∧ q ≠ [] ∧ q.length ≤ l.length ∧ e ≤ z ∧ z ≤ e + 16 * l.length ∧ val q % 2 = 1 ∧ ∀ t : Bool, xv t (val q) z = xv t (val l) e := by
 obtain ⟨r, r1, r2, r3, r4⟩ := ev_spec_trail l h hn (by omega)
 obtain ⟨q, q1, q2, q3, q4⟩ := ev_spec_l2shr l (r : Int) h.1 (by omega) (by omega) (by omega)
 rw [shrI_two h.1 _ (by omega), Int.toNat_natCast] at q3
 have hne : q ≠ [] := by
  intro c
  rw [c] at q3
  simp only [val] at q3
  omega
 have hm := ev_spec_l3make s q q2 (by omega)
 have ht : (s && !q.isEmpty) = s := by
  cases hq : q with
  | nil => exact absurd hq hne
  | cons c q => simp
 rw [ht] at hm
 refine ⟨q, e + r, ?_, q2, hne, q4, by omega, by omega, by rw [q3]; exact r4, fun t => ?_⟩
 ·unfold spec_l4make.f
  refine ev_if_neg (by have := List.length_pos_iff.2 hn; omega) (Ev.bind r1 (Ev.bind q1 (Ev.bind hm ?_)))
  rw [w64 (by omega) (by omega)]
  exact Ev.now _
 ·unfold xv
  have h2 := Int.mul_ediv_add_emod (val l) (2 ^ r)
  rw [r3, Int.add_zero] at h2
  rw [q3, show (e + (r : Int) + 20000).toNat = r + (e + 20000).toNat by omega, two_add, ← Int.mul_assoc, Int.mul_comm _ (2 ^ r), h2]
theorem mul_step (S P y t c p V : Int) (h : S + c * P = V) (ht : t = y + p + c) : S + (t % 65536 - y) * P + (t / 65536) * (65536 * P) = V + p * P := by
 have e := Int.mul_ediv_add_emod t 65536
 generalize t / 65536 = q at *
 generalize t % 65536 = r at *
 grind
theorem val_set (l : List Int) (i : Nat) (x : Int) (h : i < l.length) : val (l.set i x) = val l + (x - rd l (i : Int)) * pw i := by
 have h1 := val_take_drop (l.set i x) i (by simp; omega)
 have h2 := val_take_drop l i (by omega)
 rw [val_set_drop l i x h, List.take_set_of_le (by omega)] at h1
 rw [val_drop_at h] at h2
 rw [h1, h2]
 grind
theorem rd_set (l : List Int) (i j : Nat) (x : Int) (h : i < l.length) : rd (l.set i x) (j : Int) = if i = j then x else rd l (j : Int) := by
 rw [rd_nat, rd_nat, List.getD_eq_getElem?_getD, List.getD_eq_getElem?_getD, List.getElem?_set]
 by_cases e : i = j
 ·subst e; simp [h]
 ·simp [e]
theorem val_take_succ (l : List Int) (k : Nat) (h : k < l.length) : val (l.take (k + 1)) = val (l.take k) + pw k * rd l (k : Int) := by
 rw [take_snoc h, val_snoc, List.length_take, Nat.min_eq_left (by omega), rd_get _ _ h]
theorem mul_bound {x y : Int} (hx : 0 ≤ x ∧ x ≤ 65535) (hy : 0 ≤ y ∧ y ≤ 65535) : 0 ≤ x * y ∧ x * y ≤ 4294836225 := by
 refine ⟨Int.mul_nonneg hx.1 hy.1, ?_⟩
 exact Int.le_trans (Int.mul_le_mul hx.2 hy.2 hy.1 (by omega)) (by omega)
theorem spec_mul_row (a b : List Int) (ha : Limbs a) (hb : Limbs b) (hl : a.length ≤ 1000000) (hl2 : b.length ≤ 1000000) (i : Nat) (hi : i < a.length) (V0 : Int) (d : Nat) :
  ∀ (k : Nat) (out : List Int) (c : Int), k + d = b.length → out.length = a.length + b.length → Limbs out → 0 ≤ c → c ≤ 65535 → (∀ j : Nat, i + b.length ≤ j → rd out (j : Int) = 0) → val out + c * pw (i + k) = V0 + rd a (i : Int) * val (b.take k) * pw i →
   ∃ out' : List Int, out'.length = a.length + b.length ∧ Limbs out' ∧ (∀ j : Nat, i + 1 + b.length ≤ j → rd out' (j : Int) = 0) ∧ val out' = V0 + rd a (i : Int) * val b * pw i ∧
    ∀ r, Ev (fun n => spec_l2mul.l0 n out' ((i + 1 : Nat) : Int) a b) r → Ev (fun n => spec_l2mul.l1 n out (i : Int) c (k : Int) a b) r := by
 induction d with
 | zero =>
  intro k out c hk hlen ho c0 c1 hz hv
  have hkk : k = b.length := by omega
  subst hkk
  have w : wrap64 ((i : Int) + (b.length : Int)) = ((i + b.length : Nat) : Int) := by rw [w64 (by omega) (by omega)]; omega
  have z := hz (i + b.length) (Nat.le_refl _)
  refine ⟨out.set (i + b.length) c, by simpa using hlen, ho.set _ c0 c1, ?_, ?_, ?_⟩
  ·intro j hj
   rw [rd_set _ _ _ _ (by omega), if_neg (by omega)]
   exact hz j (by omega)
  ·rw [val_set _ _ _ (by omega), z, Int.sub_zero, hv, List.take_length]
  ·intro r hr
   refine Ev.step (fun n => by simp only [spec_l2mul.l1]; rfl) (ev_if_neg (by omega) ?_)
   rw [w, z, w64 (x := 0 + c) (by omega) (by omega), w64 (x := (i : Int) + 1) (by omega) (by omega), Int.zero_add]
   exact ev_if_pos (by omega) (ev_if_pos (by omega) hr)
 | succ d ih =>
  intro k out c hk hlen ho c0 c1 hz hv
  have w : wrap64 ((i : Int) + (k : Int)) = ((i + k : Nat) : Int) := by rw [w64 (by omega) (by omega)]; omega
  have hik : i + k < out.length := by
   clear hv hz
   omega
  have hkb : k < b.length := by
   clear hv hz
   omega
  have x1 := rd_limb ha (i : Int)
  have x2 := rd_limb hb (k : Int)
  have x3 := rd_limb ho ((i + k : Nat) : Int)
  have mb := mul_bound x1 x2
  have tb : 0 ≤ rd out ((i + k : Nat) : Int) + rd a (i : Int) * rd b (k : Int) + c ∧ rd out ((i + k : Nat) : Int) + rd a (i : Int) * rd b (k : Int) + c ≤ 4294967295 := by omega
  generalize ht : rd out ((i + k : Nat) : Int) + rd a (i : Int) * rd b (k : Int) + c = t at *
  have tq : (0 ≤ t % 65536 ∧ t % 65536 ≤ 65535) ∧ 0 ≤ t / 65536 ∧ t / 65536 ≤ 65535 := by
   clear hv hz ih mb
   omega
  have nlen : (out.set (i + k) (t % 65536)).length = a.length + b.length := by simpa using hlen
  have nz : ∀ j : Nat, i + b.length ≤ j → rd (out.set (i + k) (t % 65536)) (j : Int) = 0 := by
   intro j hj
   have hne : ¬ i + k = j := by
    clear hv hz ih tq tb mb x1 x2 x3
    omega
   rw [rd_set _ _ _ _ hik, if_neg hne]
   exact hz j hj
  have nv : val (out.set (i + k) (t % 65536)) + t / 65536 * pw (i + (k + 1)) = V0 + rd a (i : Int) * val (b.take (k + 1)) * pw i := by
   have ht' : t = rd out ((i + k : Nat) : Int) + rd a (i : Int) * rd b (k : Int) + c := ht.symm
   have hs := mul_step (val out) (pw (i + k)) (rd out ((i + k : Nat) : Int)) t c (rd a (i : Int) * rd b (k : Int)) _ hv ht'
   rw [val_set _ _ _ hik, val_take_succ _ _ hkb, show i + (k + 1) = (i + k) + 1 from rfl, show pw (i + k + 1) = 65536 * pw (i + k) from rfl, hs, pw_add]
   clear hs hv hz nz ih tb tq
   grind
  have hkd : k + 1 + d = b.length := by
   clear hv hz nv nz mb tb tq ih
   omega
  clear hv hz
  obtain ⟨out', g1, g2, g3, g4, g5⟩ := ih (k + 1) _ _ hkd nlen (ho.set _ tq.1.1 tq.1.2) tq.2.1 tq.2.2 nz nv
  have g4_ := g4
  clear ih nv nz g4
  refine ⟨out', g1, g2, g3, g4_, fun r hr => ?_⟩
  refine Ev.step (fun n => by simp only [spec_l2mul.l1]; rfl) (ev_if_pos (by omega) ?_)
  rw [w, w64 (x := rd a (i : Int) * rd b (k : Int)) (by omega) (by omega), w64 (x := rd out ((i + k : Nat) : Int) + rd a (i : Int) * rd b (k : Int)) (by omega) (by omega), ht, w64 (x := t) (by omega) (by omega), td t _ (by omega), tm t _ (by omega), w64 (x := t / 65536) (by omega) (by omega), w64 (x := (k : Int) + 1) (by omega) (by omega)]
  exact ev_if_pos (by omega) (ev_if_pos (by omega) (ev_if_pos (by omega) (ev_if_pos (by omega) (ev_if_pos (by omega) (g5 r hr)))))
theorem spec_mul_rows (a b : List Int) (ha : Limbs a) (hb : Limbs b) (hl : a.length ≤ 1000000) (hl2 : b.length ≤ 1000000) (d : Nat) :
  ∀ (i : Nat) (out : List Int), i + d = a.length → out.length = a.length + b.length → Limbs out → (∀ j : Nat, i + b.length ≤ j → rd out (j : Int) = 0) → val out = val (a.take i) * val b →
   ∃ q : List Int, Ev (fun n => spec_l2mul.l0 n out (i : Int) a b) q ∧ Norm q ∧ val q = val a * val b ∧ q.length ≤ a.length + b.length := by
 induction d with
 | zero =>
  intro i out hi hlen ho hz hv
  have hii : i = a.length := by omega
  subst hii
  refine ⟨strip out, ?_, strip_norm ho, by rw [val_strip, hv, List.take_length], by have := strip_len out; omega⟩
  refine Ev.step (fun n => by simp only [spec_l2mul.l0]; rfl) (ev_if_neg (by omega) ?_)
  exact Ev.bind (ev_spec_l2norm out (by omega)) (Ev.now _)
 | succ d ih =>
  intro i out hi hlen ho hz hv
  obtain ⟨out', g1, g2, g3, g4, g5⟩ := spec_mul_row a b ha hb hl hl2 i (by omega) (val out) b.length 0 out 0 (by omega) hlen ho (by omega) (by omega) hz (by simp [val])
  obtain ⟨q, q1, q2, q3, q4⟩ := ih (i + 1) out' (by omega) g1 g2 g3 (by
   rw [g4, hv, val_take_succ _ _ (by omega)]
   grind)
  refine ⟨q, ?_, q2, q3, q4⟩
  refine Ev.step (fun n => by simp only [spec_l2mul.l0]; rfl) (ev_if_pos (by omega) ?_)
  exact g5 q q1
theorem ev_spec_l2mul (a b : List Int) (ha : Limbs a) (hb : Limbs b) (hl : a.length ≤ 1000000) (hl2 : b.length ≤ 1000000) : ∃ q : List Int, Ev (fun n => spec_l2mul.f n a b) q ∧ Norm q ∧ val q = val a * val b ∧ q.length ≤ a.length + b.length := by
 obtain ⟨q, q1, q2, q3, q4⟩ := spec_mul_rows a b ha hb hl hl2 a.length 0 (List.replicate (a.length + b.length) 0) (by omega) (by simp) (Limbs.zeros _) (by
  intro j _
  rw [rd_nat, List.getD_eq_getElem?_getD, List.getElem?_replicate]
  split <;> rfl) (by rw [val_zeros]; simp [val])
 refine ⟨q, ?_, q2, q3, q4⟩
 unfold spec_l2mul.f
 have w : wrap64 ((a.length : Int) + (b.length : Int)) = ((a.length + b.length : Nat) : Int) := by rw [w64 (by omega) (by omega)]; omega
 rw [w]
 refine ev_if_pos (by omega) (ev_if_pos (by omega) ?_)
 rw [Int.toNat_natCast]
 exact q1
def shlI (l : List Int) (k : Int) : Int := pw (k / 16).toNat * (val l * 2 ^ (k % 16).toNat)
theorem ev_spec_l2shl (a : List Int) (k : Int) (ha : Limbs a) (hb : a.length ≤ 900000) (h0 : 0 ≤ k) (h1 : k ≤ 1000000) : ∃ q : List Int, Ev (fun n => spec_l2shl.f n a k) q ∧ Norm q ∧ val q = shlI a k ∧ (a ≠ [] → q.length ≤ (k / 16).toNat + a.length + 4) := by
 unfold spec_l2shl.f shlI
 by_cases hl : (a.length : Int) = 0
 ·have e : a = [] := List.eq_nil_of_length_eq_zero (by omega)
  subst e
  exact ⟨[], ev_if_pos hl (Ev.now _), Norm.nil, by simp [val], by simp⟩
 ·have hr : (k % 16).toNat < 16 := by omega
  have hp := two_pow_bd hr
  have e2 : shl .i64 1 (k % 16) = 2 ^ (k % 16).toNat := by rw [shl_in (by omega) (by omega) (by omega) (by omega)]; omega
  have zl : (List.replicate (k / 16).toNat (0 : Int)).length = (k / 16).toNat := by simp
  have al : (List.replicate (k / 16).toNat (0 : Int) ++ a).length = (k / 16).toNat + a.length := by simp
  have dl := dig_len (2 ^ (k % 16).toNat)
  obtain ⟨q, q1, q2, q3, q4⟩ := ev_spec_l2mul (List.replicate (k / 16).toNat 0 ++ a) (dig (2 ^ (k % 16).toNat)) (Limbs.append (Limbs.zeros _) ha) (dig_norm (by omega) (by omega)).1 (by omega) (by omega)
  refine ⟨q, ?_, q2, ?_, fun _ => by omega⟩
  ·rw [td _ _ h0, tm _ _ h0, w64 (x := k / 16) (by omega) (by omega)]
   refine ev_if_neg hl (ev_if_pos (by omega) (ev_if_pos (by omega) (ev_bind0 rfl (ev_if_pos (by omega) (ev_if_pos (by omega) ?_)))))
   rw [e2]
   exact Ev.bind (ev_spec_l2of _ (by omega)) (Ev.bind q1 (Ev.now _))
  ·rw [q3, val_append, val_zeros, zl, dig_val (by omega) (by omega)]
   grind
theorem bitLen_top (t : Int) (h0 : 1 ≤ t) (h1 : t ≤ 65535) : ∃ L : Nat, Go.Lib.bitLen t.toNat = L ∧ 1 ≤ L ∧ L ≤ 16 ∧ t < 2 ^ L ∧ 2 ^ (L - 1) ≤ t := by
 have hle : Go.Lib.bitLen t.toNat ≤ 16 := Go.Lib.bitLen_le _ 16 (by decide) (by omega)
 have hp := bitLen_pos t.toNat (by omega) (by omega)
 refine ⟨_, rfl, hp, hle, ?_, ?_⟩
 ·have := bitLen_lt t.toNat (Go.Lib.bitLen t.toNat) (Nat.le_refl _) (by omega)
  have e : ((2 ^ Go.Lib.bitLen t.toNat : Nat) : Int) = 2 ^ Go.Lib.bitLen t.toNat := by simp
  rw [← e]; omega
 ·by_cases h : (2 : Int) ^ (Go.Lib.bitLen t.toNat - 1) ≤ t
  ·exact h
  ·have e : ((2 ^ (Go.Lib.bitLen t.toNat - 1) : Nat) : Int) = 2 ^ (Go.Lib.bitLen t.toNat - 1) := by simp
   rw [← e] at h
   have := Go.Lib.bitLen_le t.toNat (Go.Lib.bitLen t.toNat - 1) (by omega) (by omega)
   omega
theorem ev_spec_l2bits (l : List Int) (h : Norm l) (hb : l.length ≤ 1000000) : Ev (fun k => spec_l2bits.f k l) (bitsV l) := by
 unfold spec_l2bits.f bitsV
 by_cases hl : 0 < l.length
 ·have hne : l ≠ [] := by intro e; subst e; simp at hl
  rw [if_neg hne, getLastD_rd l hl]
  have ht := okB_top h hl
  refine ev_if_neg (by omega) ?_
  rw [w64 (x := (l.length : Int) - 1) (by omega) (by omega)]
  refine ev_if_pos (by omega) (ev_if_pos (by omega) ?_)
  rw [w64 (by omega) (by omega)]
  generalize rd l ((l.length : Int) - 1) = t at *
  have key : ∀ f : Nat, ∀ n x : Int, 0 ≤ x → x < (2 : Int) ^ f → f ≤ 16 → 0 ≤ n → n + f ≤ 1000000000 → Ev (fun k => spec_l2bits.l0 k n x) (n + Go.Lib.bitLen x.toNat) := by
   intro f
   induction f with
   | zero =>
    intro n x h0 h1 _ hn hn2
    refine Ev.step (f := fun _ => some (n + Go.Lib.bitLen x.toNat)) (fun k => ?_) (Ev.now _)
    simp only [spec_l2bits.l0]
    have e : x = 0 := by simp at h1; omega
    subst e
    rw [if_neg (by omega)]; simp [bitLen_zero]
   | succ f ih =>
    intro n x h0 h1 hf hn hn2
    have h2 : (2 : Int) ^ (f + 1) = 2 * 2 ^ f := by rw [Int.pow_succ, Int.mul_comm]
    have h3 : (2 : Int) ^ f ≤ 65536 := by
     have := Nat.pow_le_pow_right (show 0 < 2 by decide) (show f ≤ 16 by omega)
     have e : ((2 ^ f : Nat) : Int) = (2 : Int) ^ f := by simp
     omega
    rw [h2] at h1
    by_cases hx : x > 0
    ·rw [bitLen_half_int x hx (by omega), ← Int.add_assoc]
     refine Ev.step (f := fun k => spec_l2bits.l0 k (n + 1) (x / 2)) (fun k => ?_) (ih (n + 1) (x / 2) (by omega) (by omega) (by omega) (by omega) (by omega))
     simp only [spec_l2bits.l0]
     rw [if_pos hx, td _ _ (by omega), w64 (by omega) (by omega), w64 (by omega) (by omega)]
    ·refine Ev.step (f := fun _ => some (n + Go.Lib.bitLen x.toNat)) (fun k => ?_) (Ev.now _)
     simp only [spec_l2bits.l0]
     have e : x = 0 := by omega
     subst e
     rw [if_neg (by omega)]; simp [bitLen_zero]
  exact key 16 (16 * ((l.length : Int) - 1)) t (by omega) (by omega) (by omega) (by omega) (by omega)
 ·have e : l = [] := List.eq_nil_of_length_eq_zero (by omega)
  subst e; exact Ev.now _
theorem within_eq (a b c : Int) : impl_within.f a b c = some (decide (b ≤ a ∧ a ≤ c)) := by
 unfold impl_within.f
 by_cases h : b ≤ a <;> simp [h]
def flOkB (k : Int) (s : Bool) (m e : Int) : Bool :=
 if k = 1 then decide (-1074 ≤ e ∧ e ≤ 971 ∧ 1 ≤ m ∧ m ≤ 9007199254740991 ∧ (4503599627370496 ≤ m ∨ e = -1074))
 else if k = 0 ∨ k = 2 then decide (m = 0 ∧ e = 0) else decide (k = 3 ∧ m = 0 ∧ e = 0 ∧ s = false)
theorem spec_FlOk_1 (k : Int) (s : Bool) (m e : Int) : spec_FlOk.f 1 k s m e = some (flOkB k s m e) := by
 unfold spec_FlOk.f flOkB
 simp only [spec_FlOk.j0]
 by_cases k1 : k = 1
 ·subst k1
  simp only [Int.reduceEq, if_false, if_true, Int.reduceBEq, Bool.false_eq_true]
  by_cases h1 : e < -1074
  ·rw [if_pos h1]; simp; omega
  rw [if_neg h1]
  by_cases h2 : e > 971
  ·rw [if_pos h2]; simp; omega
  rw [if_neg h2]
  by_cases h3 : m < 1
  ·rw [if_pos h3]; simp; omega
  rw [if_neg h3]
  by_cases h4 : m ≥ 9007199254740992
  ·rw [if_pos h4]; simp; omega
  rw [if_neg h4]
  by_cases h5 : m ≥ 4503599627370496
  ·rw [if_pos h5]; simp; omega
  rw [if_neg h5]
  by_cases h6 : e = -1074
  ·subst h6; simp; omega
  ·rw [show (e == -1074) = false from by simpa using h6]; simp; omega
 ·rw [if_neg k1]
  by_cases k0 : k = 0
  ·subst k0
   by_cases hm : m = 0 <;> by_cases he : e = 0 <;> simp [hm, he]
  ·rw [if_neg k0]
   by_cases k2 : k = 2
   ·subst k2
    by_cases hm : m = 0 <;> by_cases he : e = 0 <;> simp [hm, he]
   ·by_cases k3 : k = 3
    ·subst k3
     by_cases hm : m = 0 <;> by_cases he : e = 0 <;> cases s <;> simp [hm, he]
    ·simp [k0, k1, k2, k3]
theorem impl_FlOk_eq (k : Int) (s : Bool) (m e : Int) : impl_FlOk.f k s m e = some (flOkB k s m e) := by
 unfold impl_FlOk.f flOkB
 simp only [within_eq, Option.bind_some, decide_eq_true_eq]
 by_cases k1 : k = 1
 ·rw [if_pos k1, if_pos k1]
  by_cases h1 : -1074 ≤ e ∧ e ≤ 971
  ·rw [if_pos h1]
   by_cases h2 : 4503599627370496 ≤ m ∧ m ≤ 9007199254740991
   ·rw [if_pos h2]; simp; omega
   ·rw [if_neg h2]
    by_cases h3 : 1 ≤ m ∧ m ≤ 4503599627370495
    ·rw [if_pos h3]
     by_cases h6 : e = -1074
     ·subst h6; simp; omega
     ·rw [show (e == -1074) = false from by simpa using h6]; simp; omega
    ·rw [if_neg h3]; simp; omega
  ·rw [if_neg h1]; simp; omega
 ·rw [if_neg k1, if_neg k1]
  by_cases k0 : k = 0
  ·subst k0
   by_cases hm : m = 0 <;> by_cases he : e = 0 <;> simp [hm, he]
  ·rw [if_neg k0]
   by_cases k2 : k = 2
   ·subst k2
    by_cases hm : m = 0 <;> by_cases he : e = 0 <;> simp [hm, he]
   ·rw [if_neg k2]
    by_cases k3 : k = 3
    ·subst k3
     by_cases hm : m = 0 <;> by_cases he : e = 0 <;> cases s <;> simp [hm, he]
    ·simp [k0, k2, k3]
theorem ev_spec_FlOk (k : Int) (s : Bool) (m e : Int) : Ev (fun n => spec_FlOk.f n k s m e) (flOkB k s m e) := Ev.of (fun n => spec_FlOk.mono k s m e n) (spec_FlOk_1 k s m e)
theorem tot_now {α : Type} (a : α) : ∃ r, Ev (fun _ => some a) r := ⟨a, Ev.now a⟩
theorem tot_if {α : Type} {c : Prop} [Decidable c] {g f : Nat → Option α} (h1 : ∃ r, Ev g r) (h2 : ∃ r, Ev f r) : ∃ r, Ev (fun n => if c then g n else f n) r := by
 obtain ⟨a, ha⟩ := h1
 obtain ⟨b, hb⟩ := h2
 by_cases h : c
 ·exact ⟨a, ev_if_pos h ha⟩
 ·exact ⟨b, ev_if_neg h hb⟩
theorem tot_step {α : Type} {g f : Nat → Option α} (h : ∀ n, g (n + 1) = f n) (k : ∃ r, Ev f r) : ∃ r, Ev g r := by
 obtain ⟨r, hr⟩ := k
 exact ⟨r, Ev.step h hr⟩
theorem flNext_total (k : Int) (s : Bool) (m e : Int) : ∃ r, Ev (fun n => spec_FlNext.f n k s m e) r := by
 have j1 : ∀ x k s m e, ∃ r, Ev (fun n => spec_FlNext.j1 n x k s m e) r := fun x k s m e => tot_step (fun n => by simp only [spec_FlNext.j1]; rfl) (tot_if (tot_now _) (tot_if (tot_now _) (tot_now _)))
 have j0 : ∀ x k s m e a b c d, ∃ r, Ev (fun n => spec_FlNext.j0 n x k s m e a b c d) r := fun x k s m e a b c d =>
  tot_step (fun n => by simp only [spec_FlNext.j0, spec_l5most.f, Option.bind_some]; rfl) (tot_if (tot_now _) (tot_if (tot_now _) (tot_if (tot_now _) (tot_if (tot_if (j1 _ _ _ _ _) (j1 _ _ _ _ _)) (tot_if (tot_if (tot_now _) (tot_now _)) (tot_if (tot_now _) (tot_now _)))))))
 have h : ∃ r, Ev (fun n => if flOkB k s m e = true then (if k = 3 then (spec_FlNext.j0 n true k s m e 1 false 1 (-1074)) else (if k = 2 then (spec_FlNext.j0 n (!s) k s m e 1 false 1 (-1074)) else (spec_FlNext.j0 n false k s m e 1 false 1 (-1074)))) else some ((3, false, 0, 0) : Int × Bool × Int × Int)) r :=
  tot_if (tot_if (j0 _ _ _ _ _ _ _ _ _) (tot_if (j0 _ _ _ _ _ _ _ _ _) (j0 _ _ _ _ _ _ _ _ _))) (tot_now _)
 obtain ⟨r, hr⟩ := h
 exact ⟨r, Ev.bind (ev_spec_FlOk k s m e) hr⟩
theorem l2int_total (l : List Int) (hb : l.length ≤ 1000000) : ∃ r, Ev (fun k => spec_l2int.f k l) r := by
 unfold spec_l2int.f
 rw [w64 (by omega) (by omega)]
 have key : ∀ d : Nat, d ≤ l.length → ∀ x, ∃ r, Ev (fun k => spec_l2int.l0 k x ((d : Int) - 1) l) r := by
  intro d
  induction d with
  | zero =>
   intro _ x
   refine ⟨x, Ev.step (f := fun _ => some x) (fun k => ?_) (Ev.now _)⟩
   simp only [spec_l2int.l0]
   rw [if_neg (by omega)]
  | succ d ih =>
   intro hd x
   obtain ⟨r, h⟩ := ih (by omega) (wrap64 (wrap64 (x * 65536) + rd l (d : Int)))
   refine ⟨r, Ev.step (f := fun k => spec_l2int.l0 k (wrap64 (wrap64 (x * 65536) + rd l (d : Int))) ((d : Int) - 1) l) (fun k => ?_) h⟩
   simp only [spec_l2int.l0]
   rw [show ((d + 1 : Nat) : Int) - 1 = (d : Int) by omega]
   rw [if_pos (by omega), if_pos (by omega), if_pos (by omega), w64 (x := (d : Int) - 1) (by omega) (by omega)]
 exact key l.length (Nat.le_refl _) 0
theorem ev_spec_l4top_x (s : Bool) (x z : Int) (x0 : 1 ≤ x) (x1 : x ≤ 65535) (z0 : -1000 ≤ z) (z1 : z ≤ 1000) : ∃ B : Nat, 1 ≤ B ∧ B ≤ 16 ∧ Ev (fun k => spec_l4top.f k s [x] z) (z + B) := by
 obtain ⟨L, e, L1, L2, _, _⟩ := bitLen_top x x0 x1
 refine ⟨L, L1, L2, ?_⟩
 have hN : Norm [x] := by rw [← dig_small x0 x1]; exact dig_norm (by omega) (by omega)
 have hb : bitsV [x] = L := by
  unfold bitsV
  rw [if_neg (by simp)]
  show 16 * ((1 : Int) - 1) + (Go.Lib.bitLen x.toNat : Int) = L
  omega
 unfold spec_l4top.f
 refine ev_if_neg (by simp) (Ev.bind (ev_spec_l2bits [x] hN (by simp)) ?_)
 rw [hb, w64 (by omega) (by omega)]
 exact Ev.now _
theorem ev_spec_l5round_x (s : Bool) (x z : Int) (x0 : 1 ≤ x) (x1 : x ≤ 65535) (z0 : -900 ≤ z) (z1 : z ≤ 900) : ∃ r, Ev (fun k => spec_l5round.f k s [x] z 0 false) r := by
 obtain ⟨B, B1, B2, ht⟩ := ev_spec_l4top_x s x z x0 x1 (by omega) (by omega)
 have hN : Norm [x] := by rw [← dig_small x0 x1]; exact dig_norm (by omega) (by omega)
 obtain ⟨q, hq, q1, q2, q3⟩ := ev_spec_l2shl [x] (53 - B) hN.1 (by simp) (by omega) (by omega)
 have q4 := q3 (by simp)
 obtain ⟨m, hm⟩ := l2int_total q (by simp only [List.length_cons, List.length_nil] at q4; omega)
 have hr : Ev (fun k => spec_l4round.f k s [x] z (z + B - 53) 0) (s, [x], z, true) := by
  unfold spec_l4round.f
  refine ev_if_neg (by simp) ?_
  rw [decide_eq_true (by omega)]
  refine Ev.step (fun k => by simp only [spec_l4round.j0]; rfl) ?_
  exact ev_if_pos trivial (Ev.now _)
 have h1 : Ev (fun k => spec_l5round.j1 k 0 0 s [x] z s [x] z) (1, s, m, z + B - 53, 0) := by
  refine Ev.step (fun k => by simp only [spec_l5round.j1]; rfl) ?_
  refine ev_if_neg (by simp) (Ev.bind ht (ev_if_neg (by omega) (Ev.bind ht ?_)))
  rw [w64 (x := z + B - 53) (by omega) (by omega), w64 (by omega) (by omega)]
  refine ev_if_neg (by omega) (Ev.bind (a := q) ?_ (Ev.bind hm (Ev.now _)))
  rw [show z - (z + (B : Int) - 53) = 53 - B by omega, w64 (by omega) (by omega)]
  exact hq
 refine ⟨(1, s, m, z + B - 53, 0), ?_⟩
 unfold spec_l5round.f
 refine ev_if_neg (by simp) (Ev.bind ht ?_)
 rw [w64 (by omega) (by omega)]
 exact ev_if_neg (by omega) (Ev.step (fun k => by simp only [spec_l5round.j0]; rfl) (Ev.bind hr (ev_if_pos rfl h1)))
theorem ev_round_small (s : Bool) (l : List Int) (e : Int) (h : Norm l) (hv : val l ≤ 20) (e0 : -2 ≤ e) (e1 : e ≤ 2) :
  ∃ a c, Ev (fun k => spec_l4make.f k s l e) a ∧ Ev (fun k => spec_l5round.f k a.1 a.2.1 a.2.2 0 false) c := by
 by_cases hn : l = []
 ·subst hn
  refine ⟨(false, [], 0), (0, false, 0, 0, 0), ?_, ?_⟩
  ·unfold spec_l4make.f
   exact ev_if_pos rfl (Ev.now _)
  ·unfold spec_l5round.f
   exact ev_if_pos rfl (Ev.now _)
 ·have v1 : 1 ≤ val l := by
   have h0 := val_nonneg h.1
   by_cases c : val l = 0
   ·exact absurd (norm_inj h Norm.nil (by rw [c]; rfl)) hn
   ·omega
  have hl : l = [val l] := by
   have := dig_of_norm h (by omega)
   rwa [dig_small v1 (by omega)] at this
  have hl1 : l.length = 1 := by rw [hl]; rfl
  obtain ⟨q, z, m1, m2, m3, m4, m5, m6, m7, _⟩ := ev_spec_l4make_x s l e h hn (by omega) (by omega) (by omega)
  cases q with
  | nil => exact absurd rfl m3
  | cons x q =>
   cases q with
   | cons y q => simp only [List.length_cons] at m4; omega
   | nil =>
    have hx := m2.1 x List.mem_cons_self
    simp only [val] at m7
    obtain ⟨c, hc⟩ := ev_spec_l5round_x s x z (by omega) (by omega) (by omega) (by omega)
    exact ⟨_, c, m1, hc⟩
theorem ev_l5draw (b : List Int) (i h : Int) (hb : b.length ≤ 1000000000000000000) (h0 : 0 ≤ i) : ∃ k s m e j g, Ev (fun n => spec_l5draw.f n b i h) (k, s, m, e, j, g) ∧ 0 ≤ j := by
 unfold spec_l5draw.f
 obtain ⟨t, j1, g1, e1, p1⟩ := l1Once_some b i h 2 hb h0
 obtain ⟨x, j2, g2, e2, x0, x1, _, p2⟩ := l1Below_some b j1 g1 9 hb p1
 by_cases c0 : x = 0
 ·obtain ⟨q, j3, g3, e3, q1, p3⟩ := l1Pick_some b j2 g2 [0, 2] hb p2 (by decide) (by decide)
  exact ⟨_, _, _, _, _, _, ev_bind0 e1 (ev_bind0 e2 (ev_if_pos c0 (ev_bind0 e3 (Ev.now _)))), p3⟩
 by_cases c1 : x = 1
 ·exact ⟨_, _, _, _, _, _, ev_bind0 e1 (ev_bind0 e2 (ev_if_neg c0 (ev_if_pos c1 (ev_bind0 rfl (Ev.now _))))), p2⟩
 by_cases c2 : x = 2
 ·obtain ⟨q, j3, g3, e3, q1, p3⟩ := l1Pick_some b j2 g2 [1, 2, 4503599627370495, 4503599627370496, 4503599627370497, 12345] hb p2 (by decide) (by decide)
  exact ⟨_, _, _, _, _, _, ev_bind0 e1 (ev_bind0 e2 (ev_if_neg c0 (ev_if_neg c1 (ev_if_pos c2 (ev_bind0 e3 (Ev.now _)))))), p3⟩
 by_cases c3 : x = 3
 ·obtain ⟨q, j3, g3, e3, q1, p3⟩ := l1Pick_some b j2 g2 [4503599627370496, 9007199254740991, 9007199254740990] hb p2 (by decide) (by decide)
  obtain ⟨r, j4, g4, e4, r1, p4⟩ := l1Pick_some b j3 g3 [971, 970, 0, (-52), (-1000)] hb p3 (by decide) (by decide)
  exact ⟨_, _, _, _, _, _, ev_bind0 e1 (ev_bind0 e2 (ev_if_neg c0 (ev_if_neg c1 (ev_if_neg c2 (ev_if_pos c3 (ev_bind0 e3 (ev_bind0 e4 (Ev.now _)))))))), p4⟩
 by_cases c4 : x = 4
 ·obtain ⟨y, j3, g3, e3, y0, y1, _, p3⟩ := l1Below_some b j2 g2 40 hb p2
  obtain ⟨v, j4, g4, e4, v0, v1, _, p4⟩ := l1Below_some b j3 g3 5 hb p3
  have y2 := y1 (by omega)
  have v2 := v1 (by omega)
  have yw : wrap64 (y - 20) = y - 20 := w64 (by omega) (by omega)
  have vw : wrap64 (v - 2) = v - 2 := w64 (by omega) (by omega)
  obtain ⟨l, l1, l2, l3, l4⟩ := ev_spec_l3of (y - 20) (by omega) (by omega)
  obtain ⟨a, c, ha, hc⟩ := ev_round_small (decide (y - 20 < 0)) l (v - 2) l2 (by rw [l3]; split <;> omega) (by omega) (by omega)
  refine ⟨_, _, _, _, _, _, ev_bind0 e1 (ev_bind0 e2 (ev_if_neg c0 (ev_if_neg c1 (ev_if_neg c2 (ev_if_neg c3 (ev_if_pos c4 (ev_bind0 e3 (Ev.bind (a := (decide (y - 20 < 0), l)) ?_ (ev_bind0 e4 (Ev.bind (a := a) ?_ (Ev.bind hc (Ev.now _)))))))))))), p4⟩
  ·dsimp only
   rw [yw]; exact l1
  ·dsimp only
   rw [vw]; exact ha
 obtain ⟨u, j3, g3, e3, _, _, _, p3⟩ := l1Below_some b j2 g2 1073741824 hb p2
 obtain ⟨v, j4, g4, e4, _, _, _, p4⟩ := l1Below_some b j3 g3 999 hb p3
 obtain ⟨w, j5, g5, e5, p5⟩ := l1Once_some b j4 g4 3 hb p4
 cases w with
 | true =>
  obtain ⟨q, j6, g6, e6, q1, p6⟩ := l1Pick_some b j5 g5 [1, 3, 2251799813685248, 1073741824] hb p5 (by decide) (by decide)
  obtain ⟨y, j7, g7, e7, _, _, _, p7⟩ := l1Below_some b j6 g6 40 hb p6
  obtain ⟨r, j8, g8, e8, r1, p8⟩ := l1Pick_some b j7 g7 [(-52), (-50), (-55), (-53), (-60), 0, 10, (-600), 500, (-1000), 900, wrap64 (y - 70)] hb p7 (by simp) (by simp)
  exact ⟨_, _, _, _, _, _, ev_bind0 e1 (ev_bind0 e2 (ev_if_neg c0 (ev_if_neg c1 (ev_if_neg c2 (ev_if_neg c3 (ev_if_neg c4 (ev_bind0 e3 (ev_bind0 e4 (ev_bind0 e5 (ev_if_pos rfl (ev_bind0 e6 (ev_bind0 e7 (ev_bind0 e8 (Ev.now _)))))))))))))), p8⟩
 | false =>
  obtain ⟨y, j7, g7, e7, _, _, _, p7⟩ := l1Below_some b j5 g5 40 hb p5
  obtain ⟨r, j8, g8, e8, r1, p8⟩ := l1Pick_some b j7 g7 [(-52), (-50), (-55), (-53), (-60), 0, 10, (-600), 500, (-1000), 900, wrap64 (y - 70)] hb p7 (by simp) (by simp)
  exact ⟨_, _, _, _, _, _, ev_bind0 e1 (ev_bind0 e2 (ev_if_neg c0 (ev_if_neg c1 (ev_if_neg c2 (ev_if_neg c3 (ev_if_neg c4 (ev_bind0 e3 (ev_bind0 e4 (ev_bind0 e5 (ev_if_neg (by simp) (ev_bind0 e7 (ev_bind0 e8 (Ev.now _))))))))))))), p8⟩
theorem ev_l5bent (b : List Int) (i h : Int) (hb : b.length ≤ 1000000000000000000) (h0 : 0 ≤ i) : ∃ k s m e j g, Ev (fun n => spec_l5bent.f n b i h) (k, s, m, e, j, g) ∧ 0 ≤ j := by
 unfold spec_l5bent.f
 obtain ⟨k, s, m, e, j, g, e1, p1⟩ := ev_l5draw b i h hb h0
 obtain ⟨t, j2, g2, e2, p2⟩ := l1Once_some b j g 12 hb p1
 cases t with
 | false => exact ⟨_, _, _, _, _, _, Ev.bind e1 (ev_bind0 e2 (ev_if_neg (by simp) (Ev.now _))), p2⟩
 | true =>
  obtain ⟨x, j3, g3, e3, x0, x1, _, p3⟩ := l1Below_some b j2 g2 4 hb p2
  by_cases c0 : x = 0
  ·obtain ⟨y, j4, g4, e4, _, _, _, p4⟩ := l1Below_some b j3 g3 6 hb p3
   exact ⟨_, _, _, _, _, _, Ev.bind e1 (ev_bind0 e2 (ev_if_pos rfl (ev_bind0 e3 (ev_if_pos c0 (ev_bind0 e4 (Ev.now _)))))), p4⟩
  by_cases c1 : x = 1
  ·obtain ⟨q, j4, g4, e4, q1, p4⟩ := l1Pick_some b j3 g3 [0, (-1), 1, 9007199254740992] hb p3 (by decide) (by decide)
   exact ⟨_, _, _, _, _, _, Ev.bind e1 (ev_bind0 e2 (ev_if_pos rfl (ev_bind0 e3 (ev_if_neg c0 (ev_if_pos c1 (ev_bind0 e4 (Ev.now _))))))), p4⟩
  by_cases c2 : x = 2
  ·obtain ⟨q, j4, g4, e4, q1, p4⟩ := l1Pick_some b j3 g3 [(-1075), 972, 0] hb p3 (by decide) (by decide)
   exact ⟨_, _, _, _, _, _, Ev.bind e1 (ev_bind0 e2 (ev_if_pos rfl (ev_bind0 e3 (ev_if_neg c0 (ev_if_neg c1 (ev_if_pos c2 (ev_bind0 e4 (Ev.now _)))))))), p4⟩
  exact ⟨_, _, _, _, _, _, Ev.bind e1 (ev_bind0 e2 (ev_if_pos rfl (ev_bind0 e3 (ev_if_neg c0 (ev_if_neg c1 (ev_if_neg c2 (Ev.now _))))))), p3⟩
theorem ev_DrawFlCmp (b : List Int) (hb : b.length ≤ 1000000000000000000) : ∃ k s m e k' s' m' e', Ev (fun n => spec_DrawFlCmp.f n b) (k, s, m, e, k', s', m', e') := by
 obtain ⟨h, e0⟩ := ev_l1New b hb
 obtain ⟨k, s, m, e, j, g, e1, p1⟩ := ev_l5bent b 0 h hb (Int.le_refl _)
 obtain ⟨t, j2, g2, e2, p2⟩ := l1Once_some b j g 4 hb p1
 have pair : ∃ k' s' m' e' j' g', Ev (fun n => spec_l5pair.f n b 0 h) (k, s, m, e, k', s', m', e', j', g') ∧ 0 ≤ j' := by
  unfold spec_l5pair.f
  cases t with
  | false =>
   obtain ⟨k', s', m', e', j', g', e3, p3⟩ := ev_l5bent b j2 g2 hb p2
   exact ⟨_, _, _, _, _, _, Ev.bind e1 (ev_bind0 e2 (ev_if_neg (by simp) (Ev.bind e3 (Ev.now _)))), p3⟩
  | true =>
   obtain ⟨r, hr⟩ := flNext_total k s m e
   by_cases c : r.1 = 3
   ·exact ⟨r.1, r.2.1, r.2.2.1, r.2.2.2, _, _, Ev.bind e1 (ev_bind0 e2 (ev_if_pos rfl (Ev.bind hr (ev_bind0 (a := r) (by unfold spec_l5neg.f; rw [if_pos c]) (Ev.now _))))), p2⟩
   ·exact ⟨r.1, !r.2.1, r.2.2.1, r.2.2.2, _, _, Ev.bind e1 (ev_bind0 e2 (ev_if_pos rfl (Ev.bind hr (ev_bind0 (a := (r.1, !r.2.1, r.2.2.1, r.2.2.2)) (by unfold spec_l5neg.f; rw [if_neg c]) (Ev.now _))))), p2⟩
 obtain ⟨k', s', m', e', j', g', e3, p3⟩ := pair
 obtain ⟨t, j4, g4, e4, _⟩ := l1Once_some b j' g' 3 hb p3
 unfold spec_DrawFlCmp.f
 cases t with
 | false => exact ⟨_, _, _, _, _, _, _, _, Ev.bind e0 (Ev.bind e3 (ev_bind0 e4 (ev_if_neg (by simp) (Ev.now _))))⟩
 | true => exact ⟨_, _, _, _, _, _, _, _, Ev.bind e0 (Ev.bind e3 (ev_bind0 e4 (ev_if_pos rfl (Ev.now _))))⟩
theorem flOk_num {s : Bool} {m e : Int} (h : flOkB 1 s m e = true) : -1074 ≤ e ∧ e ≤ 971 ∧ 1 ≤ m ∧ m ≤ 9007199254740991 ∧ (4503599627370496 ≤ m ∨ e = -1074) := by
 simpa [flOkB] using h
theorem flOk_kind {k : Int} {s : Bool} {m e : Int} (h : flOkB k s m e = true) : k = 0 ∨ k = 1 ∨ k = 2 ∨ k = 3 := by
 unfold flOkB at h
 by_cases k1 : k = 1
 ·exact .inr (.inl k1)
 rw [if_neg k1] at h
 by_cases k2 : k = 0 ∨ k = 2
 ·omega
 rw [if_neg k2] at h
 simp at h; omega
theorem flOk_zero {k : Int} {s : Bool} {m e : Int} (h : flOkB k s m e = true) (hk : k ≠ 1) : m = 0 ∧ e = 0 ∧ (k = 3 → s = false) := by
 unfold flOkB at h
 rw [if_neg hk] at h
 by_cases k2 : k = 0 ∨ k = 2
 ·rw [if_pos k2] at h
  simp at h
  exact ⟨h.1, h.2, fun e => by omega⟩
 rw [if_neg k2] at h
 simp at h
 exact ⟨h.2.1, h.2.2.1, fun _ => h.2.2.2⟩
def fv (k : Int) (s : Bool) (m e : Int) : Int := if k = 1 then xv s m e else 0
def flRank (k : Int) (s : Bool) : Int := if k = 2 then (if s = true then -1 else 1) else 0
def flCmpV (k : Int) (s : Bool) (m e : Int) (k' : Int) (s' : Bool) (m' e' : Int) : Int :=
 if k = 2 ∨ k' = 2 then cmpI (flRank k s) (flRank k' s') else cmpI (fv k s m e) (fv k' s' m' e')
theorem ev_impl_trim (l : List Int) (hb : l.length ≤ 1000000000) : Ev (fun k => impl_trim.f k l) (strip l) := by
 unfold impl_trim.f
 have key : ∀ n : Nat, n ≤ l.length → strip (l.take n) = strip l → Ev (fun k => impl_trim.l0 k (l.take n)) (strip l) := by
  intro n
  induction n with
  | zero =>
   intro _ hs
   refine Ev.step (f := fun _ => some (strip l)) (fun k => ?_) (Ev.now _)
   simp only [impl_trim.l0]
   rw [if_neg (by simp)]
   simpa [strip] using hs
  | succ n ih =>
   intro hn hs
   have hlen : (l.take (n + 1)).length = n + 1 := by simp; omega
   have hrd : rd (l.take (n + 1)) (n : Int) = l[n] := by
    rw [rd_get _ _ (by omega)]; simp
   by_cases h0 : l[n] = 0
   ·refine Ev.step (f := fun k => impl_trim.l0 k (l.take n)) (fun k => ?_) (ih (by omega) ?_)
    ·simp only [impl_trim.l0]
     rw [hlen, show ((n + 1 : Nat) : Int) - 1 = (n : Int) by omega, w64 (x := (n : Int)) (by omega) (by omega), if_pos (by omega), if_pos (by omega), if_pos (by omega), hrd, if_pos h0, if_pos (by omega)]
     rw [Int.toNat_natCast, List.take_take, Nat.min_eq_left (by omega)]
    ·rw [← hs, strip_take_zero (by omega) h0]
   ·refine Ev.step (f := fun _ => some (strip l)) (fun k => ?_) (Ev.now _)
    simp only [impl_trim.l0]
    rw [hlen, show ((n + 1 : Nat) : Int) - 1 = (n : Int) by omega, w64 (x := (n : Int)) (by omega) (by omega), if_pos (by omega), if_pos (by omega), if_pos (by omega), hrd, if_neg h0]
    rw [← hs, strip_take_ne (by omega) h0]
 have := key l.length (Nat.le_refl _) (by simp)
 rw [List.take_length] at this
 exact this
theorem up_step (O P c x R A T : Int) (h : O + P * (c + (x + 65536 * A) * R) = T) : O + P * ((c + x * R) % 65536) + 65536 * P * ((c + x * R) / 65536 + A * R) = T := by
 have e := Int.mul_ediv_add_emod (c + x * R) 65536
 have e2 : c + (x + 65536 * A) * R = (c + x * R) % 65536 + 65536 * ((c + x * R) / 65536 + A * R) := by
  rw [Int.add_mul, Int.mul_assoc]; omega
 rw [e2, Int.mul_add, ← Int.mul_assoc, Int.mul_comm P 65536] at h
 omega
theorem ev_impl_up (a : List Int) (k : Int) (ha : Limbs a) (hb : a.length ≤ 1000000) (h0 : 0 ≤ k) (h1 : k ≤ 10000000) :
  ∃ q : List Int, Ev (fun n => impl_up.f n a k) q ∧ Norm q ∧ val q = shlI a k := by
 unfold impl_up.f shlI
 rw [td _ _ h0, w64 (x := k / 16) (by omega) (by omega)]
 by_cases hl : (a.length : Int) = 0
 ·have e : a = [] := List.eq_nil_of_length_eq_zero (by omega)
  subst e
  exact ⟨[], ev_if_pos hl (Ev.now _), Norm.nil, by simp [val]⟩
 ·have hr : (k % 16).toNat < 16 := by omega
  have hp := two_pow_bd hr
  rw [w64 (x := k / 16 + (a.length : Int)) (by omega) (by omega), w64 (by omega) (by omega)]
  generalize hR : (2 : Int) ^ (k % 16).toNat = R at *
  have key : ∀ d i : Nat, i + d = a.length → ∀ (out : List Int) (c : Int), out.length = (k / 16).toNat + i → Limbs out → 0 ≤ c → c ≤ 65535 →
    val out + pw ((k / 16).toNat + i) * (c + val (a.drop i) * R) = pw (k / 16).toNat * (val a * R) →
    ∃ q : List Int, Ev (fun n => impl_up.l0 n k out c a (a.length : Int) (i : Int)) q ∧ Norm q ∧ val q = pw (k / 16).toNat * (val a * R) := by
   intro d
   induction d with
   | zero =>
    intro i hi out c ho hlim hc0 hc1 hv
    rw [List.drop_eq_nil_of_le (by omega)] at hv
    simp only [val, Int.zero_mul, Int.add_zero] at hv
    refine ⟨strip (out ++ [c]), ?_, strip_norm (hlim.append (Limbs.cons hc0 hc1 Limbs.nil)), by rw [val_strip, val_snoc, ho]; exact hv⟩
    refine Ev.step (f := fun n => (impl_trim.f n (out ++ [c])).bind fun t => some t) (fun n => ?_) ?_
    ·simp only [impl_up.l0]
     rw [if_neg (by omega), if_pos (by omega)]
    ·exact Ev.bind (ev_impl_trim _ (by simp; omega)) (Ev.now _)
   | succ d ih =>
    intro i hi out c ho hlim hc0 hc1 hv
    have hx := rd_limb ha (i : Int)
    rw [val_drop_at (by omega)] at hv
    have hs := up_step _ _ _ _ _ _ _ hv
    have hxr : 0 ≤ rd a (i : Int) * R := Int.mul_nonneg hx.1 (by omega)
    have hxr2 : rd a (i : Int) * R ≤ 65535 * 32768 := Int.mul_le_mul hx.2 hp.2 (by omega) (by omega)
    have hxr3 : (c + rd a (i : Int) * R) / 65536 ≤ 65535 := by omega
    have hm : 0 ≤ (c + rd a (i : Int) * R) % 65536 ∧ (c + rd a (i : Int) * R) % 65536 ≤ 65535 := by omega
    obtain ⟨q, hq, hrest⟩ := ih (i + 1) (by omega) (out ++ [(c + rd a (i : Int) * R) % 65536]) ((c + rd a (i : Int) * R) / 65536) (by simp; omega) (hlim.append (Limbs.cons hm.1 hm.2 Limbs.nil)) (by omega) hxr3 (by
     rw [val_snoc, ho, show (k / 16).toNat + (i + 1) = ((k / 16).toNat + i) + 1 by omega]; simp only [pw]; exact hs)
    refine ⟨q, Ev.step (fun n => ?_) hq, hrest⟩
    simp only [impl_up.l0]
    rw [tm _ _ h0, if_pos (by omega), if_pos (by omega), if_pos (by omega), if_pos (by omega), if_pos (by omega), shl_in (by omega) (by omega) hx.1 hx.2, hR, w64 (x := c + rd a (i : Int) * R) (by omega) (by omega), tm _ _ (by omega), td _ _ (by omega), w64 (by omega) (by omega), w64 (by omega) (by omega)]
    rfl
  obtain ⟨q, hq, h2⟩ := key a.length 0 (by omega) (List.replicate (k / 16).toNat 0) 0 (by simp) (Limbs.zeros _) (by omega) (by omega) (by rw [val_zeros]; simp)
  refine ⟨q, ?_, h2⟩
  refine ev_if_neg hl (ev_if_pos (by omega) (ev_if_pos (by omega) (ev_if_pos (by omega) ?_)))
  exact hq
theorem shlI_two (l : List Int) (k : Int) (h0 : 0 ≤ k) : shlI l k = val l * 2 ^ k.toNat := by
 unfold shlI
 rw [← pw_two_toNat k h0, ← Int.mul_assoc, ← Int.mul_assoc, Int.mul_comm (pw _) (val l)]
def sCmp (s : Bool) (a : List Int) (t : Bool) (b : List Int) : Int := if (s != t) = true then (if s = true then -1 else 1) else if s = true then cmpI (val b) (val a) else cmpI (val a) (val b)
theorem sCmp_sg (s : Bool) (a : List Int) (t : Bool) (b : List Int) (ha : Norm a) (hb : Norm b) (hs : s = true → a ≠ []) (ht : t = true → b ≠ []) : sCmp s a t b = cmpI (sg s (val a)) (sg t (val b)) := by
 have a0 := val_nonneg ha.1
 have b0 := val_nonneg hb.1
 unfold sCmp
 cases s <;> cases t
 ·rfl
 ·have := hb.pos (ht rfl)
  simp only [sg]
  rw [if_pos (by decide), if_neg (by decide), cmpI_gt (by simp; omega)]
 ·have := ha.pos (hs rfl)
  simp only [sg]
  rw [if_pos (by decide), if_pos trivial, cmpI_lt (by simp; omega)]
 ·simp only [sg]
  rw [if_neg (by decide), if_pos trivial, if_pos trivial, if_pos trivial]
  unfold cmpI
  by_cases h : val b < val a
  ·rw [if_pos h, if_pos (by omega)]
  ·by_cases h2 : val b > val a
   ·rw [if_neg h, if_pos h2, if_neg (by omega), if_pos (by omega)]
   ·rw [if_neg h, if_neg h2, if_neg (by omega), if_neg (by omega)]
theorem cmp_Compare_eq (a b : Int) : cmp_Compare_int.f a b = some (cmpI a b) := by
 unfold cmp_Compare_int.f cmp_isNaN_int.f cmpI
 simp only [Option.bind_some, bne_self_eq_false, Bool.false_eq_true, if_false]
 by_cases h : a < b
 ·rw [if_pos h, if_pos h]
 ·rw [if_neg h, if_neg h]
  by_cases h2 : a > b
  ·rw [if_pos h2, if_pos h2]
  ·rw [if_neg h2, if_neg h2]
theorem ev_impl_compare (a b : List Int) (ha : Norm a) (hb : Norm b) (hl : a.length ≤ 1000000) (hl2 : b.length ≤ 1000000) : Ev (fun k => impl_compare.f k a b) (cmpI (val a) (val b)) := by
 unfold impl_compare.f
 simp only [cmp_Compare_eq, Option.bind_some]
 by_cases he : (a.length : Int) = (b.length : Int)
 ·refine ev_if_pos he ?_
  rw [w64 (by omega) (by omega)]
  have key : ∀ d : Nat, d ≤ a.length → val (a.drop d) = val (b.drop d) → Ev (fun k => impl_compare.l0 k a b ((d : Int) - 1)) (cmpI (val a) (val b)) := by
   intro d
   induction d with
   | zero =>
    intro _ hv
    simp at hv
    rw [cmpI_eq hv]
    refine Ev.step (f := fun _ => some 0) (fun k => ?_) (Ev.now _)
    simp only [impl_compare.l0]
    rw [if_neg (by omega)]
   | succ d ih =>
    intro hd hv
    rw [show ((d + 1 : Nat) : Int) - 1 = (d : Int) by omega]
    by_cases h0 : rd a (d : Int) = rd b (d : Int)
    ·refine Ev.step (f := fun k => impl_compare.l0 k a b ((d : Int) - 1)) (fun k => ?_) (ih (by omega) ?_)
     ·simp only [impl_compare.l0]
      rw [if_pos (by omega), if_pos (by omega), if_pos (by omega), if_pos (by omega), if_pos h0, w64 (by omega) (by omega)]
     ·rw [rd_get _ _ (by omega), rd_get _ _ (by omega)] at h0
      rw [List.drop_eq_getElem_cons (show d < a.length by omega), List.drop_eq_getElem_cons (show d < b.length by omega)]
      simp only [val, h0, hv]
    ·have e : cmpI (rd a (d : Int)) (rd b (d : Int)) = cmpI (val a) (val b) := by
      by_cases h1 : rd a (d : Int) < rd b (d : Int)
      ·rw [cmpI_lt h1, cmpI_lt (val_lt_at ha.1 hb.1 (i := d) (by omega) (by omega) hv (by rwa [rd_get _ _ (by omega), rd_get _ _ (by omega)] at h1))]
      ·have h2 : rd b (d : Int) < rd a (d : Int) := by omega
       rw [cmpI_gt h2, cmpI_gt (val_lt_at hb.1 ha.1 (i := d) (by omega) (by omega) hv.symm (by rwa [rd_get _ _ (by omega), rd_get _ _ (by omega)] at h2))]
     rw [← e]
     refine Ev.step (f := fun _ => some (cmpI (rd a (d : Int)) (rd b (d : Int)))) (fun k => ?_) (Ev.now _)
     simp only [impl_compare.l0, cmp_Compare_eq, Option.bind_some]
     rw [if_pos (by omega), if_pos (by omega), if_pos (by omega), if_pos (by omega), if_neg h0]
  exact key a.length (Nat.le_refl _) (by rw [List.drop_length, show a.length = b.length by omega, List.drop_length])
 ·refine ev_if_neg he ?_
  have e : cmpI (a.length : Int) (b.length : Int) = cmpI (val a) (val b) := by
   by_cases h : (a.length : Int) < (b.length : Int)
   ·rw [cmpI_lt h, cmpI_lt (val_lt_len ha.1 hb (by omega))]
   ·rw [cmpI_gt (show (b.length : Int) < (a.length : Int) by omega), cmpI_gt (val_lt_len hb.1 ha (by omega))]
  rw [e]; exact Ev.now _
theorem ev_impl_signedCompare (s : Bool) (a : List Int) (t : Bool) (b : List Int) (ha : Norm a) (hb : Norm b) (hl : a.length ≤ 1000000) (hl2 : b.length ≤ 1000000) : Ev (fun k => impl_signedCompare.f k s a t b) (sCmp s a t b) := by
 unfold impl_signedCompare.f sCmp
 cases s <;> cases t
 ·refine ev_if_neg (by simp) (Ev.step (fun k => by simp only [impl_signedCompare.j0]; rfl) (ev_if_neg (by simp) (ev_if_neg (by simp) ?_)))
  refine Ev.step (fun k => by simp only [impl_signedCompare.j1]; rfl) (ev_if_neg (by simp) (ev_if_neg (by simp) ?_))
  exact Ev.bind (ev_impl_compare a b ha hb hl hl2) (Ev.now _)
 ·refine ev_if_neg (by simp) (Ev.step (fun k => by simp only [impl_signedCompare.j0]; rfl) (ev_if_neg (by simp) (ev_if_neg (by simp) ?_)))
  exact Ev.step (fun k => by simp only [impl_signedCompare.j1]; rfl) (ev_if_pos (by trivial) (Ev.now _))
 ·refine ev_if_pos (by trivial) (Ev.step (fun k => by simp only [impl_signedCompare.j0]; rfl) ?_)
  exact ev_if_pos (by trivial) (Ev.now _)
 ·refine ev_if_pos (by trivial) (Ev.step (fun k => by simp only [impl_signedCompare.j0]; rfl) (ev_if_neg (by simp) (ev_if_pos (by trivial) ?_)))
  refine Ev.step (fun k => by simp only [impl_signedCompare.j1]; rfl) (ev_if_neg (by simp) (ev_if_pos (by trivial) ?_))
  exact Ev.bind (ev_impl_compare b a hb ha hl2 hl) (Ev.now _)
theorem mx_sub (x z : Int) (hx : x ≤ 30000) (hx0 : -30000 ≤ x) (hz : z ≤ 30000) (hz0 : -30000 ≤ z) : mx (wrap64 (x - z)) 0 = if x < z then 0 else x - z := by
 rw [w64 (by omega) (by omega)]
 unfold mx
 by_cases h : x < z
 ·rw [if_pos h, if_pos (by omega)]
 ·rw [if_neg h, if_neg (by omega)]
theorem up_side (a : List Int) (x z : Int) (ha : Norm a) (hl : a.length ≤ 1000) (hx : x ≤ 20000) (hx0 : -20000 ≤ x) (hz : z ≤ 20000) (hz0 : -20000 ≤ z) (h : a = [] ∨ z ≤ x) :
  ∃ p : List Int, Ev (fun k => impl_up.f k a (mx (wrap64 (x - z)) 0)) p ∧ Norm p ∧ p.length ≤ 50000 ∧ (a ≠ [] → p ≠ []) ∧ ∀ s : Bool, xv s (val a) x = sg s (val p) * 2 ^ (z + 20000).toNat := by
 rw [mx_sub x z (by omega) (by omega) (by omega) (by omega)]
 obtain ⟨p, p1, p2, p3⟩ := ev_impl_up a (if x < z then 0 else x - z) ha.1 (by omega) (by split <;> omega) (by split <;> omega)
 have k0 : 0 ≤ (if x < z then 0 else x - z) := by split <;> omega
 have k1 : (if x < z then 0 else x - z) ≤ 40000 := by split <;> omega
 rw [shlI_two a _ k0] at p3
 have hlen := len_shl ha.1 p2 _ p3
 refine ⟨p, p1, p2, by omega, ?_, fun s => ?_⟩
 ·intro hn e
  have h1 := ha.pos hn
  rw [e] at p3
  simp only [val] at p3
  have h2 := two_pos (if x < z then 0 else x - z).toNat
  have h3 : 1 * 1 ≤ val a * 2 ^ (if x < z then 0 else x - z).toNat := Int.mul_le_mul h1 h2 (by omega) (by omega)
  omega
 ·unfold xv
  rw [p3, ← sg_mul]
  rcases h with h | h
  ·subst h
   simp [val]
  ·rw [if_neg (by omega), Int.mul_assoc, ← two_add]
   congr 3
   omega
theorem ev_impl_exact_compare (s : Bool) (a : List Int) (x : Int) (t : Bool) (b : List Int) (y : Int) (ha : Norm a) (hb : Norm b) (hl : a.length ≤ 1000) (hl2 : b.length ≤ 1000) (hx : x ≤ 20000) (hx0 : -20000 ≤ x) (hy : y ≤ 20000) (hy0 : -20000 ≤ y)
  (hs : s = true → a ≠ []) (ht : t = true → b ≠ []) : Ev (fun k => impl_exact_compare.f k s a x t b y) (cmpI (xv s (val a) x) (xv t (val b) y)) := by
 have fin : ∀ z : Int, z ≤ 20000 → -20000 ≤ z → (a = [] ∨ z ≤ x) → (b = [] ∨ z ≤ y) →
   (∀ p q : List Int, Ev (fun k => (impl_up.f k a (mx (wrap64 (x - z)) 0)).bind fun u => ((impl_up.f k b (mx (wrap64 (y - z)) 0)).bind fun v => (some (u, v, z)))) (p, q, z) → Ev (fun k => impl_aligned.f k s a x t b y) (p, q, z)) →
   Ev (fun k => impl_exact_compare.f k s a x t b y) (cmpI (xv s (val a) x) (xv t (val b) y)) := by
  intro z z1 z0 h1 h2 hev
  obtain ⟨u, pu⟩ := up_side a x z ha hl hx hx0 z1 z0 h1
  obtain ⟨v, qv⟩ := up_side b y z hb hl2 hy hy0 z1 z0 h2
  rw [pu.2.2.2.2 s, qv.2.2.2.2 t, cmpI_scale _ _ _ (two_pos _), ← sCmp_sg s u t v pu.2.1 qv.2.1 (fun e => pu.2.2.2.1 (hs e)) (fun e => qv.2.2.2.1 (ht e))]
  unfold impl_exact_compare.f
  exact Ev.bind (hev u v (Ev.bind pu.1 (Ev.bind qv.1 (Ev.now _)))) (Ev.bind (ev_impl_signedCompare s u t v pu.2.1 qv.2.1 (by omega) (by omega)) (Ev.now _))
 have nil_iff : ∀ l : List Int, (l.length : Int) = 0 ↔ l = [] := fun l => ⟨fun h => List.eq_nil_of_length_eq_zero (by omega), fun h => by subst h; rfl⟩
 by_cases e1 : a = []
 ·by_cases e2 : b = []
  ·refine fin x hx hx0 (.inl e1) (.inl e2) (fun p q hpq => ?_)
   unfold impl_aligned.f
   refine ev_if_pos ((nil_iff a).2 e1) (Ev.step (fun n => by simp only [impl_aligned.j0]; rfl) (ev_if_pos ((nil_iff b).2 e2) ?_))
   exact hpq
  ·refine fin y hy hy0 (.inl e1) (.inr (Int.le_refl _)) (fun p q hpq => ?_)
   unfold impl_aligned.f
   refine ev_if_pos ((nil_iff a).2 e1) (Ev.step (fun n => by simp only [impl_aligned.j0]; rfl) (ev_if_neg (fun h => e2 ((nil_iff b).1 h)) ?_))
   exact hpq
 ·by_cases e2 : b = []
  ·refine fin x hx hx0 (.inr (Int.le_refl _)) (.inl e2) (fun p q hpq => ?_)
   unfold impl_aligned.f
   refine ev_if_neg (fun h => e1 ((nil_iff a).1 h)) (Ev.step (fun n => by simp only [impl_aligned.j0]; rfl) (ev_if_pos ((nil_iff b).2 e2) ?_))
   exact hpq
  ·have m1 : mn x y ≤ x := by unfold mn; split <;> omega
   have m2 : mn x y ≤ y := by unfold mn; split <;> omega
   have m3 : -20000 ≤ mn x y := by unfold mn; split <;> omega
   refine fin (mn x y) (by omega) m3 (.inr m1) (.inr m2) (fun p q hpq => ?_)
   unfold impl_aligned.f
   refine ev_if_neg (fun h => e1 ((nil_iff a).1 h)) (Ev.step (fun n => by simp only [impl_aligned.j0]; rfl) (ev_if_neg (fun h => e2 ((nil_iff b).1 h)) ?_))
   exact hpq
theorem ev_impl_small (n : Int) (h1 : n ≤ 9223372036854775807) : Ev (fun k => impl_small.f k n) (dig n) := by
 unfold impl_small.f dig
 have key : ∀ f : Nat, ∀ x : Int, ∀ acc : List Int, x < pw f → x ≤ 9223372036854775807 → acc.length + f < 1000 → Ev (fun k => impl_small.l0 k x acc) (acc ++ digF f x) := by
  intro f
  induction f with
  | zero =>
   intro x acc hx hb ha
   simp [pw] at hx
   refine Ev.step (f := fun _ => some (acc ++ digF 0 x)) (fun k => ?_) (Ev.now _)
   simp only [impl_small.l0]
   rw [if_neg (by omega)]; simp [digF]
  | succ f ih =>
   intro x acc hx hb ha
   by_cases h : x ≤ 0
   ·refine Ev.step (f := fun _ => some (acc ++ digF (f + 1) x)) (fun k => ?_) (Ev.now _)
    simp only [impl_small.l0]
    rw [if_neg (by omega)]; simp [digF, h]
   ·have e : acc ++ digF (f + 1) x = (acc ++ [x % 65536]) ++ digF f (x / 65536) := by
     simp [digF, h]
    rw [e]
    simp only [pw] at hx
    refine Ev.step (f := fun k => impl_small.l0 k (x / 65536) (acc ++ [x % 65536])) (fun k => ?_) (ih _ _ (by omega) (by omega) (by simp; omega))
    simp only [impl_small.l0]
    rw [if_pos (by omega), if_pos (by omega), td _ _ (by omega), tm _ _ (by omega), w64 (by omega) (by omega)]
 have := key 4 n [] (by rw [pw4]; omega) h1 (by simp)
 simpa using this
theorem impl_fl (k : Int) (s : Bool) (m e : Int) (h : flOkB k s m e = true) : ∃ (t : Bool) (q : List Int), Ev (fun n => impl_Fl_exact.f n k s m e) (t, q, e) ∧ Norm q ∧ (t = true → q ≠ []) ∧ q.length ≤ 4 ∧ -2000 ≤ e ∧ e ≤ 2000 ∧ xv t (val q) e = fv k s m e := by
 have hm : 0 ≤ m ∧ m ≤ 9007199254740991 ∧ -2000 ≤ e ∧ e ≤ 2000 ∧ (k ≠ 1 → m = 0) ∧ (k = 1 → 1 ≤ m) := by
  by_cases hk : k = 1
  ·subst hk
   have := flOk_num h
   omega
  ·have := flOk_zero h hk
   omega
 have dv := dig_val (n := m) (by omega) (by omega)
 have nd := dig_norm (n := m) (by omega) (by omega)
 have hs := ev_impl_small m (by omega)
 refine ⟨s && decide (k = 1), dig m, ?_, nd, ?_, by have := dig_len m; omega, by omega, by omega, ?_⟩
 ·unfold impl_Fl_exact.f
  cases s
  ·exact ev_if_neg (by simp) (Ev.bind hs (Ev.now _))
  ·refine ev_if_pos rfl (Ev.bind hs ?_)
   have e1 : (k == 1) = (true && decide (k = 1)) := by
    by_cases hk : k = 1 <;> simp [hk]
   rw [e1]
   exact Ev.now _
 ·intro ht hq
  rw [hq] at dv
  simp only [val] at dv
  simp at ht
  omega
 ·unfold fv
  rw [dv]
  by_cases hk : k = 1
  ·rw [if_pos hk]; simp [hk]
  ·rw [if_neg hk, hm.2.2.2.2.1 hk, xv_zero]
theorem ev_impl_FlCmp_ok (k : Int) (s : Bool) (m e : Int) (k' : Int) (s' : Bool) (m' e' : Int) (h : flOkB k s m e = true) (h' : flOkB k' s' m' e' = true) (n1 : k ≠ 3) (n2 : k' ≠ 3) :
  Ev (fun n => impl_FlCmp.f n k s m e k' s' m' e') (flCmpV k s m e k' s' m' e', true) := by
 unfold impl_FlCmp.f
 have hk : impl_hasKind.f 3 k s m e k' s' m' e' = some false := by
  unfold impl_hasKind.f
  rw [if_neg n1]
  simp [n2]
 refine ev_bind0 (impl_FlOk_eq k s m e) (ev_if_pos h (ev_bind0 (impl_FlOk_eq k' s' m' e') (ev_if_pos h' (ev_bind0 hk (ev_if_neg (by simp) ?_)))))
 have hr : ∀ (k : Int) (s : Bool) (m e : Int), impl_compareFloats_1.f k s m e = some (flRank k s) := by
  intro k s m e
  unfold impl_compareFloats_1.f flRank
  by_cases c : k = 2
  ·rw [if_pos c, if_pos c]; cases s <;> rfl
  ·rw [if_neg c, if_neg c]
 have rb : ∀ (k : Int) (s : Bool), (k = 2 → flRank k s = 1 ∨ flRank k s = -1) ∧ (k ≠ 2 → flRank k s = 0) := by
  intro k s
  unfold flRank
  constructor
  ·intro c; rw [if_pos c]; cases s <;> simp
  ·intro c; rw [if_neg c]
 have r1 := rb k s
 have r2 := rb k' s'
 refine Ev.bind (a := flCmpV k s m e k' s' m' e') ?_ (Ev.now _)
 unfold impl_compareFloats.f
 refine ev_bind0 (hr _ _ _ _) (ev_bind0 (hr _ _ _ _) (ev_bind0 (cmp_Compare_eq _ _) ?_))
 by_cases c : k = 2 ∨ k' = 2
 ·have ev : flCmpV k s m e k' s' m' e' = cmpI (flRank k s) (flRank k' s') := by unfold flCmpV; rw [if_pos c]
  rw [ev]
  by_cases q : cmpI (flRank k s) (flRank k' s') = 0
  ·refine ev_if_pos q (ev_bind0 (hr _ _ _ _) ?_)
   have hb : (flRank k s != 0) = true := by
    have e1 : flRank k s = flRank k' s' := by
     unfold cmpI at q
     by_cases l : flRank k s < flRank k' s'
     ·rw [if_pos l] at q; omega
     ·rw [if_neg l] at q
      by_cases g : flRank k s > flRank k' s'
      ·rw [if_pos g] at q; omega
      ·omega
    simp
    rcases c with c | c
    ·have := r1.1 c; omega
    ·have := r2.1 c; omega
   rw [hb]
   exact Ev.step (fun n => by simp only [impl_compareFloats.j0]; rfl) (ev_if_pos (by trivial) (Ev.now _))
  ·refine ev_if_neg q ?_
   exact Ev.step (fun n => by simp only [impl_compareFloats.j0]; rfl) (ev_if_pos (by trivial) (Ev.now _))
 ·have z1 := r1.2 (by omega)
  have z2 := r2.2 (by omega)
  rw [z1, z2]
  refine ev_if_pos (cmpI_eq rfl) (ev_bind0 (hr _ _ _ _) ?_)
  rw [z1]
  refine Ev.step (fun n => by simp only [impl_compareFloats.j0]; rfl) (ev_if_neg (by simp) ?_)
  obtain ⟨t, q, q1, q2, q3, q4, q5, q6, q7⟩ := impl_fl k s m e h
  obtain ⟨t', p, p1, p2, p3, p4, p5, p6, p7⟩ := impl_fl k' s' m' e' h'
  have hc := ev_impl_exact_compare t q e t' p e' q2 p2 (by omega) (by omega) (by omega) (by omega) (by omega) (by omega) q3 p3
  rw [q7, p7] at hc
  unfold flCmpV
  rw [if_neg c]
  exact Ev.bind q1 (Ev.bind p1 (Ev.bind hc (Ev.now _)))
theorem impl_FlCmp_all (k : Int) (s : Bool) (m e : Int) (k' : Int) (s' : Bool) (m' e' : Int) :
  Ev (fun n => impl_FlCmp.f n k s m e k' s' m' e') (if flOkB k s m e = true ∧ flOkB k' s' m' e' = true ∧ k ≠ 3 ∧ k' ≠ 3 then (flCmpV k s m e k' s' m' e', true) else (0, false)) := by
 by_cases h : flOkB k s m e = true
 ·by_cases h' : flOkB k' s' m' e' = true
  ·by_cases n1 : k = 3
   ·rw [if_neg (fun z => z.2.2.1 n1)]
    unfold impl_FlCmp.f
    refine ev_bind0 (impl_FlOk_eq k s m e) (ev_if_pos h (ev_bind0 (impl_FlOk_eq k' s' m' e') (ev_if_pos h' (ev_bind0 (a := true) ?_ (ev_if_pos rfl (Ev.now _))))))
    unfold impl_hasKind.f
    rw [if_pos n1]
   ·by_cases n2 : k' = 3
    ·rw [if_neg (fun z => z.2.2.2 n2)]
     unfold impl_FlCmp.f
     refine ev_bind0 (impl_FlOk_eq k s m e) (ev_if_pos h (ev_bind0 (impl_FlOk_eq k' s' m' e') (ev_if_pos h' (ev_bind0 (a := true) ?_ (ev_if_pos rfl (Ev.now _))))))
     unfold impl_hasKind.f
     rw [if_neg n1]
     simp [n2]
    ·rw [if_pos ⟨h, h', n1, n2⟩]
     exact ev_impl_FlCmp_ok k s m e k' s' m' e' h h' n1 n2
  ·rw [if_neg (fun z => h' z.2.1)]
   unfold impl_FlCmp.f
   exact ev_bind0 (impl_FlOk_eq k s m e) (ev_if_pos h (ev_bind0 (impl_FlOk_eq k' s' m' e') (ev_if_neg h' (Ev.now _))))
 ·rw [if_neg (fun z => h z.1)]
  unfold impl_FlCmp.f
  exact ev_bind0 (impl_FlOk_eq k s m e) (ev_if_neg h (Ev.now _))
theorem ctz_limb (x : Int) (h0 : 1 ≤ x) (h1 : x ≤ 65535) : Go.Lib.ctz 64 x.toNat < 16 ∧ x / 2 ^ (Go.Lib.ctz 64 x.toNat) % 2 = 1 ∧ ∀ t : Nat, t < Go.Lib.ctz 64 x.toNat → x / 2 ^ t % 2 = 0 := by
 obtain ⟨n, rfl⟩ := Int.eq_ofNat_of_zero_le (show 0 ≤ x by omega)
 rw [Int.toNat_natCast]
 have e : Go.Lib.ctz 64 n = Go.Lib.ctzFrom 64 n := by unfold Go.Lib.ctz; rw [if_neg (by omega)]
 obtain ⟨m, hm, hc⟩ := Go.Lib.ctzFrom_spec 64 n (by omega) (by omega)
 rw [e]
 generalize Go.Lib.ctzFrom 64 n = c at *
 have c16 : c < 16 := by
  rcases Nat.lt_or_ge c 16 with h | h
  ·exact h
  ·have : 2 ^ 16 ≤ 2 ^ c := Nat.pow_le_pow_right (by omega) h
   have : 2 ^ c * 1 ≤ 2 ^ c * (2 * m + 1) := Nat.mul_le_mul_left _ (by omega)
   omega
 refine ⟨c16, ?_, fun t ht => ?_⟩
 ·have : n / 2 ^ c = 2 * m + 1 := by rw [hm, Nat.mul_div_cancel_left _ (Nat.two_pow_pos c)]
  have e2 : ((n : Int) / 2 ^ c) = ((n / 2 ^ c : Nat) : Int) := by simp
  rw [e2, this]
  omega
 ·have hs : 2 ^ c = 2 ^ t * (2 * 2 ^ (c - t - 1)) := by
   rw [← Nat.pow_succ', ← Nat.pow_add]
   congr 1
   omega
  have : n / 2 ^ t = 2 * (2 ^ (c - t - 1) * (2 * m + 1)) := by
   rw [hm, hs, Nat.mul_assoc, Nat.mul_div_cancel_left _ (Nat.two_pow_pos t), Nat.mul_assoc]
  have e2 : ((n : Int) / 2 ^ t) = ((n / 2 ^ t : Nat) : Int) := by simp
  rw [e2, this]
  omega
theorem first_limb (l : List Int) : (∀ i : Nat, i < l.length → rd l (i : Int) = 0) ∨ ∃ j : Nat, j < l.length ∧ rd l (j : Int) ≠ 0 ∧ ∀ i : Nat, i < j → rd l (i : Int) = 0 := by
 induction l with
 | nil => exact .inl (fun i h => by simp at h)
 | cons x l ih =>
  by_cases hx : x = 0
  ·rcases ih with h | ⟨j, h1, h2, h3⟩
   ·refine .inl (fun i hi => ?_)
    cases i with
    | zero => exact hx
    | succ i => exact h i (by simp at hi; omega)
   ·refine .inr ⟨j + 1, by simp; omega, h2, fun i hi => ?_⟩
    cases i with
    | zero => exact hx
    | succ i => exact h3 i (by omega)
  ·exact .inr ⟨0, by simp, hx, fun i hi => by omega⟩
theorem shr_odd (l : List Int) (h : Limbs l) (j c : Nat) (hj : j < l.length) (hc : c < 16) (hb : rd l (j : Int) / 2 ^ c % 2 = 1) : shrI l ((16 * j + c : Nat) : Int) % 2 = 1 := by
 have e1 : (((16 * j + c : Nat) : Int) / 16).toNat = j := by omega
 have e2 : (((16 * j + c : Nat) : Int) % 16).toNat = c := by omega
 unfold shrI
 rw [e1, e2, val_drop_at hj]
 have hx := rd_limb h (j : Int)
 generalize rd l (j : Int) = x at *
 generalize val (l.drop (j + 1)) = v at *
 rcases r16 hc with e | e | e | e | e | e | e | e | e | e | e | e | e | e | e | e <;> subst e <;> simp only [Int.reducePow] at hb ⊢ <;> omega
theorem trail_agree (l : List Int) (h : Norm l) (hb : l.length ≤ 1000000) : ∃ r : Int, 0 ≤ r ∧ r ≤ 16 * l.length ∧ (l ≠ [] → shrI l r % 2 = 1) ∧ Ev (fun k => spec_l2trail.f k l) r ∧ Ev (fun k => impl_trailOf.f k l) r := by
 unfold spec_l2trail.f impl_trailOf.f
 have hw : wrap64 (16 * (l.length : Int)) = 16 * (l.length : Int) := w64 (by omega) (by omega)
 rcases first_limb l with hz | ⟨j, hj, hx, hz⟩
 ·have hn : l = [] := by
   by_cases e : l = []
   ·exact e
   ·have hl : 0 < l.length := List.length_pos_iff.2 e
    have t := okB_top h hl
    have := hz (l.length - 1) (by omega)
    rw [show ((l.length - 1 : Nat) : Int) = (l.length : Int) - 1 by omega] at this
    omega
  subst hn
  refine ⟨0, by omega, by simp, fun z => absurd rfl z, ?_, ?_⟩
  ·refine Ev.step (fun k => by simp only [spec_l2trail.l0]; rfl) (ev_if_neg (by simp [wrap64]) (Ev.now _))
  ·refine Ev.step (fun k => by simp only [impl_trailOf.l0]; rfl) (ev_if_neg (by simp) (Ev.now _))
 ·have xb := rd_limb h.1 (j : Int)
  obtain ⟨c16, cb, cl⟩ := ctz_limb (rd l (j : Int)) (by omega) (by omega)
  generalize hc : Go.Lib.ctz 64 (rd l (j : Int)).toNat = c at *
  refine ⟨((16 * j + c : Nat) : Int), by omega, by omega, fun _ => shr_odd l h.1 j c hj c16 cb, ?_, ?_⟩
  ·have key : ∀ d i : Nat, i + d = 16 * j + c → Ev (fun k => spec_l2trail.l0 k (i : Int) l) ((16 * j + c : Nat) : Int) := by
    intro d
    induction d with
    | zero =>
     intro i hi
     have ei : i = 16 * j + c := by omega
     subst ei
     refine Ev.step (fun k => by simp only [spec_l2trail.l0]; rfl) (ev_if_pos (by rw [hw]; omega) (ev_bind0 (spec_l2bit_eq l h.1 _ (by omega) hb) ?_))
     rw [show (16 * j + c) / 16 = j by omega, show (16 * j + c) % 16 = c by omega]
     exact ev_if_pos cb (Ev.now _)
    | succ d ih =>
     intro i hi
     refine Ev.step (fun k => by simp only [spec_l2trail.l0]; rfl) (ev_if_pos (by rw [hw]; omega) (ev_bind0 (spec_l2bit_eq l h.1 _ (by omega) hb) ?_))
     have z : rd l ((i / 16 : Nat) : Int) / 2 ^ (i % 16) % 2 = 0 := by
      by_cases g : i / 16 < j
      ·rw [hz _ g]; simp
      ·have : i / 16 = j := by omega
       rw [this]
       exact cl _ (by omega)
     refine ev_if_neg (by rw [z]; omega) ?_
     rw [w64 (by omega) (by omega)]
     exact ih (i + 1) (by omega)
   exact key (16 * j + c) 0 (by omega)
  ·have key : ∀ d i : Nat, i + d = j → Ev (fun k => impl_trailOf.l0 k l (l.length : Int) (i : Int)) ((16 * j + c : Nat) : Int) := by
    intro d
    induction d with
    | zero =>
     intro i hi
     have ei : i = j := by omega
     subst ei
     have hu : IntKind.u64.wrap (rd l (i : Int)) = rd l (i : Int) := u64_in (by omega) (by omega)
     have ht : bits_TrailingZeros.f (rd l (i : Int)) = some (c : Int) := by
      unfold bits_TrailingZeros.f bits_TrailingZeros64.f
      rw [if_pos (by omega), hc]; rfl
     refine Ev.step (fun k => by simp only [impl_trailOf.l0]; rfl) (ev_if_pos (by omega) (ev_if_pos (by omega) (ev_if_pos (by omega) (ev_if_neg hx ?_))))
     rw [hu]
     refine ev_bind0 ht ?_
     rw [w64 (x := 16 * (i : Int)) (by omega) (by omega), w64 (by omega) (by omega), show 16 * (i : Int) + (c : Int) = ((16 * i + c : Nat) : Int) by omega]
     exact Ev.now _
    | succ d ih =>
     intro i hi
     refine Ev.step (fun k => by simp only [impl_trailOf.l0]; rfl) (ev_if_pos (by omega) (ev_if_pos (by omega) (ev_if_pos (by omega) (ev_if_pos (hz i (by omega)) ?_))))
     rw [w64 (by omega) (by omega)]
     exact ih (i + 1) (by omega)
   exact key j 0 (by omega)
theorem ev_impl_down (a : List Int) (k : Int) (ha : Limbs a) (hb : a.length ≤ 1000000) (h0 : 0 ≤ k) (h1 : k ≤ 9223372036854775807) :
  ∃ q : List Int, Ev (fun n => impl_down.f n a k) q ∧ Norm q ∧ val q = shrI a k ∧ q.length ≤ a.length := by
 unfold impl_down.f shrI
 rw [td _ _ h0, w64 (x := k / 16) (by omega) (by omega)]
 by_cases hl : k / 16 ≥ (a.length : Int)
 ·refine ⟨[], ev_if_pos hl (Ev.now _), Norm.nil, ?_, by simp⟩
  rw [List.drop_eq_nil_of_le (by omega)]; simp [val]
 ·have hr : (k % 16).toNat < 16 := by omega
  have hw := ha.drop (k / 16).toNat
  have hlen : (a.drop (k / 16).toNat).length ≤ a.length := by simp
  generalize a.drop (k / 16).toNat = w at *
  refine ⟨strip (dnl (k % 16).toNat w), ?_, strip_norm (dnl_limbs _ _), by rw [val_strip, dnl_val hr hw], by have := strip_len (dnl (k % 16).toNat w); rw [dnl_length] at this; omega⟩
  refine ev_if_neg hl (ev_if_pos (by omega) (ev_if_pos (by omega) (ev_if_pos (by omega) (ev_if_pos (by omega) ?_))))
  have key : ∀ d i : Nat, i + d = w.length → ∀ out : List Int, out.length = i → Ev (fun n => impl_down.l0 n k w out w (w.length : Int) (i : Int)) (strip (out ++ dnl (k % 16).toNat (w.drop i))) := by
   intro d
   induction d with
   | zero =>
    intro i hi out ho
    refine Ev.step (f := fun n => (impl_trim.f n out).bind fun t => some t) (fun n => ?_) ?_
    ·simp only [impl_down.l0]
     rw [if_neg (by omega)]
    ·rw [List.drop_eq_nil_of_le (by omega)]
     simp only [dnl, List.append_nil]
     exact Ev.bind (ev_impl_trim out (by omega)) (Ev.now _)
   | succ d ih =>
    intro i hi out ho
    have hx := rd_limb hw (i : Int)
    have hy := rd_limb hw ((i + 1 : Nat) : Int)
    have hp := two_pow_bd hr
    have e1 : w.drop i = rd w (i : Int) :: w.drop (i + 1) := by rw [List.drop_eq_getElem_cons (by omega), rd_get _ _ (by omega)]
    have e2 : out ++ dnl (k % 16).toNat (w.drop i) = (out ++ [(rd w (i : Int) + 65536 * rd w ((i + 1 : Nat) : Int)) / 2 ^ (k % 16).toNat % 65536]) ++ dnl (k % 16).toNat (w.drop (i + 1)) := by
     rw [e1]; simp only [dnl, headD_drop, List.append_assoc, List.singleton_append]
    rw [e2]
    refine Ev.step (fun n => ?_) (ih (i + 1) (by omega) _ (by simp; omega))
    simp only [impl_down.l0]
    rw [tm _ _ h0, w64 (x := (i : Int) + 1) (by omega) (by omega), if_pos (by omega), if_pos (by omega), if_pos (by omega)]
    have hn : 0 ≤ (rd w (i : Int) + 65536 * rd w ((i + 1 : Nat) : Int)) / 2 ^ (k % 16).toNat := Int.ediv_nonneg (by omega) (by omega)
    have c1 : ((i + 1 : Nat) : Int) = (i : Int) + 1 := by omega
    by_cases hlast : (i : Int) + 1 < (w.length : Int)
    ·rw [if_pos hlast, if_pos (by omega), if_pos (by omega), if_pos (by omega)]
     rw [c1] at hy hn ⊢
     rw [w64 (x := rd w ((i : Int) + 1) * 65536) (by omega) (by omega), Int.mul_comm (rd w ((i : Int) + 1)) 65536, w64 (by omega) (by omega), shr_in (by omega) (by omega), tm _ _ hn]
    ·rw [if_neg hlast, if_pos (by omega), if_pos (by omega)]
     have z : rd w ((i + 1 : Nat) : Int) = 0 := rd_out w (i + 1) (by omega)
     rw [z] at hn ⊢
     rw [shr_in (by omega) (by omega), show rd w (i : Int) + 65536 * 0 = rd w (i : Int) by omega] 
     rw [show rd w (i : Int) + 65536 * 0 = rd w (i : Int) by omega] at hn
     rw [tm _ _ hn, c1]
  have := key w.length 0 (by omega) [] rfl
  simpa using this
theorem impl_natOf_eq (l : List Int) : impl_natOf.f l = some (if l.length ≤ 100 then (l, true) else ([], false)) := by
 unfold impl_natOf.f slices_Clone_int_int.f
 by_cases h : l.length ≤ 100
 ·rw [if_neg (by omega), if_pos (by omega), if_pos h]; rfl
 ·rw [if_pos (by omega), if_neg h]
theorem impl_wholeOf_eq (s : Bool) (l : List Int) (hb : l.length ≤ 100) : impl_wholeOf.f s l = some (s && !l.isEmpty, l, true) := by
 unfold impl_wholeOf.f
 rw [impl_natOf_eq, if_pos hb]
 simp only [Option.bind_some, if_true]
 cases s
 ·simp
 ·cases l <;> simp
theorem impl_wholeOf_long (s : Bool) (l : List Int) (hb : ¬ l.length ≤ 100) : impl_wholeOf.f s l = some (false, [], false) := by
 unfold impl_wholeOf.f
 rw [impl_natOf_eq, if_neg hb]
 rfl
def wOkB (s : Bool) (l : List Int) : Bool := okB l && !(s && l.isEmpty)
theorem wOkB_nat {s : Bool} {l : List Int} (h : wOkB s l = true) : l.length ≤ 100 ∧ Norm l := by
 unfold wOkB at h
 rw [Bool.and_eq_true] at h
 exact (okB_iff l).1 h.1
def bit0 (l : List Int) : Int := l.headD 0 % 2
def dyOkB (s : Bool) (l : List Int) (e : Int) : Bool := wOkB s l && decide (-3000 ≤ e ∧ e ≤ 3000) && (if l = [] then decide (e = 0) else decide (bit0 l = 1))
theorem rd_zero_cons (x : Int) (l : List Int) : rd (x :: l) 0 = x := rfl
def fitsV (t : Bool) (q : List Int) (z : Int) : Bool × List Int × Int × Bool := if q.length ≤ 100 ∧ -3000 ≤ z ∧ z ≤ 3000 then (t && !q.isEmpty, q, z, true) else (false, [], 0, false)
theorem ev_impl_dy {s : Bool} {l : List Int} {e : Int} {t : Bool} {q : List Int} {z : Int} (h : Ev (fun k => impl_exact_odd.f k s l e) (t, q, z)) : Ev (fun k => impl_exact_dy.f k s l e) (fitsV t q z) := by
 unfold impl_exact_dy.f
 refine Ev.bind h ?_
 by_cases hq : q.length ≤ 100
 ·refine ev_bind0 (impl_wholeOf_eq t q hq) (ev_if_pos rfl ?_)
  refine ev_bind0 (within_eq _ _ _) ?_
  by_cases hz : -3000 ≤ z ∧ z ≤ 3000
  ·have e : fitsV t q z = (t && !q.isEmpty, q, z, true) := if_pos ⟨hq, hz⟩
   rw [e]
   exact ev_if_pos (by simpa using hz) (Ev.now _)
  ·have e : fitsV t q z = (false, [], 0, false) := if_neg (fun y => hz y.2)
   rw [e]
   exact ev_if_neg (by simpa using hz) (Ev.now _)
 ·have e : fitsV t q z = (false, [], 0, false) := if_neg (fun y => hq y.1)
  rw [e]
  refine ev_bind0 (impl_wholeOf_long t q hq) ?_
  exact ev_if_neg (by simp) (Ev.now _)
theorem bit0_val (l : List Int) : val l % 2 = bit0 l := by
 unfold bit0
 cases l with
 | nil => rfl
 | cons x l => simp only [val, List.headD_cons]; omega
theorem make_agree (s : Bool) (l : List Int) (e : Int) (h : Norm l) (hb : l.length ≤ 1000) (h0 : -100000 ≤ e) (h1 : e ≤ 100000) :
  ∃ (t : Bool) (q : List Int) (z : Int), Norm q ∧ q.length ≤ l.length ∧ e - 0 ≤ z + 100000 ∧ z ≤ 100000 + 16 * l.length ∧ (z = 0 ∨ e ≤ z ∧ z ≤ e + 16 * l.length) ∧ (q = [] → z = 0) ∧ (q ≠ [] → bit0 q = 1) ∧
   Ev (fun k => spec_l4make.f k s l e) (t && !q.isEmpty, q, z) ∧ Ev (fun k => impl_exact_odd.f k s l e) (t, q, z) := by
 by_cases hl : l = []
 ·subst hl
  refine ⟨false, [], 0, Norm.nil, by simp, by omega, by simp, .inl rfl, fun _ => rfl, fun z => absurd rfl z, ?_, ?_⟩
  ·unfold spec_l4make.f
   exact ev_if_pos rfl (Ev.now _)
  ·unfold impl_exact_odd.f
   exact ev_if_pos rfl (Ev.now _)
 ·have hp : 0 < l.length := List.length_pos_iff.2 hl
  obtain ⟨r, r0, r1, ro, t1, t2⟩ := trail_agree l h (by omega)
  have ro := ro hl
  obtain ⟨q, hq, q1, q2, q3⟩ := ev_spec_l2shr l r h.1 (by omega) (by omega) (by omega)
  obtain ⟨p, hp, p1, p2, p3⟩ := ev_impl_down l r h.1 (by omega) (by omega) (by omega)
  have ep : p = q := norm_inj p1 q1 (by rw [q2, p2])
  subst ep
  have w : wrap64 (e + r) = e + r := w64 (by omega) (by omega)
  have ob : bit0 p = 1 := by rw [← bit0_val, q2]; exact ro
  refine ⟨s, p, e + r, p1, q3, by omega, by omega, .inr ⟨by omega, by omega⟩, ?_, fun _ => ob, ?_, ?_⟩
  ·intro z
   rw [z] at ob
   simp [bit0] at ob
  ·unfold spec_l4make.f
   refine ev_if_neg (by omega) (Ev.bind t1 (Ev.bind hq (Ev.bind (ev_spec_l3make s p p1 (by omega)) ?_)))
   rw [w]
   exact Ev.now _
  ·unfold impl_exact_odd.f
   refine ev_if_neg (by omega) (Ev.bind t2 (Ev.bind hp ?_))
   rw [w]
   exact Ev.now _
theorem ev_spec_l2cmp (a b : List Int) (ha : Norm a) (hb : Norm b) (hl : a.length ≤ 1000000) (hl2 : b.length ≤ 1000000) : Ev (fun k => spec_l2cmp.f k a b) (cmpI (val a) (val b)) := by
 unfold spec_l2cmp.f
 by_cases he : (a.length : Int) = (b.length : Int)
 ·refine ev_if_pos he ?_
  rw [w64 (by omega) (by omega)]
  have key : ∀ d : Nat, d ≤ a.length → val (a.drop d) = val (b.drop d) → Ev (fun k => spec_l2cmp.l0 k ((d : Int) - 1) a b) (cmpI (val a) (val b)) := by
   intro d
   induction d with
   | zero =>
    intro _ hv
    simp at hv
    rw [cmpI_eq hv]
    refine Ev.step (f := fun _ => some 0) (fun k => ?_) (Ev.now _)
    simp only [spec_l2cmp.l0]
    rw [if_neg (by omega)]
   | succ d ih =>
    intro hd hv
    rw [show ((d + 1 : Nat) : Int) - 1 = (d : Int) by omega]
    by_cases h1 : rd a (d : Int) < rd b (d : Int)
    ·have hlt : val a < val b := val_lt_at ha.1 hb.1 (i := d) (by omega) (by omega) hv (by rwa [rd_get _ _ (by omega), rd_get _ _ (by omega)] at h1)
     rw [cmpI_lt hlt]
     refine Ev.step (f := fun _ => some (-1)) (fun k => ?_) (Ev.now _)
     simp only [spec_l2cmp.l0]
     rw [if_pos (by omega), if_pos (by omega), if_pos (by omega), if_pos (by omega), if_pos h1]
    ·by_cases h2 : rd a (d : Int) > rd b (d : Int)
     ·have hlt : val b < val a := val_lt_at hb.1 ha.1 (i := d) (by omega) (by omega) hv.symm (by rwa [gt_iff_lt, rd_get _ _ (by omega), rd_get _ _ (by omega)] at h2)
      rw [cmpI_gt hlt]
      refine Ev.step (f := fun _ => some 1) (fun k => ?_) (Ev.now _)
      simp only [spec_l2cmp.l0]
      rw [if_pos (by omega), if_pos (by omega), if_pos (by omega), if_pos (by omega), if_neg h1, if_pos h2]
     ·refine Ev.step (f := fun k => spec_l2cmp.l0 k ((d : Int) - 1) a b) (fun k => ?_) (ih (by omega) ?_)
      ·simp only [spec_l2cmp.l0]
       rw [if_pos (by omega), if_pos (by omega), if_pos (by omega), if_pos (by omega), if_neg h1, if_neg h2, w64 (by omega) (by omega)]
      ·have e : rd a (d : Int) = rd b (d : Int) := by omega
       rw [rd_get _ _ (by omega), rd_get _ _ (by omega)] at e
       rw [List.drop_eq_getElem_cons (show d < a.length by omega), List.drop_eq_getElem_cons (show d < b.length by omega)]
       simp only [val, e, hv]
  exact key a.length (Nat.le_refl _) (by rw [List.drop_length, show a.length = b.length by omega, List.drop_length])
 ·refine ev_if_neg he ?_
  by_cases h : (a.length : Int) < (b.length : Int)
  ·rw [cmpI_lt (val_lt_len ha.1 hb (by omega))]; exact ev_if_pos h (Ev.now _)
  ·rw [cmpI_gt (val_lt_len hb.1 ha (by omega))]; exact ev_if_neg h (Ev.now _)
theorem ev_spec_l3cmp (s : Bool) (a : List Int) (t : Bool) (b : List Int) (ha : Norm a) (hb : Norm b) (hl : a.length ≤ 1000000) (hl2 : b.length ≤ 1000000) : Ev (fun k => spec_l3cmp.f k s a t b) (sCmp s a t b) := by
 unfold spec_l3cmp.f sCmp
 by_cases h : (s != t) = true
 ·simp only [if_pos h]
  cases s
  ·exact ev_if_neg (by simp) (Ev.now _)
  ·exact ev_if_pos (by trivial) (Ev.now _)
 ·simp only [if_neg h]
  cases s
  ·exact ev_if_neg (by simp) (Ev.bind (ev_spec_l2cmp a b ha hb hl hl2) (Ev.now _))
  ·exact ev_if_pos (by trivial) (Ev.bind (ev_spec_l2cmp b a hb ha hl2 hl) (Ev.now _))
theorem shl_side (t : Bool) (b : List Int) (y z : Int) (hb : Norm b) (hl : b.length ≤ 1000) (hn : b ≠ []) (hy : y ≤ 20000) (hz0 : -20000 ≤ z) (h : z ≤ y) :
  ∃ q : List Int, Ev (fun k => spec_l2shl.f k b (wrap64 (y - z))) q ∧ Ev (fun k => spec_l3make.f k t q) (t, q) ∧ Norm q ∧ q.length ≤ 50000 ∧ q ≠ [] ∧ ∀ s : Bool, xv s (val b) y = sg s (val q) * 2 ^ (z + 20000).toNat := by
 rw [w64 (by omega) (by omega)]
 obtain ⟨q, q1, q2, q3, q4⟩ := ev_spec_l2shl b (y - z) hb.1 (by omega) (by omega) (by omega)
 rw [shlI_two b _ (by omega)] at q3
 have hlen := len_shl hb.1 q2 _ q3
 have hne : q ≠ [] := by
  intro e
  have h1 := hb.pos hn
  rw [e] at q3
  simp only [val] at q3
  have h2 := two_pos (y - z).toNat
  have h3 : 1 * 1 ≤ val b * 2 ^ (y - z).toNat := Int.mul_le_mul h1 h2 (by omega) (by omega)
  omega
 have hm := ev_spec_l3make t q q2 (by omega)
 have ht : (t && !q.isEmpty) = t := by
  cases hq : q with
  | nil => exact absurd hq hne
  | cons c q => simp
 rw [ht] at hm
 refine ⟨q, q1, hm, q2, by omega, hne, fun s => ?_⟩
 unfold xv
 rw [q3, ← sg_mul, Int.mul_assoc, ← two_add]
 congr 3
 omega
theorem xv_own (s : Bool) (m z : Int) : xv s m z = sg s m * 2 ^ (z + 20000).toNat := by unfold xv; rw [sg_mul]
theorem ev_spec_l4cmp (s : Bool) (a : List Int) (x : Int) (t : Bool) (b : List Int) (y : Int) (ha : Norm a) (hb : Norm b) (hl : a.length ≤ 1000) (hl2 : b.length ≤ 1000) (hx : x ≤ 20000) (hx0 : -20000 ≤ x) (hy : y ≤ 20000) (hy0 : -20000 ≤ y)
  (hs : s = true → a ≠ []) (ht : t = true → b ≠ []) : Ev (fun k => spec_l4cmp.f k s a x t b y) (cmpI (xv s (val a) x) (xv t (val b) y)) := by
 have nil_iff : ∀ l : List Int, (l.length : Int) = 0 ↔ l = [] := fun l => ⟨fun h => List.eq_nil_of_length_eq_zero (by omega), fun h => by subst h; rfl⟩
 have fin : ∀ (u v : List Int) (z : Int), Norm u → Norm v → u.length ≤ 50000 → v.length ≤ 50000 → (a ≠ [] → u ≠ []) → (b ≠ [] → v ≠ []) → xv s (val a) x = sg s (val u) * 2 ^ (z + 20000).toNat → xv t (val b) y = sg t (val v) * 2 ^ (z + 20000).toNat →
   Ev (fun k => spec_l4align.f k s a x t b y) (s, u, t, v, z) → Ev (fun k => spec_l4cmp.f k s a x t b y) (cmpI (xv s (val a) x) (xv t (val b) y)) := by
  intro u v z hu hv lu lv nu nv e1 e2 hev
  rw [e1, e2, cmpI_scale _ _ _ (two_pos _), ← sCmp_sg s u t v hu hv (fun e => nu (hs e)) (fun e => nv (ht e))]
  unfold spec_l4cmp.f
  exact Ev.bind hev (Ev.bind (ev_spec_l3cmp s u t v hu hv (by omega) (by omega)) (Ev.now _))
 by_cases e1 : a = []
 ·refine fin a b y ha hb (by omega) (by omega) id id ?_ (xv_own _ _ _) ?_
  ·subst e1
   rw [show val [] = 0 from rfl, xv_zero]
   cases s <;> simp [sg]
  ·unfold spec_l4align.f
   exact ev_if_pos ((nil_iff a).2 e1) (Ev.now _)
 ·by_cases e2 : b = []
  ·refine fin a b x ha hb (by omega) (by omega) id id (xv_own _ _ _) ?_ ?_
   ·subst e2
    rw [show val [] = 0 from rfl, xv_zero]
    cases t <;> simp [sg]
   ·unfold spec_l4align.f
    exact ev_if_neg (fun h => e1 ((nil_iff a).1 h)) (ev_if_pos ((nil_iff b).2 e2) (Ev.now _))
  ·by_cases h : x ≤ y
   ·obtain ⟨q, q1, q2, q3, q4, q5, q6⟩ := shl_side t b y x hb hl2 e2 hy hx0 h
    refine fin a q x ha q3 (by omega) q4 id (fun _ => q5) (xv_own _ _ _) (q6 t) ?_
    unfold spec_l4align.f
    exact ev_if_neg (fun h => e1 ((nil_iff a).1 h)) (ev_if_neg (fun h => e2 ((nil_iff b).1 h)) (ev_if_pos h (Ev.bind q1 (Ev.bind q2 (Ev.now _)))))
   ·obtain ⟨q, q1, q2, q3, q4, q5, q6⟩ := shl_side s a x y ha hl e1 hx hy0 (by omega)
    refine fin q b y q3 hb q4 (by omega) (fun _ => q5) id (q6 s) (xv_own _ _ _) ?_
    unfold spec_l4align.f
    exact ev_if_neg (fun h => e1 ((nil_iff a).1 h)) (ev_if_neg (fun h => e2 ((nil_iff b).1 h)) (ev_if_neg h (Ev.bind q1 (Ev.bind q2 (Ev.now _)))))
theorem getLast_rd (l : List Int) (h : 0 < l.length) : l.getLast? = some (rd l ((l.length : Int) - 1)) := by
 rw [show (l.length : Int) - 1 = ((l.length - 1 : Nat) : Int) by omega, rd_get _ _ (by omega), List.getLast?_eq_getElem?, List.getElem?_eq_getElem]
theorem ev_spec_NatOk (l : List Int) (hb : l.length ≤ 9000000000000000000) : Ev (fun k => spec_NatOk.f k l) (okB l) := by
 unfold spec_NatOk.f
 by_cases hl : (l.length : Int) > 100
 ·refine ev_if_pos hl ?_
  have e : okB l = false := by
   have : ¬ l.length ≤ 100 := by omega
   simp [okB, this]
  rw [e]; exact Ev.now _
 ·refine ev_if_neg hl ?_
  have hl' : l.length ≤ 100 := by omega
  have key : ∀ d i : Nat, i + d = l.length → (∀ j, j < i → 0 ≤ l.getD j 0 ∧ l.getD j 0 ≤ 65535) → Ev (fun k => spec_NatOk.l0 k (i : Int) l) (okB l) := by
   intro d
   induction d with
   | zero =>
    intro i hi hj
    refine Ev.step (f := fun _ => some (okB l)) (fun k => ?_) (Ev.now _)
    have hall : l.all (fun x => decide (0 ≤ x) && decide (x ≤ 65535)) = true := by
     rw [List.all_eq_true]
     intro x hx
     obtain ⟨j, hjl, rfl⟩ := List.getElem_of_mem hx
     have := hj j (by omega)
     rw [List.getD_eq_getElem?_getD, List.getElem?_eq_getElem hjl, Option.getD_some] at this
     simp; exact this
    simp only [spec_NatOk.l0]
    rw [if_neg (by omega)]
    by_cases h0 : (l.length : Int) = 0
    ·rw [if_pos h0]
     have : l = [] := List.eq_nil_of_length_eq_zero (by omega)
     subst this; rfl
    ·rw [if_neg h0, w64 (by omega) (by omega), if_pos (by omega), if_pos (by omega)]
     have hlast := getLast_rd l (by omega)
     have hr := hj (l.length - 1) (by omega)
     rw [← rd_nat, show ((l.length - 1 : Nat) : Int) = (l.length : Int) - 1 by omega] at hr
     simp only [okB, hall, hlast, hl', decide_true, Bool.true_and]
     by_cases hz : rd l ((l.length : Int) - 1) = 0
     ·simp [hz]
     ·have : rd l ((l.length : Int) - 1) > 0 := by omega
      simp [hz, this]
   | succ d ih =>
    intro i hi hj
    by_cases hx : 0 ≤ rd l (i : Int) ∧ rd l (i : Int) ≤ 65535
    ·refine Ev.step (f := fun k => spec_NatOk.l0 k ((i + 1 : Nat) : Int) l) (fun k => ?_) (ih (i + 1) (by omega) ?_)
     ·simp only [spec_NatOk.l0]
      rw [if_pos (by omega), if_pos (by omega), if_neg (by omega), if_neg (by omega), w64 (by omega) (by omega)]
      rfl
     ·intro j hj'
      by_cases e : j = i
      ·subst e; rw [rd_nat] at hx; exact hx
      ·exact hj j (by omega)
    ·refine Ev.step (f := fun _ => some (okB l)) (fun k => ?_) (Ev.now _)
     have hall : l.all (fun x => decide (0 ≤ x) && decide (x ≤ 65535)) = false := by
      rw [List.all_eq_false]
      rw [rd_get _ _ (by omega)] at hx
      exact ⟨l[i], List.getElem_mem (by omega), by simp; omega⟩
     simp only [spec_NatOk.l0]
     rw [if_pos (by omega), if_pos (by omega)]
     have e : okB l = false := by simp [okB, hall]
     rw [e]
     by_cases h1 : rd l (i : Int) < 0
     ·rw [if_pos h1]
     ·rw [if_neg h1, if_pos (by omega)]
  exact key l.length 0 (by omega) (fun j hj => by omega)
theorem ev_spec_WholeOk (s : Bool) (l : List Int) (hb : l.length ≤ 9000000000000000000) : Ev (fun k => spec_WholeOk.f k s l) (wOkB s l) := by
 unfold spec_WholeOk.f
 refine Ev.bind (ev_spec_NatOk l hb) ?_
 unfold wOkB
 by_cases h : okB l = true
 ·refine ev_if_pos h ?_
  cases s
  ·simp [h]; exact Ev.now _
  ·cases l
   ·simp; exact Ev.now _
   ·simp [h]; first | exact Ev.now _ | (refine ev_if_pos (by omega) (Ev.now _))
 ·have h' : okB l = false := by simpa using h
  refine ev_if_neg h ?_
  rw [h']; exact Ev.now _
theorem spec_bit0 (l : List Int) (h : Limbs l) : spec_l2bit.f l 0 = some (bit0 l) := by
 unfold spec_l2bit.f bit0
 have z : Int.tdiv 0 16 = 0 := rfl
 have z2 : Int.tmod 0 16 = 0 := rfl
 rw [if_neg (by omega), z, z2, w64 (x := 0) (by omega) (by omega)]
 cases l with
 | nil => rfl
 | cons x l =>
  rw [if_neg (by simp only [List.length_cons]; omega), if_pos (by omega), if_pos (by simp only [List.length_cons]; omega), if_pos (by omega), rd_zero_cons]
  have hx := h.head
  have sh : shr .i64 x 0 = x := by simp [shr]
  rw [sh, and_1 _ hx.1 (by omega)]; rfl
theorem ev_spec_DyOk (s : Bool) (l : List Int) (e : Int) (hb : l.length ≤ 9000000000000000000) : Ev (fun k => spec_DyOk.f k s l e) (dyOkB s l e) := by
 unfold spec_DyOk.f
 refine Ev.bind (ev_spec_WholeOk s l hb) ?_
 unfold dyOkB
 by_cases h : wOkB s l = true
 ·have hn := wOkB_nat h
  simp only [if_pos h]
  have tail : ∀ b : Bool, b = decide (¬ (-3000 ≤ e ∧ e ≤ 3000)) → Ev (fun k => spec_DyOk.j0 k b s l e) (wOkB s l && decide (-3000 ≤ e ∧ e ≤ 3000) && (if l = [] then decide (e = 0) else decide (bit0 l = 1))) := by
   intro b hb'
   refine Ev.step (fun k => by simp only [spec_DyOk.j0]; rfl) ?_
   by_cases he : -3000 ≤ e ∧ e ≤ 3000
   ·have : b = false := by rw [hb']; simpa using he
    subst this
    simp only [Bool.false_eq_true, if_false, h, he, and_self, decide_true, Bool.true_and]
    by_cases hl : l = []
    ·subst hl; simp; exact Ev.now _
    ·have : ¬ (l.length : Int) = 0 := by
      intro z; exact hl (List.eq_nil_of_length_eq_zero (by omega))
     rw [if_neg hl]
     refine ev_if_neg this ?_
     rw [spec_bit0 l hn.2.1]
     have : (bit0 l == 1) = decide (bit0 l = 1) := by
      by_cases g : bit0 l = 1 <;> simp [g]
     simp only [Option.bind_some, this]
     exact Ev.now _
   ·have : b = true := by rw [hb']; exact decide_eq_true he
    subst this
    simp only [if_true, he, decide_false, Bool.and_false, Bool.false_and]
    exact Ev.now _
  by_cases he : e < -3000
  ·simp only [if_pos he]; exact tail true (by simp; omega)
  ·simp only [if_neg he]; exact tail _ (decide_eq_decide.mpr (by omega))
 ·simp only [if_neg h]
  refine Ev.step (fun k => by simp only [spec_DyOk.j0]; rfl) ?_
  simp [h]; exact Ev.now _
theorem cmpI_neg (x y : Int) : cmpI y x = -cmpI x y := by
 by_cases h : x < y
 ·rw [cmpI_lt h, cmpI_gt h]; rfl
 ·by_cases g : y < x
  ·rw [cmpI_gt g, cmpI_lt g]
  ·rw [cmpI_eq (by omega), cmpI_eq (by omega)]; rfl
theorem cmpI_bd (x y : Int) : -1 ≤ cmpI x y ∧ cmpI x y ≤ 1 := by
 by_cases h : x < y
 ·rw [cmpI_lt h]; omega
 ·by_cases g : y < x
  ·rw [cmpI_gt g]; omega
  ·rw [cmpI_eq (by omega)]; omega
theorem flCmpV_neg (k : Int) (s : Bool) (m e : Int) (k' : Int) (s' : Bool) (m' e' : Int) : flCmpV k' s' m' e' k s m e = -flCmpV k s m e k' s' m' e' := by
 unfold flCmpV
 by_cases c : k = 2 ∨ k' = 2
 ·rw [if_pos c, if_pos c.symm]; exact cmpI_neg _ _
 ·rw [if_neg c, if_neg (fun z => c z.symm)]; exact cmpI_neg _ _
theorem flCmpV_bd (k : Int) (s : Bool) (m e : Int) (k' : Int) (s' : Bool) (m' e' : Int) : -1 ≤ flCmpV k s m e k' s' m' e' ∧ flCmpV k s m e k' s' m' e' ≤ 1 := by
 unfold flCmpV
 split <;> exact cmpI_bd _ _
theorem fl_finite {k : Int} {s : Bool} {m e : Int} (h : flOkB k s m e = true) : impl_Fl_isFinite.f k s m e = some (decide (k < 2)) := by
 unfold impl_Fl_isFinite.f
 rcases flOk_kind h with rfl | rfl | rfl | rfl <;> rfl
theorem impl_FlDy_yes (k : Int) (s : Bool) (m e : Int) (h : flOkB k s m e = true) (g : k < 2) :
  ∃ (t : Bool) (q : List Int) (z : Int), Ev (fun n => impl_FlDy.f n k s m e) (t, q, z, true) ∧ dyOkB t q z = true ∧ Norm q ∧ (t = true → q ≠ []) ∧ q.length ≤ 4 ∧ -3000 ≤ z ∧ z ≤ 3000 ∧ xv t (val q) z = fv k s m e := by
 by_cases c : k = 1
 ·subst c
  have hn := flOk_num h
  have dl := dig_len m
  have dN := dig_norm (n := m) (by omega) (by omega)
  have dv := dig_val (n := m) (by omega) (by omega)
  have dn : dig m ≠ [] := by
   intro y
   rw [y] at dv
   simp [val] at dv
   omega
  obtain ⟨t, q, z, q1, q2, q6, q7, q8, q4, q5, m1, m2⟩ := make_agree s (dig m) e dN (by omega) (by omega) (by omega)
  obtain ⟨q', z', x1, x2, x3, x4, x5, x6, x7, x8⟩ := ev_spec_l4make_x s (dig m) e dN dn (by omega) (by omega) (by omega)
  have ed := ev_det m1 x1
  simp only [Prod.mk.injEq] at ed
  obtain ⟨y1, rfl, rfl⟩ := ed
  have hz : -3000 ≤ z ∧ z ≤ 3000 := by omega
  have e1 : fitsV t q z = (t && !q.isEmpty, q, z, true) := if_pos ⟨by omega, hz⟩
  rw [y1] at e1
  have ok : okB q = true := (okB_iff _).2 ⟨by omega, x2⟩
  have ob : bit0 q = 1 := q5 x3
  refine ⟨s, q, z, ?_, ?_, x2, fun _ => x3, by omega, hz.1, hz.2, ?_⟩
  ·unfold impl_FlDy.f
   refine ev_bind0 (impl_FlOk_eq 1 s m e) (ev_if_pos h (ev_bind0 (fl_finite h) ?_))
   refine Ev.step (fun n => by simp only [impl_FlDy.j0]; rfl) (ev_if_neg (by simp) ?_)
   have ex : Ev (fun n => impl_Fl_exact.f n 1 s m e) (s, dig m, e) := by
    unfold impl_Fl_exact.f
    cases s
    ·exact ev_if_neg (by simp) (Ev.bind (ev_impl_small m (by omega)) (Ev.now _))
    ·exact ev_if_pos (by trivial) (Ev.bind (ev_impl_small m (by omega)) (Ev.now _))
   have dy := ev_impl_dy m2
   rw [e1] at dy
   exact Ev.bind ex (Ev.bind dy (Ev.now _))
  ·unfold dyOkB wOkB
   rw [ok, if_neg x3, ob]
   cases q with
   | nil => exact absurd rfl x3
   | cons a l => simp [hz.1, hz.2]
  ·rw [x8 s, dv]
   unfold fv
   rw [if_pos rfl]
 ·have hz := flOk_zero h c
  have k0 : k = 0 := by rcases flOk_kind h with rfl | rfl | rfl | rfl <;> omega
  subst k0
  obtain ⟨hm, he, _⟩ := hz
  subst hm he
  refine ⟨false, [], 0, ?_, rfl, Norm.nil, by simp, by simp, by omega, by omega, xv_zero _ _⟩
  unfold impl_FlDy.f
  refine ev_bind0 (impl_FlOk_eq 0 s 0 0) (ev_if_pos h (ev_bind0 (fl_finite h) ?_))
  refine Ev.step (fun n => by simp only [impl_FlDy.j0]; rfl) (ev_if_neg (by simp) ?_)
  have sm := ev_impl_small 0 (by omega)
  rw [dig_zero] at sm
  have ex : Ev (fun n => impl_Fl_exact.f n 0 s 0 0) (false, [], 0) := by
   unfold impl_Fl_exact.f
   cases s
   ·exact ev_if_neg (by simp) (Ev.bind sm (Ev.now _))
   ·exact ev_if_pos (by trivial) (Ev.bind sm (Ev.now _))
  have od : Ev (fun n => impl_exact_odd.f n false [] 0) (false, [], 0) := by
   unfold impl_exact_odd.f
   exact ev_if_pos rfl (Ev.now _)
  have dy := ev_impl_dy od
  have e1 : fitsV false [] 0 = (false, [], 0, true) := rfl
  rw [e1] at dy
  exact Ev.bind ex (Ev.bind dy (Ev.now _))
theorem impl_FlDy_no (k : Int) (s : Bool) (m e : Int) (h : ¬ (flOkB k s m e = true ∧ k < 2)) : Ev (fun n => impl_FlDy.f n k s m e) (false, [], 0, false) := by
 have bad : Ev (fun n => impl_FlDy.j0 n true k s m e) (false, [], 0, false) := Ev.step (fun n => by simp only [impl_FlDy.j0]; rfl) (ev_if_pos (by trivial) (Ev.now _))
 unfold impl_FlDy.f
 by_cases g : flOkB k s m e = true
 ·refine ev_bind0 (impl_FlOk_eq k s m e) (ev_if_pos g (ev_bind0 (fl_finite g) ?_))
  rw [decide_eq_false (fun z => h ⟨g, z⟩)]
  exact bad
 ·exact ev_bind0 (impl_FlOk_eq k s m e) (ev_if_neg g bad)
theorem FnFlOrder : laws_FnFlOrder.Pure := by
 intro b hm _ _
 have hb : b.length ≤ 1000000000000000000 := by unfold maxLen at hm; omega
 have g : Ev (fun n => laws_FnFlOrder.f n b) true := by
  obtain ⟨k, s, m, e, k', s', m', e', hc⟩ := ev_DrawFlCmp b hb
  have c1 := impl_FlCmp_all k s m e k' s' m' e'
  have c2 := impl_FlCmp_all k' s' m' e' k s m e
  have c3 : Ev (fun n => impl_FlCmp.f n 2 true 0 0 2 false 0 0) (-1, true) := impl_FlCmp_all 2 true 0 0 2 false 0 0
  obtain ⟨x, hx⟩ : ∃ x : Int × Bool, x = (if flOkB k s m e = true ∧ flOkB k' s' m' e' = true ∧ k ≠ 3 ∧ k' ≠ 3 then (flCmpV k s m e k' s' m' e', true) else (0, false)) := ⟨_, rfl⟩
  obtain ⟨y, hy⟩ : ∃ y : Int × Bool, y = (if flOkB k' s' m' e' = true ∧ flOkB k s m e = true ∧ k' ≠ 3 ∧ k ≠ 3 then (flCmpV k' s' m' e' k s m e, true) else (0, false)) := ⟨_, rfl⟩
  have f2 : x.2 = y.2 ∧ x.1 = wrap64 (-y.1) := by
   by_cases ok : flOkB k s m e = true ∧ flOkB k' s' m' e' = true ∧ k ≠ 3 ∧ k' ≠ 3
   ·rw [if_pos ok] at hx
    rw [if_pos ⟨ok.2.1, ok.1, ok.2.2.2, ok.2.2.1⟩] at hy
    have bd := flCmpV_bd k s m e k' s' m' e'
    rw [hx, hy]
    refine ⟨rfl, ?_⟩
    dsimp only
    rw [flCmpV_neg k s m e k' s' m' e', Int.neg_neg, w64 (by omega) (by omega)]
   ·rw [if_neg ok] at hx
    rw [if_neg (fun z => ok ⟨z.2.1, z.1, z.2.2.2, z.2.2.1⟩)] at hy
    rw [hx, hy]
    exact ⟨rfl, (w64 (by omega) (by omega)).symm⟩
  rw [← hx] at c1
  rw [← hy] at c2
  have tail : Ev (fun n => (impl_FlCmp.f n 2 true 0 0 2 false 0 0).bind fun bt => (if (x.2 == y.2) = true then (if x.1 = (wrap64 (-y.1)) then (if bt.2 = true then (some (bt.1 == (-1))) else (some false)) else (some false)) else (some false))) true :=
   Ev.bind c3 (ev_if_pos (by rw [f2.1]; simp) (ev_if_pos f2.2 (ev_if_pos rfl (Ev.now _))))
  unfold laws_FnFlOrder.f
  by_cases h1 : flOkB k s m e = true ∧ k < 2
  ·obtain ⟨t, q, z, d1, d2, d3, d4, d5, d6, d7, d8⟩ := impl_FlDy_yes k s m e h1.1 h1.2
   by_cases h2 : flOkB k' s' m' e' = true ∧ k' < 2
   ·obtain ⟨u, p, w, b1, b2, b3, b4, b5, b6, b7, b8⟩ := impl_FlDy_yes k' s' m' e' h2.1 h2.2
    have l := ev_spec_l4cmp t q z u p w d3 b3 (by omega) (by omega) (by omega) (by omega) (by omega) (by omega) d4 b4
    rw [d8, b8] at l
    have dc : Ev (fun n => spec_DyCmp.f n t q z u p w) (cmpI (fv k s m e) (fv k' s' m' e')) := by
     unfold spec_DyCmp.f
     exact Ev.bind (ev_spec_DyOk t q z (by omega)) (ev_if_pos d2 (Ev.bind (ev_spec_DyOk u p w (by omega)) (ev_if_pos b2 (Ev.bind l (Ev.now _)))))
    have xe : x = (cmpI (fv k s m e) (fv k' s' m' e'), true) := by
     rw [hx, if_pos ⟨h1.1, h2.1, by omega, by omega⟩]
     unfold flCmpV
     rw [if_neg (by omega)]
    refine Ev.bind hc (Ev.bind c1 (Ev.bind c2 (Ev.bind d1 (Ev.bind b1 (ev_if_pos rfl (ev_if_pos rfl (ev_if_pos (by rw [xe]) (Ev.bind dc (ev_if_pos (by rw [xe]) tail)))))))))
   ·exact Ev.bind hc (Ev.bind c1 (Ev.bind c2 (Ev.bind d1 (Ev.bind (impl_FlDy_no k' s' m' e' h2) (ev_if_pos rfl (ev_if_neg (by simp) tail))))))
  ·by_cases h2 : flOkB k' s' m' e' = true ∧ k' < 2
   ·obtain ⟨u, p, w, b1, _⟩ := impl_FlDy_yes k' s' m' e' h2.1 h2.2
    exact Ev.bind hc (Ev.bind c1 (Ev.bind c2 (Ev.bind (impl_FlDy_no k s m e h1) (Ev.bind b1 (ev_if_neg (by simp) tail)))))
   ·exact Ev.bind hc (Ev.bind c1 (Ev.bind c2 (Ev.bind (impl_FlDy_no k s m e h1) (Ev.bind (impl_FlDy_no k' s' m' e' h2) (ev_if_neg (by simp) tail)))))
 exact g.rounds
end Go.Proofs.YtgjpahofopoflaaDoor.Pure
