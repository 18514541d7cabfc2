-- Written by our own driver (wip/hand/hprint.py) over the seat's translation.
import Derived.Test.YtgjpahofopoflaaPFnPacksx0
import Derived.Test.YtgjpahofopoflaaPFnPacksx28
namespace Go.Proofs.Ytgjpahofopoflaa.PFnPacks
open Go.RowKit Go.Proofs.YtgjpahofopoflaaW.PrintWords Go.Proofs.YtgjpahofopoflaaW.PrintLast Go.Proofs.YtgjpahofopoflaaW.PrintMore
attribute [local go_sem] max2_int min2_int max_two min_two max_three min_three max_four min_four   -- for this text's walks alone
set_option linter.unusedVariables false
set_option linter.unusedSimpArgs false

/-! ### impl_FlUnpack: function 40 -/
mutual
def impl_FlUnpack.j0 : Nat → Int → Int → Bool → Option (Int × Bool × Int × Int × Bool)
 | 0, _, _, _ => none
 | k + 1, x0, x1, x16 => if x16 = true then (some (0, false, 0, 0, false)) else (if (Go.bits .and .i64 (x0 / 1048576) 2047) = 2047 then (impl_FlUnpack.j1 k (Go.bits .and .i64 (x0 / 1048576) 2047) (Go.bits .or .i64 (wrap64 ((Go.bits .and .i64 x0 1048575) * 4294967296)) x1) ((Go.bits .or .i64 (wrap64 ((Go.bits .and .i64 x0 1048575) * 4294967296)) x1) != 0) 0 ((x0 / 2147483648) == 1) 0 0) else (impl_FlUnpack.j1 k (Go.bits .and .i64 (x0 / 1048576) 2047) (Go.bits .or .i64 (wrap64 ((Go.bits .and .i64 x0 1048575) * 4294967296)) x1) false 0 ((x0 / 2147483648) == 1) 0 0))
def impl_FlUnpack.j1 : Nat → Int → Int → Bool → Int → Bool → Int → Int → Option (Int × Bool × Int × Int × Bool)
 | 0, _, _, _, _, _, _, _ => none
 | k + 1, x6, x7, x30, x568000, x568001, x568002, x568003 => if x30 = true then ((impl_nan.f).bind fun bt568 => (some (bt568.1, bt568.2.1, bt568.2.2.1, bt568.2.2.2, true))) else (if x6 = 2047 then (some (2, x568001, x568002, x568003, true)) else (if x6 > 0 then (some (1, x568001, Go.bits .or .i64 x7 4503599627370496, wrap64 ((wrap64 (x6 + (-1074))) - 1), true)) else (if x7 > 0 then (some (1, x568001, x7, (-1074), true)) else (some (x568000, x568001, x568002, x568003, true)))))
end
def impl_FlUnpack.f (k : Nat) (a0 : Int) (a1 : Int) : Option (Int × Bool × Int × Int × Bool) := (impl_isWord.f a0).bind fun t565 => (if t565 = true then ((impl_isWord.f a1).bind fun t566 => (impl_FlUnpack.j0 k a0 a1 (!t566))) else (impl_FlUnpack.j0 k a0 a1 true))
theorem impl_FlUnpack.mono_l : ∀ k, (∀ y0 y1 y2, LeO (impl_FlUnpack.j0 k y0 y1 y2) (impl_FlUnpack.j0 (k + 1) y0 y1 y2)) ∧ (∀ y0 y1 y2 y3 y4 y5 y6, LeO (impl_FlUnpack.j1 k y0 y1 y2 y3 y4 y5 y6) (impl_FlUnpack.j1 (k + 1) y0 y1 y2 y3 y4 y5 y6))
 | 0 => ⟨fun _ _ _ r h => by simp [impl_FlUnpack.j0] at h, fun _ _ _ _ _ _ _ r h => by simp [impl_FlUnpack.j1] at h⟩
 | k + 1 => by
  obtain ⟨ih0, ih1⟩ := impl_FlUnpack.mono_l k
  refine ⟨?_, ?_⟩
  ·intro y0 y1 y2
   unfold impl_FlUnpack.j0
   repeat' first
   | (with_reducible exact ih0 _ _ _)
   | (with_reducible exact ih1 _ _ _ _ _ _ _)
   | (with_reducible exact LeO.refl _)
   | (with_reducible exact LeO.none _)
   | (with_reducible refine LeO.ite ?_ ?_)
   | (with_reducible refine LeO.bind ?_ (fun _ => ?_))
   | exact ih0 _ _ _
   | exact ih1 _ _ _ _ _ _ _
   | exact LeO.none _
   | refine LeO.ite ?_ ?_
   | refine LeO.bind ?_ (fun _ => ?_)
  ·intro y0 y1 y2 y3 y4 y5 y6
   unfold impl_FlUnpack.j1
   repeat' first
   | (with_reducible exact ih0 _ _ _)
   | (with_reducible exact ih1 _ _ _ _ _ _ _)
   | (with_reducible exact LeO.refl _)
   | (with_reducible exact LeO.none _)
   | (with_reducible refine LeO.ite ?_ ?_)
   | (with_reducible refine LeO.bind ?_ (fun _ => ?_))
   | exact ih0 _ _ _
   | exact ih1 _ _ _ _ _ _ _
   | exact LeO.none _
   | refine LeO.ite ?_ ?_
   | refine LeO.bind ?_ (fun _ => ?_)
theorem impl_FlUnpack.mono : ∀ a0 a1 k, LeO (impl_FlUnpack.f k a0 a1) (impl_FlUnpack.f (k + 1) a0 a1) := by
 intro a0 a1 k
 obtain ⟨ih0, ih1⟩ := impl_FlUnpack.mono_l k
 unfold impl_FlUnpack.f
 repeat' first
   | (with_reducible exact ih0 _ _ _)
   | (with_reducible exact ih1 _ _ _ _ _ _ _)
   | (with_reducible exact LeO.refl _)
   | (with_reducible exact LeO.none _)
   | (with_reducible refine LeO.ite ?_ ?_)
   | (with_reducible refine LeO.bind ?_ (fun _ => ?_))
   | exact ih0 _ _ _
   | exact ih1 _ _ _ _ _ _ _
   | exact LeO.none _
   | refine LeO.ite ?_ ?_
   | refine LeO.bind ?_ (fun _ => ?_)
set_option maxHeartbeats 8000000 in
set_option maxRecDepth 100000 in
theorem impl_FlUnpack.calls (k : Nat) (a0 : Int) (a1 : Int) (r1 : Int) (r2 : Bool) (r3 : Int) (r4 : Int) (r5 : Bool) (w : World) (h : impl_FlUnpack.f k a0 a1 = some (r1, r2, r3, r4, r5)) :
  Calls Try.prog 40 #[.int .i64 a0, .int .i64 a1] w fun e w' => e = .returned (.tuple #[.agg #[.int .i64 r1, .bool r2, .int .i64 r3, .int .i64 r4], .bool r5]) ∧ Below w.heap.size w w' := by
 have hu26 := Try.underlying26
 have HB := Aside0.mk (Below.refl w.heap.size w)
 have H : ((impl_isWord.f a0).bind fun t565 => (if t565 = true then ((impl_isWord.f a1).bind fun t566 => (impl_FlUnpack.j0 k a0 a1 (!t566))) else (impl_FlUnpack.j0 k a0 a1 true))) = some (r1, r2, r3, r4, r5) := h
 clear h
 have HC3 := Aside0.mk H
 clear H
 go_enter Try.func40, Try.ntmps40
 go_upto_region 1 with (first | ((with_reducible refine gate_dst (N := 4) rfl ?_); refine hkBox (N := 4) (cs := #[.int .i64 0, .bool false, .int .i64 0, .int .i64 0]) (t := 26) ?_; intro gb564 hg w4 hbox hb; have n_ := hkA (hkU HB hb) (hkA (Aside0.mk (hbox)) (hkA (hkG hg (hkS HB)) (hkG hg (hkS HB)))); clear HB; obtain ⟨HB, BK564, GW564, GE564⟩ := n_; clear hb hbox hg))
 (try simp only [Act.put, List.setIfInBounds_toArray, List.set_cons_zero, List.set_cons_succ])
 go_cut [16] (fun v16 wc => ∃ (kq : Nat) (x16_2 : Bool), v16 = .bool x16_2 ∧ Aside0 (impl_FlUnpack.j0 kq a0 a1 x16_2 = some (r1, r2, r3, r4, r5)) ∧ Aside0 (kq ≤ k) ∧ Aside0 (wc.heap[gb564]? = some (.cells #[.int .i64 0, .bool false, .int .i64 0, .int .i64 0] 26 (0, 0))) ∧ Aside0 (Below w.heap.size w wc))
 case first =>
  have H := HC3.out
  clear HC3
  replace H := hBi H
  obtain ⟨t565, A50, H⟩ := H
  replace H : (if t565 = true then ((impl_isWord.f a1).bind fun t566 => (impl_FlUnpack.j0 k a0 a1 (!t566))) else (impl_FlUnpack.j0 k a0 a1 true)) = some (r1, r2, r3, r4, r5) := H
  have A5 := Aside0.mk A50
  clear A50
  by_cases c6 : t565 = true
  ·subst c6
   have H1 : ((impl_isWord.f a1).bind fun t566 => (impl_FlUnpack.j0 k a0 a1 (!t566))) = some (r1, r2, r3, r4, r5) := by rw [if_pos rfl] at H; exact H
   clear H
   have H := H1
   clear H1
   replace H := hBi H
   obtain ⟨t566, A70, H⟩ := H
   replace H : (impl_FlUnpack.j0 k a0 a1 (!t566)) = some (r1, r2, r3, r4, r5) := H
   have A7 := Aside0.mk A70
   clear A70
   have H' := Aside0.mk H
   clear H
   go_wp2_with (first | ((with_reducible refine gate_callee (f := 80) rfl ?_); refine hkGo (N := some 10) Try.func80 #[.int .i64 a0] ?_; (with_reducible refine (impl_isWord.calls a0 true _ A5.out).mono ?_); rintro e w' ⟨rfl, ⟨nd, rfl⟩⟩; refine ⟨_, rfl, ?_⟩) | (go_at_call 80; (with_reducible refine (impl_isWord.calls a1 t566 _ A7.out).mono ?_); rintro e w' ⟨rfl, ⟨nd, rfl⟩⟩))
   go_meet
   case rel => exact ⟨_, (!t566), (by first | rfl | (simp; done) | (simp [*]; done)), H', ⟨by first | omega | exact Nat.le_refl _⟩, ⟨by refine hkz ?_; exact BK564.out⟩, ⟨hkS HB⟩⟩
  ·replace c6 := Bool.eq_false_iff.mpr c6
   subst c6
   have H1 : (impl_FlUnpack.j0 k a0 a1 true) = some (r1, r2, r3, r4, r5) := by rw [if_neg (show ¬ (false = true) by decide)] at H; exact H
   clear H
   have H := H1
   clear H1
   have H' := Aside0.mk H
   clear H
   go_wp2_with (first | ((with_reducible refine gate_callee (f := 80) rfl ?_); refine hkGo (N := some 10) Try.func80 #[.int .i64 a0] ?_; (with_reducible refine (impl_isWord.calls a0 false _ A5.out).mono ?_); rintro e w' ⟨rfl, ⟨nd, rfl⟩⟩; refine ⟨_, rfl, ?_⟩))
   go_meet
   case rel => exact ⟨_, (true), (by first | rfl | (simp; done) | (simp [*]; done)), H', ⟨by first | omega | exact Nat.le_refl _⟩, ⟨by refine hkz ?_; exact BK564.out⟩, ⟨hkS HB⟩⟩
 case rest =>
  clear HC3
  try clear p2
  try clear c4
  try clear c6
  obtain ⟨kq, x16_2, rfl, HA, HJ2, BK564, HB⟩ := hcut
  cases kq with
  | zero => exact absurd HA.out (by simp [impl_FlUnpack.j0])
  | succ kj2 =>
   have H := HA.out
   clear HA
   simp only [impl_FlUnpack.j0] at H
   by_cases c8 : x16_2 = true
   ·subst c8
    have H1 : (some (0, false, 0, 0, false)) = some (r1, r2, r3, r4, r5) := by rw [if_pos rfl] at H; exact H
    clear H
    have H := H1
    clear H1
    simp only [Option.some.injEq, Prod.mk.injEq] at H
    obtain ⟨rfl, rfl, rfl, rfl, rfl⟩ := H
    obtain ⟨hcz9_0, hfz9_0, hcz9_1, hfz9_1, hcz9_2, hfz9_2, hcz9_3, hfz9_3⟩ := hkc4 BK564
    go_wp2
    refine bodyPost_ret (results_ct rfl _ _ gb564 26 #[.int .i64 0, .bool false, .int .i64 0, .int .i64 0] (0, 0) _ rfl hkPp Try.underlying26 rfl (by kernel_rfl)) rfl ?_
    exact ⟨hkE, hkS HB⟩
   ·replace c8 := Bool.eq_false_iff.mpr c8
    subst c8
    have H1 : (if (Go.bits .and .i64 (a0 / 1048576) 2047) = 2047 then (impl_FlUnpack.j1 kj2 (Go.bits .and .i64 (a0 / 1048576) 2047) (Go.bits .or .i64 (wrap64 ((Go.bits .and .i64 a0 1048575) * 4294967296)) a1) ((Go.bits .or .i64 (wrap64 ((Go.bits .and .i64 a0 1048575) * 4294967296)) a1) != 0) 0 ((a0 / 2147483648) == 1) 0 0) else (impl_FlUnpack.j1 kj2 (Go.bits .and .i64 (a0 / 1048576) 2047) (Go.bits .or .i64 (wrap64 ((Go.bits .and .i64 a0 1048575) * 4294967296)) a1) false 0 ((a0 / 2147483648) == 1) 0 0)) = some (r1, r2, r3, r4, r5) := by rw [if_neg (show ¬ (false = true) by decide)] at H; exact H
    clear H
    have H := H1
    clear H1
    have HC10 := Aside0.mk H
    clear H
    go_upto_region 5 with (first | ((with_reducible refine gate_dst (N := 8) rfl ?_); refine hkBox (N := 8) (cs := #[.int .i64 0, .bool false, .int .i64 0, .int .i64 0]) (t := 26) ?_; intro gb567 hg w11 hbox hb; have n_ := hkA (hkBb BK564 hb) (hkA (hkU HB hb) (hkA (Aside0.mk (hbox)) (hkA (hkG hg (hkS HB)) (hkA (hkG hg (hkS HB)) (hkA (hkN hg BK564) (hkM hg BK564)))))); clear BK564 HB; obtain ⟨BK564, HB, BK567, GW567, GE567, NB564_567, NB567_564⟩ := n_; clear hb hbox hg; have hnb12 := NB567_564.out; have hnc12 := NB564_567.out; obtain ⟨hcz13_0, hfz13_0, hcz13_1, hfz13_1, hcz13_2, hfz13_2, hcz13_3, hfz13_3⟩ := hkc4 BK567))
    (try simp only [Act.put, List.setIfInBounds_toArray, List.set_cons_zero, List.set_cons_succ])
    go_cut [30] (fun v30 wc => ∃ (kq : Nat) (x30_9 : Bool), v30 = .bool x30_9 ∧ Aside0 (impl_FlUnpack.j1 kq (Go.bits .and .i64 (a0 / 1048576) 2047) (Go.bits .or .i64 (wrap64 ((Go.bits .and .i64 a0 1048575) * 4294967296)) a1) x30_9 0 ((a0 / 2147483648) == 1) 0 0 = some (r1, r2, r3, r4, r5)) ∧ Aside0 (kq ≤ kj2) ∧ Aside0 (wc.heap[gb564]? = some (.cells #[.int .i64 0, .bool false, .int .i64 0, .int .i64 0] 26 (0, 0))) ∧ Aside0 (wc.heap[gb567]? = some (.cells #[.int .i64 0, .bool ((a0 / 2147483648) == 1), .int .i64 0, .int .i64 0] 26 (0, 0))) ∧ Aside0 (Below w.heap.size w wc))
    case first =>
     have H := HC10.out
     clear HC10
     by_cases c14 : (Go.bits .and .i64 (a0 / 1048576) 2047) = 2047
     ·rw [if_pos c14] at H
      have c14b0 : ((Go.bits .and .i64 (a0 / 1048576) 2047) == 2047) = true := beq_iff_eq.mpr c14
      have c14b1 : ((Go.bits .and .i64 (a0 / 1048576) 2047) != 2047) = false := bne_eq_false_iff_eq.mpr c14
      clear c14
      (first | rw [c14b0] | (simp only [i64_w, i32_w]; rw [c14b0]) | skip)
      have H' := Aside0.mk H
      clear H
      go_wp2
      go_meet
      case rel => exact ⟨_, (((Go.bits .or .i64 (wrap64 ((Go.bits .and .i64 a0 1048575) * 4294967296)) a1) != 0)), (by first | rfl | (simp; done) | (simp [*]; done)), H', ⟨by have := HJ2.out; first | omega | exact Nat.le_refl _⟩, ⟨by refine hkz ?_; refine blk_far ?_ NB564_567.out _; refine hkz ?_; refine blk_far ?_ NB564_567.out _; refine hkz ?_; refine blk_far ?_ NB564_567.out _; refine hkz ?_; refine blk_far ?_ NB564_567.out _; refine hkz ?_; exact BK564.out⟩, ⟨by refine hkz ?_; refine blk_put (cs := #[.int .i64 0, .bool ((a0 / 2147483648) == 1), .int .i64 0, .int .i64 0]) ?_ 3 _ rfl; refine hkz ?_; refine blk_put (cs := #[.int .i64 0, .bool ((a0 / 2147483648) == 1), .int .i64 0, .int .i64 0]) ?_ 2 _ rfl; refine hkz ?_; refine blk_put (cs := #[.int .i64 0, .bool false, .int .i64 0, .int .i64 0]) ?_ 1 _ rfl; refine hkz ?_; refine blk_put (cs := #[.int .i64 0, .bool false, .int .i64 0, .int .i64 0]) ?_ 0 _ rfl; refine hkz ?_; exact BK567.out⟩, ⟨hkS HB⟩⟩
     ·rw [if_neg c14] at H
      have c14b0 : ((Go.bits .and .i64 (a0 / 1048576) 2047) == 2047) = false := beq_eq_false_iff_ne.mpr c14
      have c14b1 : ((Go.bits .and .i64 (a0 / 1048576) 2047) != 2047) = true := bne_iff_ne.mpr c14
      (first | rw [c14b0] | (simp only [i64_w, i32_w]; rw [c14b0]) | skip)
      have H' := Aside0.mk H
      clear H
      go_wp2
      go_meet
      case rel => exact ⟨_, (false), (by first | rfl | (simp; done) | (simp [*]; done)), H', ⟨by have := HJ2.out; first | omega | exact Nat.le_refl _⟩, ⟨by refine hkz ?_; refine blk_far ?_ NB564_567.out _; refine hkz ?_; refine blk_far ?_ NB564_567.out _; refine hkz ?_; refine blk_far ?_ NB564_567.out _; refine hkz ?_; refine blk_far ?_ NB564_567.out _; refine hkz ?_; exact BK564.out⟩, ⟨by refine hkz ?_; refine blk_put (cs := #[.int .i64 0, .bool ((a0 / 2147483648) == 1), .int .i64 0, .int .i64 0]) ?_ 3 _ rfl; refine hkz ?_; refine blk_put (cs := #[.int .i64 0, .bool ((a0 / 2147483648) == 1), .int .i64 0, .int .i64 0]) ?_ 2 _ rfl; refine hkz ?_; refine blk_put (cs := #[.int .i64 0, .bool false, .int .i64 0, .int .i64 0]) ?_ 1 _ rfl; refine hkz ?_; refine blk_put (cs := #[.int .i64 0, .bool false, .int .i64 0, .int .i64 0]) ?_ 0 _ rfl; refine hkz ?_; exact BK567.out⟩, ⟨hkS HB⟩⟩
    case rest =>
     clear HC10
     try clear c1
     try clear p2
     try clear c4
     try clear c6
     try clear p6
     try clear c8
     try clear c12
     try clear c14
     try clear c14b0
     try clear c14b1
     try clear hcz13_0 hcz13_1 hcz13_2 hcz13_3 hcz9_0 hcz9_1 hcz9_2 hcz9_3 hfz13_0 hfz13_1 hfz13_2 hfz13_3 hfz9_0 hfz9_1 hfz9_2 hfz9_3
     try clear p2
     obtain ⟨kq, x30_9, rfl, HA, HJ9, BK564, BK567, HB⟩ := hcut
     cases kq with
     | zero => exact absurd HA.out (by simp [impl_FlUnpack.j1])
     | succ kj9 =>
      have H := HA.out
      clear HA
      simp only [impl_FlUnpack.j1] at H
      by_cases c15 : x30_9 = true
      ·subst c15
       have H1 : ((impl_nan.f).bind fun bt568 => (some (bt568.1, bt568.2.1, bt568.2.2.1, bt568.2.2.2, true))) = some (r1, r2, r3, r4, r5) := by rw [if_pos rfl] at H; exact H
       clear H
       have H := H1
       clear H1
       replace H := hBi H
       obtain ⟨⟨t568, t569, t570, t571⟩, A160, H⟩ := H
       replace H : (some (t568, t569, t570, t571, true)) = some (r1, r2, r3, r4, r5) := H
       have A16 := Aside0.mk A160
       clear A160
       simp only [Option.some.injEq, Prod.mk.injEq] at H
       obtain ⟨rfl, rfl, rfl, rfl, rfl⟩ := H
       go_wp2_with (first | ((with_reducible refine gate_callee (f := 81) rfl ?_); refine hkGo (N := some 37) Try.func81 #[] ?_; (with_reducible refine (impl_nan.calls  t568 t569 t570 t571 _ A16.out).mono ?_); rintro e w17 ⟨rfl, hb⟩; refine ⟨_, rfl, ?_⟩; have n_ := hkA (hkBb BK564 hb) (hkA (hkBb BK567 hb) (hkU HB hb)); clear BK564 BK567 HB; obtain ⟨BK564, BK567, HB⟩ := n_; (try clear hb); have hnb18 := NB564_567.out; have hnc18 := NB567_564.out; obtain ⟨hcz19_0, hfz19_0, hcz19_1, hfz19_1, hcz19_2, hfz19_2, hcz19_3, hfz19_3⟩ := hkc4 BK564))
       refine bodyPost_ret (results_ct rfl _ _ gb564 26 #[.int .i64 t568, .bool t569, .int .i64 t570, .int .i64 t571] (0, 0) _ rfl hkPp Try.underlying26 rfl (by kernel_rfl)) rfl ?_
       exact ⟨hkE, hkS HB⟩
      ·replace c15 := Bool.eq_false_iff.mpr c15
       subst c15
       have H1 : (if (Go.bits .and .i64 (a0 / 1048576) 2047) = 2047 then (some (2, ((a0 / 2147483648) == 1), 0, 0, true)) else (if (Go.bits .and .i64 (a0 / 1048576) 2047) > 0 then (some (1, ((a0 / 2147483648) == 1), Go.bits .or .i64 (Go.bits .or .i64 (wrap64 ((Go.bits .and .i64 a0 1048575) * 4294967296)) a1) 4503599627370496, wrap64 ((wrap64 ((Go.bits .and .i64 (a0 / 1048576) 2047) + (-1074))) - 1), true)) else (if (Go.bits .or .i64 (wrap64 ((Go.bits .and .i64 a0 1048575) * 4294967296)) a1) > 0 then (some (1, ((a0 / 2147483648) == 1), (Go.bits .or .i64 (wrap64 ((Go.bits .and .i64 a0 1048575) * 4294967296)) a1), (-1074), true)) else (some (0, ((a0 / 2147483648) == 1), 0, 0, true))))) = some (r1, r2, r3, r4, r5) := by rw [if_neg (show ¬ (false = true) by decide)] at H; exact H
       clear H
       have H := H1
       clear H1
       by_cases c20 : (Go.bits .and .i64 (a0 / 1048576) 2047) = 2047
       ·rw [if_pos c20] at H
        have c20b0 : ((Go.bits .and .i64 (a0 / 1048576) 2047) == 2047) = true := beq_iff_eq.mpr c20
        have c20b1 : ((Go.bits .and .i64 (a0 / 1048576) 2047) != 2047) = false := bne_eq_false_iff_eq.mpr c20
        clear c20
        simp only [Option.some.injEq, Prod.mk.injEq] at H
        obtain ⟨rfl, rfl, rfl, rfl, rfl⟩ := H
        have hnb21 := NB567_564.out
        have hnc21 := NB564_567.out
        obtain ⟨hcz22_0, hfz22_0, hcz22_1, hfz22_1, hcz22_2, hfz22_2, hcz22_3, hfz22_3⟩ := hkc4 BK567
        obtain ⟨hcz23_0, hfz23_0, hcz23_1, hfz23_1, hcz23_2, hfz23_2, hcz23_3, hfz23_3⟩ := hkc4 BK564
        go_wp2
        refine bodyPost_ret (results_ct rfl _ _ gb564 26 #[.int .i64 2, .bool ((a0 / 2147483648) == 1), .int .i64 0, .int .i64 0] (0, 0) _ rfl hkPp Try.underlying26 rfl (by kernel_rfl)) rfl ?_
        exact ⟨hkE, hkS HB⟩
       ·rw [if_neg c20] at H
        have c20b0 : ((Go.bits .and .i64 (a0 / 1048576) 2047) == 2047) = false := beq_eq_false_iff_ne.mpr c20
        have c20b1 : ((Go.bits .and .i64 (a0 / 1048576) 2047) != 2047) = true := bne_iff_ne.mpr c20
        by_cases c24 : (Go.bits .and .i64 (a0 / 1048576) 2047) > 0
        ·rw [if_pos c24] at H
         have c24b0 : decide (0 < (Go.bits .and .i64 (a0 / 1048576) 2047)) = true := decide_eq_true c24
         clear c24
         simp only [Option.some.injEq, Prod.mk.injEq] at H
         obtain ⟨rfl, rfl, rfl, rfl, rfl⟩ := H
         have hnb25 := NB567_564.out
         have hnc25 := NB564_567.out
         obtain ⟨hcz26_0, hfz26_0, hcz26_1, hfz26_1, hcz26_2, hfz26_2, hcz26_3, hfz26_3⟩ := hkc4 BK567
         obtain ⟨hcz27_0, hfz27_0, hcz27_1, hfz27_1, hcz27_2, hfz27_2, hcz27_3, hfz27_3⟩ := hkc4 BK564
         go_wp2
         refine bodyPost_ret (results_ct rfl _ _ gb564 26 #[.int .i64 1, .bool ((a0 / 2147483648) == 1), .int .i64 (Go.bits .or .i64 (Go.bits .or .i64 (wrap64 ((Go.bits .and .i64 a0 1048575) * 4294967296)) a1) 4503599627370496), .int .i64 (wrap64 ((wrap64 ((Go.bits .and .i64 (a0 / 1048576) 2047) + (-1074))) - 1))] (0, 0) _ rfl hkPp Try.underlying26 rfl (by kernel_rfl)) rfl ?_
         exact ⟨hkE, hkS HB⟩
        ·rw [if_neg c24] at H
         have c24b0 : decide (0 < (Go.bits .and .i64 (a0 / 1048576) 2047)) = false := decide_eq_false c24
         clear c24
         by_cases c28 : (Go.bits .or .i64 (wrap64 ((Go.bits .and .i64 a0 1048575) * 4294967296)) a1) > 0
         ·rw [if_pos c28] at H
          have c28b0 : decide (0 < (Go.bits .or .i64 (wrap64 ((Go.bits .and .i64 a0 1048575) * 4294967296)) a1)) = true := decide_eq_true c28
          clear c28
          simp only [Option.some.injEq, Prod.mk.injEq] at H
          obtain ⟨rfl, rfl, rfl, rfl, rfl⟩ := H
          have hnb29 := NB567_564.out
          have hnc29 := NB564_567.out
          obtain ⟨hcz30_0, hfz30_0, hcz30_1, hfz30_1, hcz30_2, hfz30_2, hcz30_3, hfz30_3⟩ := hkc4 BK567
          obtain ⟨hcz31_0, hfz31_0, hcz31_1, hfz31_1, hcz31_2, hfz31_2, hcz31_3, hfz31_3⟩ := hkc4 BK564
          go_wp2
          refine bodyPost_ret (results_ct rfl _ _ gb564 26 #[.int .i64 1, .bool ((a0 / 2147483648) == 1), .int .i64 (Go.bits .or .i64 (wrap64 ((Go.bits .and .i64 a0 1048575) * 4294967296)) a1), .int .i64 (-1074)] (0, 0) _ rfl hkPp Try.underlying26 rfl (by kernel_rfl)) rfl ?_
          exact ⟨hkE, hkS HB⟩
         ·rw [if_neg c28] at H
          have c28b0 : decide (0 < (Go.bits .or .i64 (wrap64 ((Go.bits .and .i64 a0 1048575) * 4294967296)) a1)) = false := decide_eq_false c28
          clear c28
          simp only [Option.some.injEq, Prod.mk.injEq] at H
          obtain ⟨rfl, rfl, rfl, rfl, rfl⟩ := H
          have hnb32 := NB567_564.out
          have hnc32 := NB564_567.out
          obtain ⟨hcz33_0, hfz33_0, hcz33_1, hfz33_1, hcz33_2, hfz33_2, hcz33_3, hfz33_3⟩ := hkc4 BK567
          obtain ⟨hcz34_0, hfz34_0, hcz34_1, hfz34_1, hcz34_2, hfz34_2, hcz34_3, hfz34_3⟩ := hkc4 BK564
          go_wp2
          refine bodyPost_ret (results_ct rfl _ _ gb564 26 #[.int .i64 0, .bool ((a0 / 2147483648) == 1), .int .i64 0, .int .i64 0] (0, 0) _ rfl hkPp Try.underlying26 rfl (by kernel_rfl)) rfl ?_
          exact ⟨hkE, hkS HB⟩

/-! ### spec_l5neg: function 123 -/
def spec_l5neg.f (a0_0 : Int) (a0_1 : Bool) (a0_2 : Int) (a0_3 : Int) : Option (Int × Bool × Int × Int) := if a0_0 = 3 then (some (a0_0, a0_1, a0_2, a0_3)) else (some (a0_0, !a0_1, a0_2, a0_3))
set_option maxHeartbeats 8000000 in
set_option maxRecDepth 100000 in
theorem spec_l5neg.calls (a0_0 : Int) (a0_1 : Bool) (a0_2 : Int) (a0_3 : Int) (r1 : Int) (r2 : Bool) (r3 : Int) (r4 : Int) (w : World) (h : spec_l5neg.f a0_0 a0_1 a0_2 a0_3 = some (r1, r2, r3, r4)) :
  Calls Try.prog 123 #[.agg #[.int .i64 a0_0, .bool a0_1, .int .i64 a0_2, .int .i64 a0_3]] w fun e w' => e = .returned (.agg #[.int .i64 r1, .bool r2, .int .i64 r3, .int .i64 r4]) ∧ Below w.heap.size w w' := by
 have hu26 := Try.underlying26
 have HB := Aside0.mk (Below.refl w.heap.size w)
 have H : (if a0_0 = 3 then (some (a0_0, a0_1, a0_2, a0_3)) else (some (a0_0, !a0_1, a0_2, a0_3))) = some (r1, r2, r3, r4) := h
 clear h
 by_cases c2 : a0_0 = 3
 ·rw [if_pos c2] at H
  have c2b0 : (a0_0 == 3) = true := beq_iff_eq.mpr c2
  have c2b1 : (a0_0 != 3) = false := bne_eq_false_iff_eq.mpr c2
  clear c2
  simp only [Option.some.injEq, Prod.mk.injEq] at H
  obtain ⟨rfl, rfl, rfl, rfl⟩ := H
  go_enter Try.func123, Try.ntmps123
  go_wp2_with (first | ((with_reducible refine gate_dst (N := 1) rfl ?_); refine hkBox (N := 1) (cs := #[.int .i64 a0_0, .bool a0_1, .int .i64 a0_2, .int .i64 a0_3]) (t := 26) ?_; intro gb572 hg w3 hbox hb; have n_ := hkA (hkU HB hb) (hkA (Aside0.mk (hbox)) (hkA (hkG hg (hkS HB)) (hkG hg (hkS HB)))); clear HB; obtain ⟨HB, BK572, GW572, GE572⟩ := n_; clear hb hbox hg) | ((with_reducible refine gate_dst (N := 2) rfl ?_); refine hkBox (N := 2) (cs := #[.int .i64 0, .bool false, .int .i64 0, .int .i64 0]) (t := 26) ?_; intro gb573 hg w4 hbox hb; have n_ := hkA (hkBb BK572 hb) (hkA (hkU HB hb) (hkA (Aside0.mk (hbox)) (hkA (hkG hg (hkS HB)) (hkA (hkG hg (hkS HB)) (hkA (hkN hg BK572) (hkM hg BK572)))))); clear BK572 HB; obtain ⟨BK572, HB, BK573, GW573, GE573, NB572_573, NB573_572⟩ := n_; clear hb hbox hg; have hnb5 := NB572_573.out; have hnc5 := NB573_572.out; obtain ⟨hcz6_0, hfz6_0, hcz6_1, hfz6_1, hcz6_2, hfz6_2, hcz6_3, hfz6_3⟩ := hkc4 BK572; obtain ⟨hcz7_0, hfz7_0, hcz7_1, hfz7_1, hcz7_2, hfz7_2, hcz7_3, hfz7_3⟩ := hkc4 BK573))
  refine bodyPost_ret (results_cell_row rfl _ _ gb573 26 #[.int .i64 a0_0, .bool a0_1, .int .i64 a0_2, .int .i64 a0_3] (0, 0) _ rfl hkPp Try.underlying26 rfl (by kernel_rfl)) rfl ?_
  exact ⟨hkE, hkS HB⟩
 ·rw [if_neg c2] at H
  have c2b0 : (a0_0 == 3) = false := beq_eq_false_iff_ne.mpr c2
  have c2b1 : (a0_0 != 3) = true := bne_iff_ne.mpr c2
  simp only [Option.some.injEq, Prod.mk.injEq] at H
  obtain ⟨rfl, rfl, rfl, rfl⟩ := H
  go_enter Try.func123, Try.ntmps123
  go_wp2_with (first | ((with_reducible refine gate_dst (N := 1) rfl ?_); refine hkBox (N := 1) (cs := #[.int .i64 a0_0, .bool a0_1, .int .i64 a0_2, .int .i64 a0_3]) (t := 26) ?_; intro gb572 hg w8 hbox hb; have n_ := hkA (hkU HB hb) (hkA (Aside0.mk (hbox)) (hkA (hkG hg (hkS HB)) (hkG hg (hkS HB)))); clear HB; obtain ⟨HB, BK572, GW572, GE572⟩ := n_; clear hb hbox hg) | ((with_reducible refine gate_dst (N := 2) rfl ?_); refine hkBox (N := 2) (cs := #[.int .i64 0, .bool false, .int .i64 0, .int .i64 0]) (t := 26) ?_; intro gb573 hg w9 hbox hb; have n_ := hkA (hkBb BK572 hb) (hkA (hkU HB hb) (hkA (Aside0.mk (hbox)) (hkA (hkG hg (hkS HB)) (hkA (hkG hg (hkS HB)) (hkA (hkN hg BK572) (hkM hg BK572)))))); clear BK572 HB; obtain ⟨BK572, HB, BK573, GW573, GE573, NB572_573, NB573_572⟩ := n_; clear hb hbox hg; have hnb10 := NB572_573.out; have hnc10 := NB573_572.out; obtain ⟨hcz11_0, hfz11_0, hcz11_1, hfz11_1, hcz11_2, hfz11_2, hcz11_3, hfz11_3⟩ := hkc4 BK572; obtain ⟨hcz12_0, hfz12_0, hcz12_1, hfz12_1, hcz12_2, hfz12_2, hcz12_3, hfz12_3⟩ := hkc4 BK573))
  refine bodyPost_ret (results_cell_row rfl _ _ gb573 26 #[.int .i64 a0_0, .bool (!a0_1), .int .i64 a0_2, .int .i64 a0_3] (0, 0) _ rfl hkPp Try.underlying26 rfl (by kernel_rfl)) rfl ?_
  exact ⟨hkE, hkS HB⟩

end Go.Proofs.Ytgjpahofopoflaa.PFnPacks
