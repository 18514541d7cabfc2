-- Written by our own driver (wip/hand/hprint.py) over the seat's translation.
import Derived.Test.YtgjpahofopoflaaPFnPacksx0
import Derived.Test.YtgjpahofopoflaaPFnPacksx10
import Derived.Test.YtgjpahofopoflaaPFnPacksx11
import Derived.Test.YtgjpahofopoflaaPFnPacksx25
import Derived.Test.YtgjpahofopoflaaPFnPacksx28
namespace Go.Proofs.Ytgjpahofopoflaa.PFnPacks
open Go.RowKit Go.Proofs.YtgjpahofopoflaaW.PrintWords Go.Proofs.YtgjpahofopoflaaW.PrintLast Go.Proofs.YtgjpahofopoflaaW.PrintMore
attribute [local go_sem] max2_int min2_int max_two min_two max_three min_three max_four min_four   -- for this text's walks alone
set_option linter.unusedVariables false
set_option linter.unusedSimpArgs false

/-! ### spec_FlPack: function 84 -/
def spec_FlPack.j0 : Nat → Int → Int → Bool → Int → Int → Option (Int × Int × Bool)
 | 0, _, _, _, _, _ => none
 | k + 1, x5, x634000, x634001, x634002, x634003 => if x634000 = 0 then (some (x5, 0, true)) else (if x634000 = 2 then (some (wrap64 (x5 + 2146435072), 0, true)) else (if x634000 = 3 then (some (2146959360, 0, true)) else (if x634002 < 4503599627370496 then (some (wrap64 (x5 + (x634002 / 4294967296)), Go.bits .and .i64 x634002 4294967295, true)) else (some (wrap64 ((wrap64 (x5 + (wrap64 ((wrap64 ((wrap64 (x634003 - (-1074))) + 1)) * 1048576)))) + ((wrap64 (x634002 - 4503599627370496)) / 4294967296)), Go.bits .and .i64 (wrap64 (x634002 - 4503599627370496)) 4294967295, true)))))
def spec_FlPack.f (k : Nat) (a0_0 : Int) (a0_1 : Bool) (a0_2 : Int) (a0_3 : Int) : Option (Int × Int × Bool) := (spec_FlOk.f k a0_0 a0_1 a0_2 a0_3).bind fun t634 => (if t634 = true then (if a0_1 = true then (spec_FlPack.j0 k 2147483648 a0_0 a0_1 a0_2 a0_3) else (spec_FlPack.j0 k 0 a0_0 a0_1 a0_2 a0_3)) else (some (0, 0, false)))
theorem spec_FlPack.mono_l : ∀ k, (∀ y0 y1 y2 y3 y4, LeO (spec_FlPack.j0 k y0 y1 y2 y3 y4) (spec_FlPack.j0 (k + 1) y0 y1 y2 y3 y4))
 | 0 => fun _ _ _ _ _ r h => by simp [spec_FlPack.j0] at h
 | k + 1 => by
  have ih0 := spec_FlPack.mono_l k
  ·intro y0 y1 y2 y3 y4
   unfold spec_FlPack.j0
   repeat' first
   | (with_reducible exact ih0 _ _ _ _ _)
   | (with_reducible exact spec_FlOk.mono _ _ _ _ _)
   | (with_reducible exact LeO.refl _)
   | (with_reducible exact LeO.none _)
   | (with_reducible refine LeO.ite ?_ ?_)
   | (with_reducible refine LeO.bind ?_ (fun _ => ?_))
   | exact ih0 _ _ _ _ _
   | exact spec_FlOk.mono _ _ _ _ _
   | exact LeO.none _
   | refine LeO.ite ?_ ?_
   | refine LeO.bind ?_ (fun _ => ?_)
theorem spec_FlPack.mono : ∀ a0 a1 a2 a3 k, LeO (spec_FlPack.f k a0 a1 a2 a3) (spec_FlPack.f (k + 1) a0 a1 a2 a3) := by
 intro a0 a1 a2 a3 k
 have ih0 := spec_FlPack.mono_l k
 unfold spec_FlPack.f
 repeat' first
   | (with_reducible exact ih0 _ _ _ _ _)
   | (with_reducible exact spec_FlOk.mono _ _ _ _ _)
   | (with_reducible exact LeO.refl _)
   | (with_reducible exact LeO.none _)
   | (with_reducible refine LeO.ite ?_ ?_)
   | (with_reducible refine LeO.bind ?_ (fun _ => ?_))
   | exact ih0 _ _ _ _ _
   | exact spec_FlOk.mono _ _ _ _ _
   | exact LeO.none _
   | refine LeO.ite ?_ ?_
   | refine LeO.bind ?_ (fun _ => ?_)
set_option maxHeartbeats 8000000 in
set_option maxRecDepth 100000 in
theorem spec_FlPack.calls (k : Nat) (a0_0 : Int) (a0_1 : Bool) (a0_2 : Int) (a0_3 : Int) (r1 : Int) (r2 : Int) (r3 : Bool) (w : World) (h : spec_FlPack.f k a0_0 a0_1 a0_2 a0_3 = some (r1, r2, r3)) :
  Calls Try.prog 84 #[.agg #[.int .i64 a0_0, .bool a0_1, .int .i64 a0_2, .int .i64 a0_3]] w fun e w' => e = .returned (.tuple #[.int .i64 r1, .int .i64 r2, .bool r3]) ∧ Below w.heap.size w w' := by
 have hu26 := Try.underlying26
 have HB := Aside0.mk (Below.refl w.heap.size w)
 have H : ((spec_FlOk.f k a0_0 a0_1 a0_2 a0_3).bind fun t634 => (if t634 = true then (if a0_1 = true then (spec_FlPack.j0 k 2147483648 a0_0 a0_1 a0_2 a0_3) else (spec_FlPack.j0 k 0 a0_0 a0_1 a0_2 a0_3)) else (some (0, 0, false)))) = some (r1, r2, r3) := h
 clear h
 replace H := hBi H
 obtain ⟨t634, A20, H⟩ := H
 replace H : (if t634 = true then (if a0_1 = true then (spec_FlPack.j0 k 2147483648 a0_0 a0_1 a0_2 a0_3) else (spec_FlPack.j0 k 0 a0_0 a0_1 a0_2 a0_3)) else (some (0, 0, false))) = some (r1, r2, r3) := H
 have A2 := Aside0.mk A20
 clear A20
 by_cases c3 : t634 = true
 ·subst c3
  have H1 : (if a0_1 = true then (spec_FlPack.j0 k 2147483648 a0_0 a0_1 a0_2 a0_3) else (spec_FlPack.j0 k 0 a0_0 a0_1 a0_2 a0_3)) = some (r1, r2, r3) := by rw [if_pos rfl] at H; exact H
  clear H
  have H := H1
  clear H1
  have HC4 := Aside0.mk H
  clear H
  go_enter Try.func84, Try.ntmps84
  go_upto_if 11 with (first | ((with_reducible refine gate_dst (N := 1) rfl ?_); refine hkBox (N := 1) (cs := #[.int .i64 a0_0, .bool a0_1, .int .i64 a0_2, .int .i64 a0_3]) (t := 26) ?_; intro gb633 hg w5 hbox hb; have n_ := hkA (hkU HB hb) (hkA (Aside0.mk (hbox)) (hkA (hkG hg (hkS HB)) (hkG hg (hkS HB)))); clear HB; obtain ⟨HB, BK633, GW633, GE633⟩ := n_; clear hb hbox hg; obtain ⟨hcz6_0, hfz6_0, hcz6_1, hfz6_1, hcz6_2, hfz6_2, hcz6_3, hfz6_3⟩ := hkc4 BK633) | (go_at_call 38; (with_reducible refine (spec_FlOk.calls k a0_0 a0_1 a0_2 a0_3 true _ A2.out).mono ?_); rintro e w7 ⟨rfl, hb⟩; have n_ := hkA (hkBb BK633 hb) (hkU HB hb); clear BK633 HB; obtain ⟨BK633, HB⟩ := n_; (try clear hb); obtain ⟨hcz8_0, hfz8_0, hcz8_1, hfz8_1, hcz8_2, hfz8_2, hcz8_3, hfz8_3⟩ := hkc4 BK633))
  repeat (go_quiet (first | ((with_reducible refine gate_dst (N := 1) rfl ?_); refine hkBox (N := 1) (cs := #[.int .i64 a0_0, .bool a0_1, .int .i64 a0_2, .int .i64 a0_3]) (t := 26) ?_; intro gb633 hg w5 hbox hb; have n_ := hkA (hkU HB hb) (hkA (Aside0.mk (hbox)) (hkA (hkG hg (hkS HB)) (hkG hg (hkS HB)))); clear HB; obtain ⟨HB, BK633, GW633, GE633⟩ := n_; clear hb hbox hg; obtain ⟨hcz6_0, hfz6_0, hcz6_1, hfz6_1, hcz6_2, hfz6_2, hcz6_3, hfz6_3⟩ := hkc4 BK633) | (go_at_call 38; (with_reducible refine (spec_FlOk.calls k a0_0 a0_1 a0_2 a0_3 true _ A2.out).mono ?_); rintro e w7 ⟨rfl, hb⟩; have n_ := hkA (hkBb BK633 hb) (hkU HB hb); clear BK633 HB; obtain ⟨BK633, HB⟩ := n_; (try clear hb); obtain ⟨hcz8_0, hfz8_0, hcz8_1, hfz8_1, hcz8_2, hfz8_2, hcz8_3, hfz8_3⟩ := hkc4 BK633)); go_upto_if 11 with (first | ((with_reducible refine gate_dst (N := 1) rfl ?_); refine hkBox (N := 1) (cs := #[.int .i64 a0_0, .bool a0_1, .int .i64 a0_2, .int .i64 a0_3]) (t := 26) ?_; intro gb633 hg w5 hbox hb; have n_ := hkA (hkU HB hb) (hkA (Aside0.mk (hbox)) (hkA (hkG hg (hkS HB)) (hkG hg (hkS HB)))); clear HB; obtain ⟨HB, BK633, GW633, GE633⟩ := n_; clear hb hbox hg; obtain ⟨hcz6_0, hfz6_0, hcz6_1, hfz6_1, hcz6_2, hfz6_2, hcz6_3, hfz6_3⟩ := hkc4 BK633) | (go_at_call 38; (with_reducible refine (spec_FlOk.calls k a0_0 a0_1 a0_2 a0_3 true _ A2.out).mono ?_); rintro e w7 ⟨rfl, hb⟩; have n_ := hkA (hkBb BK633 hb) (hkU HB hb); clear BK633 HB; obtain ⟨BK633, HB⟩ := n_; (try clear hb); obtain ⟨hcz8_0, hfz8_0, hcz8_1, hfz8_1, hcz8_2, hfz8_2, hcz8_3, hfz8_3⟩ := hkc4 BK633)))
  (try simp only [Act.put, List.setIfInBounds_toArray, List.set_cons_zero, List.set_cons_succ])
  go_cut [5] (fun v5 wc => ∃ (kq : Nat) (x5_3 : Int), v5 = .int .i64 x5_3 ∧ Aside0 (spec_FlPack.j0 kq x5_3 a0_0 a0_1 a0_2 a0_3 = some (r1, r2, r3)) ∧ Aside0 (kq ≤ k) ∧ Aside0 (wc.heap[gb633]? = some (.cells #[.int .i64 a0_0, .bool a0_1, .int .i64 a0_2, .int .i64 a0_3] 26 (0, 0))) ∧ Aside0 (Below w.heap.size w wc))
  case first =>
   have H := HC4.out
   clear HC4
   by_cases c9 : a0_1 = true
   ·subst c9
    have H1 : (spec_FlPack.j0 k 2147483648 a0_0 true a0_2 a0_3) = some (r1, r2, r3) := by rw [if_pos rfl] at H; exact H
    clear H
    have H := H1
    clear H1
    have H' := Aside0.mk H
    clear H
    go_wp2
    repeat (go_quiet (fail); try go_wp2)
    go_meet
    case rel => exact ⟨_, (2147483648), (by first | rfl | (simp; done) | (simp [*]; done)), H', ⟨by first | omega | exact Nat.le_refl _⟩, ⟨by refine hkz ?_; exact BK633.out⟩, ⟨hkS HB⟩⟩
   ·replace c9 := Bool.eq_false_iff.mpr c9
    subst c9
    have H1 : (spec_FlPack.j0 k 0 a0_0 false a0_2 a0_3) = some (r1, r2, r3) := by rw [if_neg (show ¬ (false = true) by decide)] at H; exact H
    clear H
    have H := H1
    clear H1
    have H' := Aside0.mk H
    clear H
    go_wp2
    repeat (go_quiet (fail); try go_wp2)
    go_meet
    case rel => exact ⟨_, (0), (by first | rfl | (simp; done) | (simp [*]; done)), H', ⟨by first | omega | exact Nat.le_refl _⟩, ⟨by refine hkz ?_; exact BK633.out⟩, ⟨hkS HB⟩⟩
  case rest =>
   clear HC4
   try clear p2
   try clear c3
   try clear c8
   try clear c9
   try clear hcz6_0 hcz6_1 hcz6_2 hcz6_3 hcz8_0 hcz8_1 hcz8_2 hcz8_3 hfz6_0 hfz6_1 hfz6_2 hfz6_3 hfz8_0 hfz8_1 hfz8_2 hfz8_3
   obtain ⟨kq, x5_3, rfl, HA, HJ3, BK633, HB⟩ := hcut
   cases kq with
   | zero => exact absurd HA.out (by simp [spec_FlPack.j0])
   | succ kj3 =>
    have H := HA.out
    clear HA
    simp only [spec_FlPack.j0] at H
    by_cases c10 : a0_0 = 0
    ·rw [if_pos c10] at H
     have c10b0 : (a0_0 == 0) = true := beq_iff_eq.mpr c10
     have c10b1 : (a0_0 != 0) = false := bne_eq_false_iff_eq.mpr c10
     clear c10
     simp only [Option.some.injEq, Prod.mk.injEq] at H
     obtain ⟨rfl, rfl, rfl⟩ := H
     obtain ⟨hcz11_0, hfz11_0, hcz11_1, hfz11_1, hcz11_2, hfz11_2, hcz11_3, hfz11_3⟩ := hkc4 BK633
     go_wp2
     repeat (go_quiet (fail); try go_wp2)
     go_ret3
     exact ⟨hkE, hkS HB⟩
    ·rw [if_neg c10] at H
     have c10b0 : (a0_0 == 0) = false := beq_eq_false_iff_ne.mpr c10
     have c10b1 : (a0_0 != 0) = true := bne_iff_ne.mpr c10
     by_cases c12 : a0_0 = 2
     ·rw [if_pos c12] at H
      have c12b0 : (a0_0 == 2) = true := beq_iff_eq.mpr c12
      have c12b1 : (a0_0 != 2) = false := bne_eq_false_iff_eq.mpr c12
      clear c12
      simp only [Option.some.injEq, Prod.mk.injEq] at H
      obtain ⟨rfl, rfl, rfl⟩ := H
      obtain ⟨hcz13_0, hfz13_0, hcz13_1, hfz13_1, hcz13_2, hfz13_2, hcz13_3, hfz13_3⟩ := hkc4 BK633
      go_wp2
      repeat (go_quiet (fail); try go_wp2)
      go_ret3
      exact ⟨hkE, hkS HB⟩
     ·rw [if_neg c12] at H
      have c12b0 : (a0_0 == 2) = false := beq_eq_false_iff_ne.mpr c12
      have c12b1 : (a0_0 != 2) = true := bne_iff_ne.mpr c12
      by_cases c14 : a0_0 = 3
      ·rw [if_pos c14] at H
       have c14b0 : (a0_0 == 3) = true := beq_iff_eq.mpr c14
       have c14b1 : (a0_0 != 3) = false := bne_eq_false_iff_eq.mpr c14
       clear c14
       simp only [Option.some.injEq, Prod.mk.injEq] at H
       obtain ⟨rfl, rfl, rfl⟩ := H
       obtain ⟨hcz15_0, hfz15_0, hcz15_1, hfz15_1, hcz15_2, hfz15_2, hcz15_3, hfz15_3⟩ := hkc4 BK633
       go_wp2
       repeat (go_quiet (fail); try go_wp2)
       go_ret3
       exact ⟨hkE, hkS HB⟩
      ·rw [if_neg c14] at H
       have c14b0 : (a0_0 == 3) = false := beq_eq_false_iff_ne.mpr c14
       have c14b1 : (a0_0 != 3) = true := bne_iff_ne.mpr c14
       by_cases c16 : a0_2 < 4503599627370496
       ·rw [if_pos c16] at H
        have c16b0 : decide (a0_2 < 4503599627370496) = true := decide_eq_true c16
        clear c16
        simp only [Option.some.injEq, Prod.mk.injEq] at H
        obtain ⟨rfl, rfl, rfl⟩ := H
        obtain ⟨hcz17_0, hfz17_0, hcz17_1, hfz17_1, hcz17_2, hfz17_2, hcz17_3, hfz17_3⟩ := hkc4 BK633
        go_wp2
        repeat (go_quiet (fail); try go_wp2)
        go_ret3
        exact ⟨hkE, hkS HB⟩
       ·rw [if_neg c16] at H
        have c16b0 : decide (a0_2 < 4503599627370496) = false := decide_eq_false c16
        clear c16
        simp only [Option.some.injEq, Prod.mk.injEq] at H
        obtain ⟨rfl, rfl, rfl⟩ := H
        obtain ⟨hcz18_0, hfz18_0, hcz18_1, hfz18_1, hcz18_2, hfz18_2, hcz18_3, hfz18_3⟩ := hkc4 BK633
        go_wp2
        repeat (go_quiet (fail); try go_wp2)
        go_ret3
        exact ⟨hkE, hkS HB⟩
 ·replace c3 := Bool.eq_false_iff.mpr c3
  subst c3
  have H1 : (some (0, 0, false)) = some (r1, r2, r3) := by rw [if_neg (show ¬ (false = true) by decide)] at H; exact H
  clear H
  have H := H1
  clear H1
  simp only [Option.some.injEq, Prod.mk.injEq] at H
  obtain ⟨rfl, rfl, rfl⟩ := H
  go_enter Try.func84, Try.ntmps84
  go_wp2_with (first | ((with_reducible refine gate_dst (N := 1) rfl ?_); refine hkBox (N := 1) (cs := #[.int .i64 a0_0, .bool a0_1, .int .i64 a0_2, .int .i64 a0_3]) (t := 26) ?_; intro gb633 hg w19 hbox hb; have n_ := hkA (hkU HB hb) (hkA (Aside0.mk (hbox)) (hkA (hkG hg (hkS HB)) (hkG hg (hkS HB)))); clear HB; obtain ⟨HB, BK633, GW633, GE633⟩ := n_; clear hb hbox hg; obtain ⟨hcz20_0, hfz20_0, hcz20_1, hfz20_1, hcz20_2, hfz20_2, hcz20_3, hfz20_3⟩ := hkc4 BK633) | (go_at_call 38; (with_reducible refine (spec_FlOk.calls k a0_0 a0_1 a0_2 a0_3 false _ A2.out).mono ?_); rintro e w21 ⟨rfl, hb⟩; have n_ := hkA (hkBb BK633 hb) (hkU HB hb); clear BK633 HB; obtain ⟨BK633, HB⟩ := n_; (try clear hb)))
  repeat (go_quiet (first | ((with_reducible refine gate_dst (N := 1) rfl ?_); refine hkBox (N := 1) (cs := #[.int .i64 a0_0, .bool a0_1, .int .i64 a0_2, .int .i64 a0_3]) (t := 26) ?_; intro gb633 hg w19 hbox hb; have n_ := hkA (hkU HB hb) (hkA (Aside0.mk (hbox)) (hkA (hkG hg (hkS HB)) (hkG hg (hkS HB)))); clear HB; obtain ⟨HB, BK633, GW633, GE633⟩ := n_; clear hb hbox hg; obtain ⟨hcz20_0, hfz20_0, hcz20_1, hfz20_1, hcz20_2, hfz20_2, hcz20_3, hfz20_3⟩ := hkc4 BK633) | (go_at_call 38; (with_reducible refine (spec_FlOk.calls k a0_0 a0_1 a0_2 a0_3 false _ A2.out).mono ?_); rintro e w21 ⟨rfl, hb⟩; have n_ := hkA (hkBb BK633 hb) (hkU HB hb); clear BK633 HB; obtain ⟨BK633, HB⟩ := n_; (try clear hb))); try go_wp2_with (first | ((with_reducible refine gate_dst (N := 1) rfl ?_); refine hkBox (N := 1) (cs := #[.int .i64 a0_0, .bool a0_1, .int .i64 a0_2, .int .i64 a0_3]) (t := 26) ?_; intro gb633 hg w19 hbox hb; have n_ := hkA (hkU HB hb) (hkA (Aside0.mk (hbox)) (hkA (hkG hg (hkS HB)) (hkG hg (hkS HB)))); clear HB; obtain ⟨HB, BK633, GW633, GE633⟩ := n_; clear hb hbox hg; obtain ⟨hcz20_0, hfz20_0, hcz20_1, hfz20_1, hcz20_2, hfz20_2, hcz20_3, hfz20_3⟩ := hkc4 BK633) | (go_at_call 38; (with_reducible refine (spec_FlOk.calls k a0_0 a0_1 a0_2 a0_3 false _ A2.out).mono ?_); rintro e w21 ⟨rfl, hb⟩; have n_ := hkA (hkBb BK633 hb) (hkU HB hb); clear BK633 HB; obtain ⟨BK633, HB⟩ := n_; (try clear hb))))
  go_ret3
  exact ⟨hkE, hkS HB⟩

/-! ### spec_DrawFlUnpack: function 42 -/
def spec_DrawFlUnpack.f (k : Nat) (l0 : List Int) : Option (Int × Int) := (spec_l1New.f k l0).bind fun bt635 => ((spec_l5draw.f k bt635.1 bt635.2.1 bt635.2.2).bind fun bt639 => ((spec_FlPack.f k bt639.1 bt639.2.1 bt639.2.2.1 bt639.2.2.2.1).bind fun bt645 => ((spec_l1Once.f bt635.1 bt639.2.2.2.2.1 bt639.2.2.2.2.2 4).bind fun bt648 => (if bt648.1 = true then ((spec_l1Below.f bt635.1 bt648.2.1 bt648.2.2 1073741824).bind fun bt651 => ((spec_l1PickInt.f bt635.1 bt651.2.1 bt651.2.2 (([(-1), 4294967296, 4294967295, 2146435072, 2146435077, bt651.1] : List Int))).bind fun bt657 => ((spec_l1PickInt.f bt635.1 bt657.2.1 bt657.2.2 (([0, 1, (-1), 4294967296, 4294967295] : List Int))).bind fun bt663 => (some (bt657.1, bt663.1))))) else (some (bt645.1, bt645.2.1))))))
theorem spec_DrawFlUnpack.mono : ∀ a0 k, LeO (spec_DrawFlUnpack.f k a0) (spec_DrawFlUnpack.f (k + 1) a0) := by
 intro a0 k
 unfold spec_DrawFlUnpack.f
 repeat' first
   | (with_reducible exact spec_FlPack.mono _ _ _ _ _)
   | (with_reducible exact spec_l1New.mono _ _)
   | (with_reducible exact spec_l5draw.mono _ _ _ _)
   | (with_reducible exact LeO.refl _)
   | (with_reducible exact LeO.none _)
   | (with_reducible refine LeO.ite ?_ ?_)
   | (with_reducible refine LeO.bind ?_ (fun _ => ?_))
   | exact spec_FlPack.mono _ _ _ _ _
   | exact spec_l1New.mono _ _
   | exact spec_l5draw.mono _ _ _ _
   | exact LeO.none _
   | refine LeO.ite ?_ ?_
   | refine LeO.bind ?_ (fun _ => ?_)
set_option maxHeartbeats 8000000 in
set_option maxRecDepth 100000 in
theorem spec_DrawFlUnpack.calls (k : Nat) (A0 : Option Addr) (c0 : Nat) (l0 : List Int) (r1 : Int) (r2 : Int) (w : World) (hr0 : Kd.C (Kd.int .u8) w A0 l0.length l0) (hc0 : l0.length ≤ c0) (h : spec_DrawFlUnpack.f k l0 = some (r1, r2)) :
  Calls Try.prog 42 #[.slice A0 l0.length c0] w fun e w' => e = .returned (.tuple #[.int .i64 r1, .int .i64 r2]) ∧ Below w.heap.size w w' := by
 have HR0 := Aside0.mk hr0
 have HC0 := Aside0.mk hc0
 clear hr0 hc0
 have HB := Aside0.mk (Below.refl w.heap.size w)
 have H : ((spec_l1New.f k l0).bind fun bt635 => ((spec_l5draw.f k bt635.1 bt635.2.1 bt635.2.2).bind fun bt639 => ((spec_FlPack.f k bt639.1 bt639.2.1 bt639.2.2.1 bt639.2.2.2.1).bind fun bt645 => ((spec_l1Once.f bt635.1 bt639.2.2.2.2.1 bt639.2.2.2.2.2 4).bind fun bt648 => (if bt648.1 = true then ((spec_l1Below.f bt635.1 bt648.2.1 bt648.2.2 1073741824).bind fun bt651 => ((spec_l1PickInt.f bt635.1 bt651.2.1 bt651.2.2 (([(-1), 4294967296, 4294967295, 2146435072, 2146435077, bt651.1] : List Int))).bind fun bt657 => ((spec_l1PickInt.f bt635.1 bt657.2.1 bt657.2.2 (([0, 1, (-1), 4294967296, 4294967295] : List Int))).bind fun bt663 => (some (bt657.1, bt663.1))))) else (some (bt645.1, bt645.2.1))))))) = some (r1, r2) := h
 clear h
 replace H := hBi H
 obtain ⟨⟨t635, t636, t637⟩, A20, H⟩ := H
 replace H : ((spec_l5draw.f k t635 t636 t637).bind fun bt639 => ((spec_FlPack.f k bt639.1 bt639.2.1 bt639.2.2.1 bt639.2.2.2.1).bind fun bt645 => ((spec_l1Once.f t635 bt639.2.2.2.2.1 bt639.2.2.2.2.2 4).bind fun bt648 => (if bt648.1 = true then ((spec_l1Below.f t635 bt648.2.1 bt648.2.2 1073741824).bind fun bt651 => ((spec_l1PickInt.f t635 bt651.2.1 bt651.2.2 (([(-1), 4294967296, 4294967295, 2146435072, 2146435077, bt651.1] : List Int))).bind fun bt657 => ((spec_l1PickInt.f t635 bt657.2.1 bt657.2.2 (([0, 1, (-1), 4294967296, 4294967295] : List Int))).bind fun bt663 => (some (bt657.1, bt663.1))))) else (some (bt645.1, bt645.2.1)))))) = some (r1, r2) := H
 have A2 := Aside0.mk A20
 clear A20
 replace H := hBi H
 obtain ⟨⟨t639, t640, t641, t642, t643, t644⟩, A30, H⟩ := H
 replace H : ((spec_FlPack.f k t639 t640 t641 t642).bind fun bt645 => ((spec_l1Once.f t635 t643 t644 4).bind fun bt648 => (if bt648.1 = true then ((spec_l1Below.f t635 bt648.2.1 bt648.2.2 1073741824).bind fun bt651 => ((spec_l1PickInt.f t635 bt651.2.1 bt651.2.2 (([(-1), 4294967296, 4294967295, 2146435072, 2146435077, bt651.1] : List Int))).bind fun bt657 => ((spec_l1PickInt.f t635 bt657.2.1 bt657.2.2 (([0, 1, (-1), 4294967296, 4294967295] : List Int))).bind fun bt663 => (some (bt657.1, bt663.1))))) else (some (bt645.1, bt645.2.1))))) = some (r1, r2) := H
 have A3 := Aside0.mk A30
 clear A30
 replace H := hBi H
 obtain ⟨⟨t645, t646, t647⟩, A40, H⟩ := H
 replace H : ((spec_l1Once.f t635 t643 t644 4).bind fun bt648 => (if bt648.1 = true then ((spec_l1Below.f t635 bt648.2.1 bt648.2.2 1073741824).bind fun bt651 => ((spec_l1PickInt.f t635 bt651.2.1 bt651.2.2 (([(-1), 4294967296, 4294967295, 2146435072, 2146435077, bt651.1] : List Int))).bind fun bt657 => ((spec_l1PickInt.f t635 bt657.2.1 bt657.2.2 (([0, 1, (-1), 4294967296, 4294967295] : List Int))).bind fun bt663 => (some (bt657.1, bt663.1))))) else (some (t645, t646)))) = some (r1, r2) := H
 have A4 := Aside0.mk A40
 clear A40
 replace H := hBi H
 obtain ⟨⟨t648, t649, t650⟩, A50, H⟩ := H
 replace H : (if t648 = true then ((spec_l1Below.f t635 t649 t650 1073741824).bind fun bt651 => ((spec_l1PickInt.f t635 bt651.2.1 bt651.2.2 (([(-1), 4294967296, 4294967295, 2146435072, 2146435077, bt651.1] : List Int))).bind fun bt657 => ((spec_l1PickInt.f t635 bt657.2.1 bt657.2.2 (([0, 1, (-1), 4294967296, 4294967295] : List Int))).bind fun bt663 => (some (bt657.1, bt663.1))))) else (some (t645, t646))) = some (r1, r2) := H
 have A5 := Aside0.mk A50
 clear A50
 by_cases c6 : t648 = true
 ·subst c6
  have H1 : ((spec_l1Below.f t635 t649 t650 1073741824).bind fun bt651 => ((spec_l1PickInt.f t635 bt651.2.1 bt651.2.2 (([(-1), 4294967296, 4294967295, 2146435072, 2146435077, bt651.1] : List Int))).bind fun bt657 => ((spec_l1PickInt.f t635 bt657.2.1 bt657.2.2 (([0, 1, (-1), 4294967296, 4294967295] : List Int))).bind fun bt663 => (some (bt657.1, bt663.1))))) = some (r1, r2) := by rw [if_pos rfl] at H; exact H
  clear H
  have H := H1
  clear H1
  replace H := hBi H
  obtain ⟨⟨t651, t652, t653⟩, A70, H⟩ := H
  replace H : ((spec_l1PickInt.f t635 t652 t653 (([(-1), 4294967296, 4294967295, 2146435072, 2146435077, t651] : List Int))).bind fun bt657 => ((spec_l1PickInt.f t635 bt657.2.1 bt657.2.2 (([0, 1, (-1), 4294967296, 4294967295] : List Int))).bind fun bt663 => (some (bt657.1, bt663.1)))) = some (r1, r2) := H
  have A7 := Aside0.mk A70
  clear A70
  obtain ⟨y654, hy654⟩ : ∃ y_ : List Int, y_ = (([(-1), 4294967296, 4294967295, 2146435072, 2146435077, t651] : List Int)) := ⟨_, rfl⟩
  replace H : ((spec_l1PickInt.f t635 t652 t653 y654).bind fun bt657 => ((spec_l1PickInt.f t635 bt657.2.1 bt657.2.2 (([0, 1, (-1), 4294967296, 4294967295] : List Int))).bind fun bt663 => (some (bt657.1, bt663.1)))) = some (r1, r2) := by first | (rw [hy654]; with_reducible exact H) | (have H2_ := (Option.bind_some _ _).symm.trans H; rw [hy654]; with_reducible exact H2_) | (have H2_ := (Option.bind_some _ _).symm.trans H; with_reducible exact H2_) | with_reducible exact H | (rw [hy654]; exact H) | exact H
  have Ny654 := Aside0.mk hy654
  clear hy654
  replace H := hBi H
  obtain ⟨⟨t657, t658, t659⟩, A80, H⟩ := H
  replace H : ((spec_l1PickInt.f t635 t658 t659 (([0, 1, (-1), 4294967296, 4294967295] : List Int))).bind fun bt663 => (some (t657, bt663.1))) = some (r1, r2) := H
  have A8 := Aside0.mk A80
  clear A80
  obtain ⟨y660, hy660⟩ : ∃ y_ : List Int, y_ = (([0, 1, (-1), 4294967296, 4294967295] : List Int)) := ⟨_, rfl⟩
  replace H : ((spec_l1PickInt.f t635 t658 t659 y660).bind fun bt663 => (some (t657, bt663.1))) = some (r1, r2) := by first | (rw [hy660]; with_reducible exact H) | (have H2_ := (Option.bind_some _ _).symm.trans H; rw [hy660]; with_reducible exact H2_) | (have H2_ := (Option.bind_some _ _).symm.trans H; with_reducible exact H2_) | with_reducible exact H | (rw [hy660]; exact H) | exact H
  have Ny660 := Aside0.mk hy660
  clear hy660
  replace H := hBi H
  obtain ⟨⟨t663, t664, t665⟩, A90, H⟩ := H
  replace H : (some (t657, t663)) = some (r1, r2) := H
  have A9 := Aside0.mk A90
  clear A90
  simp only [Option.some.injEq, Prod.mk.injEq] at H
  obtain ⟨rfl, rfl⟩ := H
  go_enter Try.func42, Try.ntmps42
  go_wp2_with (first | ((with_reducible refine gate_callee (f := 54) rfl ?_); refine hkGo (N := some 9) Try.func54 #[.slice A0 l0.length c0] ?_; (with_reducible refine (spec_l1New.calls k _ _ l0 t635 t636 t637 w _ ?side1 ?side2 ?side3 A2.out).mono ?_); (case side1 => exact hkS HB); (case side2 => exact HR0.out); (case side3 => exact HC0.out); rintro e w10 ⟨g638, rfl, hi, hb, hb2⟩; refine ⟨_, rfl, ?_⟩; have n_ := hkA (Aside0.mk (hb)) (Aside0.mk (hi)); clear HB; obtain ⟨HB, HI638⟩ := n_; (try clear hb); (try clear hb2); (try clear hk); (try clear hi)) | ((with_reducible refine gate_callee (f := 85) rfl ?_); refine hkGo (N := some 12) Try.func85 #[.pointer (some ⟨g638, 0, none⟩)] ?_; (with_reducible refine (spec_l5draw.calls k g638 t635 t636 t637 t639 t640 t641 t642 t643 t644 w _ ?side1 ?side2 A3.out).mono ?_); (case side1 => exact hkI125); (case side2 => exact hkJ125); rintro e w11 ⟨rfl, hi, hb, hk⟩; refine ⟨_, rfl, ?_⟩; have n_ := hkA (Aside0.mk (hb)) (Aside0.mk (hi)); clear HB HI638; obtain ⟨HB, HI638⟩ := n_; (try clear hb); (try clear hb2); (try clear hk); (try clear hi)) | ((with_reducible refine gate_callee (f := 84) rfl ?_); refine hkGo (N := some 13) Try.func84 #[.agg #[.int .i64 t639, .bool t640, .int .i64 t641, .int .i64 t642]] ?_; (with_reducible refine (spec_FlPack.calls k t639 t640 t641 t642 t645 t646 t647 _ A4.out).mono ?_); rintro e w12 ⟨rfl, hb⟩; refine ⟨_, rfl, ?_⟩; have n_ := hkA (Aside0.mk (IsS125.below (hkI125) hb)) (Aside0.mk (below_step (hkJ125) hb)); clear HI638 HB; obtain ⟨HI638, HB⟩ := n_; (try clear hb); (try clear hb2); (try clear hk); (try clear hi)) | ((with_reducible refine gate_callee (f := 83) rfl ?_); refine hkGo (N := some 18) Try.func83 #[.pointer (some ⟨g638, 0, none⟩), .int .i64 4] ?_; (with_reducible refine (spec_l1Once.calls g638 t635 t643 t644 4 true t649 t650 w _ ?side1 ?side2 A5.out).mono ?_); (case side1 => exact hkI125); (case side2 => exact hkJ125); rintro e w13 ⟨rfl, hi, hb, hk⟩; refine ⟨_, rfl, ?_⟩; have n_ := hkA (Aside0.mk (hb)) (Aside0.mk (hi)); clear HB HI638; obtain ⟨HB, HI638⟩ := n_; (try clear hb); (try clear hb2); (try clear hk); (try clear hi)) | ((with_reducible refine gate_callee (f := 57) rfl ?_); refine hkGo (N := some 21) Try.func57 #[.pointer (some ⟨g638, 0, none⟩), .int .i64 1073741824] ?_; (with_reducible refine (spec_l1Below.calls g638 t635 t649 t650 1073741824 t651 t652 t653 w _ ?side1 ?side2 A7.out).mono ?_); (case side1 => exact hkI125); (case side2 => exact hkJ125); rintro e w14 ⟨rfl, hi, hb, hk⟩; refine ⟨_, rfl, ?_⟩; have n_ := hkA (Aside0.mk (hb)) (Aside0.mk (hi)); clear HB HI638; obtain ⟨HB, HI638⟩ := n_; (try clear hb); (try clear hb2); (try clear hk); (try clear hi)) | ((with_reducible refine gate_dst (N := 22) rfl ?_); refine Kd.R_lit (Kd.int .i64) _ 3 ?hg (N := 22) ?hd (xs := ([(-1), 4294967296, 4294967295, 2146435072, 2146435077, t651] : List Int)) (inner := [.int .i64 (-1), .int .i64 4294967296, .int .i64 4294967295, .int .i64 2146435072, .int .i64 2146435077, .int .i64 t651]) (ok := fun _ => True) (okp := fun _ => True) ?hr ?hp (fun _ hk => hk) trivial (Below.refl _ _) (Nat.le_refl _) (by simp) ?_; (case hd => rfl); (case hg => rfl); (case hr => first | (go_simp; done) | (go_simp; rfl)); (case hp => exact (Reps.one (show Kd.M (Kd.int .i64) _ _ _ (-1) [.int .i64 (-1)] from rfl) (Reps.one (show Kd.M (Kd.int .i64) _ _ _ 4294967296 [.int .i64 4294967296] from rfl) (Reps.one (show Kd.M (Kd.int .i64) _ _ _ 4294967295 [.int .i64 4294967295] from rfl) (Reps.one (show Kd.M (Kd.int .i64) _ _ _ 2146435072 [.int .i64 2146435072] from rfl) (Reps.one (show Kd.M (Kd.int .i64) _ _ _ 2146435077 [.int .i64 2146435077] from rfl) (Reps.one (show Kd.M (Kd.int .i64) _ _ _ t651 [.int .i64 t651] from rfl) (Reps.none _ _)))))))); intro v655 w15 ho16 hb hg_ hnew_; clear hg_ hnew_; (first | rw [← Ny654.out] at ho16 | (simp only [Int.reduceToNat] at ho16; rw [← Ny654.out] at ho16) | (simp only [Int.toNat_zero, List.replicate_zero] at ho16; rw [← Ny654.out] at ho16)); have n_ := hkA (Aside0.mk (Kd.R_lower ho16 (below_size (hkJ125)))) (hkA (Aside0.mk (IsS125.below (hkI125) hb)) (Aside0.mk (below_step (hkJ125) hb))); clear HI638 HB; obtain ⟨HO656, HI638, HB⟩ := n_; clear hb ho16; obtain ⟨Ao17, co17, eo17⟩ := Kd.R_slice HO656.out; subst eo17) | ((with_reducible refine gate_callee (f := 86) rfl ?_); refine hkGo (N := some 23) Try.func86 #[.pointer (some ⟨g638, 0, none⟩), .slice Ao17 y654.length co17] ?_; (with_reducible refine (spec_l1PickInt.calls g638 t635 t652 t653 _ _ y654 t657 t658 t659 w _ ?side1 ?side2 ?side3 ?side4 ?side5 A8.out).mono ?_); (case side1 => exact hkI125); (case side2 => exact hkJ125); (case side3 => exact hkC ((Kd.R_reads' HO656.out).2.2)); (case side4 => exact (Kd.R_reads' HO656.out).2.1); (case side5 => exact far_slice (IsS125.own_ne HI638.out HO656.out (by decide))); rintro e w18 ⟨rfl, hi, hb, hk⟩; refine ⟨_, rfl, ?_⟩; have n_ := hkA (Aside0.mk (Kd.R_mono (Kd.R_keep (IsS125.apart (show IsS125 w _ g638 t635 t652 t653 from hkI125) (hkR HO656) (by decide)) hk (fun _ h => h.2)) (fun _ h => h.1))) (hkA (Aside0.mk (hb)) (Aside0.mk (hi))); clear HO656 HB HI638; obtain ⟨HO656, HB, HI638⟩ := n_; (try clear hb); (try clear hb2); (try clear hk); (try clear hi)) | ((with_reducible refine gate_dst (N := 25) rfl ?_); refine Kd.R_lit (Kd.int .i64) _ 3 ?hg (N := 25) ?hd (xs := ([0, 1, (-1), 4294967296, 4294967295] : List Int)) (inner := [.int .i64 0, .int .i64 1, .int .i64 (-1), .int .i64 4294967296, .int .i64 4294967295]) (ok := fun _ => True) (okp := fun _ => True) ?hr ?hp (fun _ hk => hk) trivial (Below.refl _ _) (Nat.le_refl _) (by simp) ?_; (case hd => rfl); (case hg => rfl); (case hr => first | (go_simp; done) | (go_simp; rfl)); (case hp => exact (Reps.one (show Kd.M (Kd.int .i64) _ _ _ 0 [.int .i64 0] from rfl) (Reps.one (show Kd.M (Kd.int .i64) _ _ _ 1 [.int .i64 1] from rfl) (Reps.one (show Kd.M (Kd.int .i64) _ _ _ (-1) [.int .i64 (-1)] from rfl) (Reps.one (show Kd.M (Kd.int .i64) _ _ _ 4294967296 [.int .i64 4294967296] from rfl) (Reps.one (show Kd.M (Kd.int .i64) _ _ _ 4294967295 [.int .i64 4294967295] from rfl) (Reps.none _ _))))))); intro v661 w19 ho20 hb hg_ hnew_; clear hg_ hnew_; (first | rw [← Ny660.out] at ho20 | (simp only [Int.reduceToNat] at ho20; rw [← Ny660.out] at ho20) | (simp only [Int.toNat_zero, List.replicate_zero] at ho20; rw [← Ny660.out] at ho20)); have n_ := hkA (Aside0.mk (Kd.R_elder' (hkR HO656) (Kd.R_base ho20) hb)) (hkA (Aside0.mk (Kd.R_lower (Kd.R_new' ho20 (Kd.R_lt (hkR HO656))) (below_size (hkJ125)))) (hkA (Aside0.mk (IsS125.below (hkI125) hb)) (Aside0.mk (below_step (hkJ125) hb)))); clear HO656 HI638 HB; obtain ⟨HO656, HO662, HI638, HB⟩ := n_; clear hb ho20; obtain ⟨Ao21, co21, eo21⟩ := Kd.R_slice HO662.out; subst eo21) | ((with_reducible refine gate_callee (f := 86) rfl ?_); refine hkGo (N := some 26) Try.func86 #[.pointer (some ⟨g638, 0, none⟩), .slice Ao21 y660.length co21] ?_; (with_reducible refine (spec_l1PickInt.calls g638 t635 t658 t659 _ _ y660 t663 t664 t665 w _ ?side1 ?side2 ?side3 ?side4 ?side5 A9.out).mono ?_); (case side1 => exact hkI125); (case side2 => exact hkJ125); (case side3 => exact hkC ((Kd.R_reads' HO662.out).2.2)); (case side4 => exact (Kd.R_reads' HO662.out).2.1); (case side5 => exact far_slice (IsS125.own_ne HI638.out HO662.out (by decide))); rintro e w22 ⟨rfl, hi, hb, hk⟩; refine ⟨_, rfl, ?_⟩; have n_ := hkA (Aside0.mk (Kd.R_mono (Kd.R_keep (IsS125.apart (show IsS125 w _ g638 t635 t658 t659 from hkI125) (hkR HO656) (by decide)) hk (fun _ h => h.2)) (fun _ h => h.1))) (hkA (Aside0.mk (Kd.R_mono (Kd.R_keep (IsS125.apart (show IsS125 w _ g638 t635 t658 t659 from hkI125) (hkR HO662) (by decide)) hk (fun _ h => h.2)) (fun _ h => h.1))) (hkA (Aside0.mk (hb)) (Aside0.mk (hi)))); clear HO656 HO662 HB HI638; obtain ⟨HO656, HO662, HB, HI638⟩ := n_; (try clear hb); (try clear hb2); (try clear hk); (try clear hi)))
  go_ret2
  exact ⟨hkE, hkJ125⟩
 ·replace c6 := Bool.eq_false_iff.mpr c6
  subst c6
  have H1 : (some (t645, t646)) = some (r1, r2) := by rw [if_neg (show ¬ (false = true) by decide)] at H; exact H
  clear H
  have H := H1
  clear H1
  simp only [Option.some.injEq, Prod.mk.injEq] at H
  obtain ⟨rfl, rfl⟩ := H
  go_enter Try.func42, Try.ntmps42
  go_wp2_with (first | ((with_reducible refine gate_callee (f := 54) rfl ?_); refine hkGo (N := some 9) Try.func54 #[.slice A0 l0.length c0] ?_; (with_reducible refine (spec_l1New.calls k _ _ l0 t635 t636 t637 w _ ?side1 ?side2 ?side3 A2.out).mono ?_); (case side1 => exact hkS HB); (case side2 => exact HR0.out); (case side3 => exact HC0.out); rintro e w23 ⟨g638, rfl, hi, hb, hb2⟩; refine ⟨_, rfl, ?_⟩; have n_ := hkA (Aside0.mk (hb)) (Aside0.mk (hi)); clear HB; obtain ⟨HB, HI638⟩ := n_; (try clear hb); (try clear hb2); (try clear hk); (try clear hi)) | ((with_reducible refine gate_callee (f := 85) rfl ?_); refine hkGo (N := some 12) Try.func85 #[.pointer (some ⟨g638, 0, none⟩)] ?_; (with_reducible refine (spec_l5draw.calls k g638 t635 t636 t637 t639 t640 t641 t642 t643 t644 w _ ?side1 ?side2 A3.out).mono ?_); (case side1 => exact hkI125); (case side2 => exact hkJ125); rintro e w24 ⟨rfl, hi, hb, hk⟩; refine ⟨_, rfl, ?_⟩; have n_ := hkA (Aside0.mk (hb)) (Aside0.mk (hi)); clear HB HI638; obtain ⟨HB, HI638⟩ := n_; (try clear hb); (try clear hb2); (try clear hk); (try clear hi)) | ((with_reducible refine gate_callee (f := 84) rfl ?_); refine hkGo (N := some 13) Try.func84 #[.agg #[.int .i64 t639, .bool t640, .int .i64 t641, .int .i64 t642]] ?_; (with_reducible refine (spec_FlPack.calls k t639 t640 t641 t642 t645 t646 t647 _ A4.out).mono ?_); rintro e w25 ⟨rfl, hb⟩; refine ⟨_, rfl, ?_⟩; have n_ := hkA (Aside0.mk (IsS125.below (hkI125) hb)) (Aside0.mk (below_step (hkJ125) hb)); clear HI638 HB; obtain ⟨HI638, HB⟩ := n_; (try clear hb); (try clear hb2); (try clear hk); (try clear hi)) | ((with_reducible refine gate_callee (f := 83) rfl ?_); refine hkGo (N := some 18) Try.func83 #[.pointer (some ⟨g638, 0, none⟩), .int .i64 4] ?_; (with_reducible refine (spec_l1Once.calls g638 t635 t643 t644 4 false t649 t650 w _ ?side1 ?side2 A5.out).mono ?_); (case side1 => exact hkI125); (case side2 => exact hkJ125); rintro e w26 ⟨rfl, hi, hb, hk⟩; refine ⟨_, rfl, ?_⟩; have n_ := hkA (Aside0.mk (hb)) (Aside0.mk (hi)); clear HB HI638; obtain ⟨HB, HI638⟩ := n_; (try clear hb); (try clear hb2); (try clear hk); (try clear hi)))
  go_ret2
  exact ⟨hkE, hkJ125⟩

end Go.Proofs.Ytgjpahofopoflaa.PFnPacks
