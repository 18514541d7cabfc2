-- Written by our own driver (wip/hand/hprint.py) over the seat's translation.
import Derived.Test.YtgjpahofopoflaaDoorPFnFlOrderx0
import Derived.Test.YtgjpahofopoflaaDoorPFnFlOrderx10
import Derived.Test.YtgjpahofopoflaaDoorPFnFlOrderx33
namespace Go.Proofs.YtgjpahofopoflaaDoor.PFnFlOrder
open Go.RowKit Go.Proofs.YtgjpahofopoflaaDoorW.PrintWords Go.Proofs.YtgjpahofopoflaaDoorW.PrintLast Go.Proofs.YtgjpahofopoflaaDoorW.PrintMore
attribute [local go_sem] max2_int min2_int max_two min_two max_three min_three max_four min_four   -- for this text's walks alone
set_option linter.unusedVariables false
set_option linter.unusedSimpArgs false

/-! ### spec_WholeOk: function 52 -/
def spec_WholeOk.f (k : Nat) (a0_0 : Bool) (l0_1 : List Int) : Option (Bool) := (spec_NatOk.f k l0_1).bind fun t679 => (if t679 = true then (if a0_0 = true then (some (decide ((l0_1.length : Int) > 0))) else (some true)) else (some false))
theorem spec_WholeOk.mono : ∀ a0 a1 k, LeO (spec_WholeOk.f k a0 a1) (spec_WholeOk.f (k + 1) a0 a1) := by
 intro a0 a1 k
 unfold spec_WholeOk.f
 repeat' first
   | (with_reducible exact spec_NatOk.mono _ _)
   | (with_reducible exact LeO.refl _)
   | (with_reducible exact LeO.none _)
   | (with_reducible refine LeO.ite ?_ ?_)
   | (with_reducible refine LeO.bind ?_ (fun _ => ?_))
   | exact spec_NatOk.mono _ _
   | exact LeO.none _
   | refine LeO.ite ?_ ?_
   | refine LeO.bind ?_ (fun _ => ?_)
set_option maxHeartbeats 8000000 in
set_option maxRecDepth 100000 in
theorem spec_WholeOk.calls (k : Nat) (a0_0 : Bool) (A0_1 : Option Addr) (c0_1 : Nat) (l0_1 : List Int) (r : Bool) (w : World) (hr0_1 : Kd.C (Kd.int .i64) w A0_1 l0_1.length l0_1) (hc0_1 : l0_1.length ≤ c0_1) (h : spec_WholeOk.f k a0_0 l0_1 = some r) :
  Calls Tryd.prog 52 #[.agg #[.bool a0_0, .slice A0_1 l0_1.length c0_1]] w fun e w' => e = .returned (.bool r) ∧ Below w.heap.size w w' := by
 have hu28 := Tryd.underlying28
 have hu26 := Tryd.underlying26
 have HR0_1 := Aside0.mk hr0_1
 have HC0_1 := Aside0.mk hc0_1
 clear hr0_1 hc0_1
 have HB := Aside0.mk (Below.refl w.heap.size w)
 have H : ((spec_NatOk.f k l0_1).bind fun t679 => (if t679 = true then (if a0_0 = true then (some (decide ((l0_1.length : Int) > 0))) else (some true)) else (some false))) = some r := h
 clear h
 replace H := hBi H
 obtain ⟨t679, A20, H⟩ := H
 replace H : (if t679 = true then (if a0_0 = true then (some (decide ((l0_1.length : Int) > 0))) else (some true)) else (some false)) = some r := H
 have A2 := Aside0.mk A20
 clear A20
 by_cases c3 : t679 = true
 ·subst c3
  have H1 : (if a0_0 = true then (some (decide ((l0_1.length : Int) > 0))) else (some true)) = some r := by rw [if_pos rfl] at H; exact H
  clear H
  have H := H1
  clear H1
  by_cases c4 : a0_0 = true
  ·subst c4
   have H1 : (some (decide ((l0_1.length : Int) > 0))) = some r := by rw [if_pos rfl] at H; exact H
   clear H
   have H := H1
   clear H1
   obtain rfl := Option.some.inj H
   go_enter Tryd.func52, Tryd.ntmps52
   go_wp2_with (first | ((with_reducible refine gate_dst (N := 1) rfl ?_); (try (refine gate_guard (by rfl) ?_; dsimp only)); refine hkBox (N := 1) (cs := #[.bool true, .slice A0_1 l0_1.length c0_1]) (t := 28) ?_; intro gb678 hg w5 hbox hb; have n_ := hkA (hkU HB hb) (hkA (Aside0.mk (hbox)) (hkA (hkG hg (hkS HB)) (hkG hg (hkS HB)))); clear HB; obtain ⟨HB, BK678, GW678, GE678⟩ := n_; clear hb hbox hg; obtain ⟨hcz6_0, hfz6_0, hcz6_1, hfz6_1⟩ := hkc2 BK678) | ((with_reducible refine gate_callee (f := 77) rfl ?_); refine hkGo (N := some 5) Tryd.func77 #[.agg #[.slice A0_1 l0_1.length c0_1]] ?_; (with_reducible refine (spec_NatOk.calls k _ _ l0_1 true _ ?side1 ?side2 A2.out).mono ?_); (case side1 => exact hkC ((Kd.C_below HR0_1.out HB.out))); (case side2 => exact HC0_1.out); rintro e w7 ⟨rfl, hb⟩; refine ⟨_, rfl, ?_⟩; have n_ := hkA (hkBb BK678 hb) (hkU HB hb); clear BK678 HB; obtain ⟨BK678, HB⟩ := n_; (try clear hb); obtain ⟨hcz8_0, hfz8_0, hcz8_1, hfz8_1⟩ := hkc2 BK678))
   go_ret
   exact ⟨hkE, hkS HB⟩
  ·replace c4 := Bool.eq_false_iff.mpr c4
   subst c4
   have H1 : (some true) = some r := by rw [if_neg (show ¬ (false = true) by decide)] at H; exact H
   clear H
   have H := H1
   clear H1
   obtain rfl := Option.some.inj H
   go_enter Tryd.func52, Tryd.ntmps52
   go_wp2_with (first | ((with_reducible refine gate_dst (N := 1) rfl ?_); (try (refine gate_guard (by rfl) ?_; dsimp only)); refine hkBox (N := 1) (cs := #[.bool false, .slice A0_1 l0_1.length c0_1]) (t := 28) ?_; intro gb678 hg w9 hbox hb; have n_ := hkA (hkU HB hb) (hkA (Aside0.mk (hbox)) (hkA (hkG hg (hkS HB)) (hkG hg (hkS HB)))); clear HB; obtain ⟨HB, BK678, GW678, GE678⟩ := n_; clear hb hbox hg; obtain ⟨hcz10_0, hfz10_0, hcz10_1, hfz10_1⟩ := hkc2 BK678) | ((with_reducible refine gate_callee (f := 77) rfl ?_); refine hkGo (N := some 5) Tryd.func77 #[.agg #[.slice A0_1 l0_1.length c0_1]] ?_; (with_reducible refine (spec_NatOk.calls k _ _ l0_1 true _ ?side1 ?side2 A2.out).mono ?_); (case side1 => exact hkC ((Kd.C_below HR0_1.out HB.out))); (case side2 => exact HC0_1.out); rintro e w11 ⟨rfl, hb⟩; refine ⟨_, rfl, ?_⟩; have n_ := hkA (hkBb BK678 hb) (hkU HB hb); clear BK678 HB; obtain ⟨BK678, HB⟩ := n_; (try clear hb); obtain ⟨hcz12_0, hfz12_0, hcz12_1, hfz12_1⟩ := hkc2 BK678))
   go_ret
   exact ⟨hkE, hkS HB⟩
 ·replace c3 := Bool.eq_false_iff.mpr c3
  subst c3
  have H1 : (some false) = some r := by rw [if_neg (show ¬ (false = true) by decide)] at H; exact H
  clear H
  have H := H1
  clear H1
  obtain rfl := Option.some.inj H
  go_enter Tryd.func52, Tryd.ntmps52
  go_wp2_with (first | ((with_reducible refine gate_dst (N := 1) rfl ?_); (try (refine gate_guard (by rfl) ?_; dsimp only)); refine hkBox (N := 1) (cs := #[.bool a0_0, .slice A0_1 l0_1.length c0_1]) (t := 28) ?_; intro gb678 hg w13 hbox hb; have n_ := hkA (hkU HB hb) (hkA (Aside0.mk (hbox)) (hkA (hkG hg (hkS HB)) (hkG hg (hkS HB)))); clear HB; obtain ⟨HB, BK678, GW678, GE678⟩ := n_; clear hb hbox hg; obtain ⟨hcz14_0, hfz14_0, hcz14_1, hfz14_1⟩ := hkc2 BK678) | ((with_reducible refine gate_callee (f := 77) rfl ?_); refine hkGo (N := some 5) Tryd.func77 #[.agg #[.slice A0_1 l0_1.length c0_1]] ?_; (with_reducible refine (spec_NatOk.calls k _ _ l0_1 false _ ?side1 ?side2 A2.out).mono ?_); (case side1 => exact hkC ((Kd.C_below HR0_1.out HB.out))); (case side2 => exact HC0_1.out); rintro e w15 ⟨rfl, hb⟩; refine ⟨_, rfl, ?_⟩; have n_ := hkA (hkBb BK678 hb) (hkU HB hb); clear BK678 HB; obtain ⟨BK678, HB⟩ := n_; (try clear hb)))
  go_ret
  exact ⟨hkE, hkS HB⟩

/-! ### spec_DyOk: function 43 -/
def spec_DyOk.j0 : Nat → Bool → Bool → List Int → Int → Option (Bool)
 | 0, _, _, _, _ => none
 | k + 1, x16, x681000, x681001, x681002 => if x16 = true then (some false) else (if (x681001.length : Int) = 0 then (some (x681002 == 0)) else ((spec_l2bit.f x681001 0).bind fun t682 => (some (t682 == 1))))
def spec_DyOk.f (k : Nat) (a0_0 : Bool) (l0_1 : List Int) (a0_2 : Int) : Option (Bool) := (spec_WholeOk.f k a0_0 l0_1).bind fun t681 => (if t681 = true then (if a0_2 < (-3000) then (spec_DyOk.j0 k true a0_0 l0_1 a0_2) else (spec_DyOk.j0 k (decide (a0_2 > 3000)) a0_0 l0_1 a0_2)) else (spec_DyOk.j0 k true a0_0 l0_1 a0_2))
theorem spec_DyOk.mono_l : ∀ k, (∀ y0 y1 y2 y3, LeO (spec_DyOk.j0 k y0 y1 y2 y3) (spec_DyOk.j0 (k + 1) y0 y1 y2 y3))
 | 0 => fun _ _ _ _ r h => by simp [spec_DyOk.j0] at h
 | k + 1 => by
  have ih0 := spec_DyOk.mono_l k
  ·intro y0 y1 y2 y3
   unfold spec_DyOk.j0
   repeat' first
   | (with_reducible exact ih0 _ _ _ _)
   | (with_reducible exact spec_WholeOk.mono _ _ _)
   | (with_reducible exact LeO.refl _)
   | (with_reducible exact LeO.none _)
   | (with_reducible refine LeO.ite ?_ ?_)
   | (with_reducible refine LeO.bind ?_ (fun _ => ?_))
   | exact ih0 _ _ _ _
   | exact spec_WholeOk.mono _ _ _
   | exact LeO.none _
   | refine LeO.ite ?_ ?_
   | refine LeO.bind ?_ (fun _ => ?_)
theorem spec_DyOk.mono : ∀ a0 a1 a2 k, LeO (spec_DyOk.f k a0 a1 a2) (spec_DyOk.f (k + 1) a0 a1 a2) := by
 intro a0 a1 a2 k
 have ih0 := spec_DyOk.mono_l k
 unfold spec_DyOk.f
 repeat' first
   | (with_reducible exact ih0 _ _ _ _)
   | (with_reducible exact spec_WholeOk.mono _ _ _)
   | (with_reducible exact LeO.refl _)
   | (with_reducible exact LeO.none _)
   | (with_reducible refine LeO.ite ?_ ?_)
   | (with_reducible refine LeO.bind ?_ (fun _ => ?_))
   | exact ih0 _ _ _ _
   | exact spec_WholeOk.mono _ _ _
   | exact LeO.none _
   | refine LeO.ite ?_ ?_
   | refine LeO.bind ?_ (fun _ => ?_)
set_option maxHeartbeats 8000000 in
set_option maxRecDepth 100000 in
theorem spec_DyOk.calls (k : Nat) (a0_0 : Bool) (A0_1 : Option Addr) (c0_1 : Nat) (l0_1 : List Int) (a0_2 : Int) (r : Bool) (w : World) (hr0_1 : Kd.C (Kd.int .i64) w A0_1 l0_1.length l0_1) (hc0_1 : l0_1.length ≤ c0_1) (h : spec_DyOk.f k a0_0 l0_1 a0_2 = some r) :
  Calls Tryd.prog 43 #[.agg #[.bool a0_0, .slice A0_1 l0_1.length c0_1, .int .i64 a0_2]] w fun e w' => e = .returned (.bool r) ∧ Below w.heap.size w w' := by
 have hu30 := Tryd.underlying30
 have hu28 := Tryd.underlying28
 have hu26 := Tryd.underlying26
 have HR0_1 := Aside0.mk hr0_1
 have HC0_1 := Aside0.mk hc0_1
 clear hr0_1 hc0_1
 have HB := Aside0.mk (Below.refl w.heap.size w)
 have H : ((spec_WholeOk.f k a0_0 l0_1).bind fun t681 => (if t681 = true then (if a0_2 < (-3000) then (spec_DyOk.j0 k true a0_0 l0_1 a0_2) else (spec_DyOk.j0 k (decide (a0_2 > 3000)) a0_0 l0_1 a0_2)) else (spec_DyOk.j0 k true a0_0 l0_1 a0_2))) = some r := h
 clear h
 have HC2 := Aside0.mk H
 clear H
 go_enter Tryd.func43, Tryd.ntmps43
 go_upto_region 1 with (first | ((with_reducible refine gate_dst (N := 1) rfl ?_); refine hkBox (N := 1) (cs := #[.bool a0_0, .slice A0_1 l0_1.length c0_1, .int .i64 a0_2]) (t := 30) ?_; intro gb680 hg w3 hbox hb; have n_ := hkA (hkU HB hb) (hkA (Aside0.mk (hbox)) (hkA (hkG hg (hkS HB)) (hkG hg (hkS HB)))); clear HB; obtain ⟨HB, BK680, GW680, GE680⟩ := n_; clear hb hbox hg))
 (try simp only [Act.put, List.setIfInBounds_toArray, List.set_cons_zero, List.set_cons_succ])
 go_cut [16] (fun v16 wc => ∃ (kq : Nat) (x16_1 : Bool), v16 = .bool x16_1 ∧ Aside0 (spec_DyOk.j0 kq x16_1 a0_0 l0_1 a0_2 = some r) ∧ Aside0 (kq ≤ k) ∧ Aside0 (wc.heap[gb680]? = some (.cells #[.bool a0_0, (.slice A0_1 l0_1.length c0_1), .int .i64 a0_2] 30 (0, 0))) ∧ Aside0 (Below w.heap.size w wc))
 case first =>
  have H := HC2.out
  clear HC2
  replace H := hBi H
  obtain ⟨t681, A40, H⟩ := H
  replace H : (if t681 = true then (if a0_2 < (-3000) then (spec_DyOk.j0 k true a0_0 l0_1 a0_2) else (spec_DyOk.j0 k (decide (a0_2 > 3000)) a0_0 l0_1 a0_2)) else (spec_DyOk.j0 k true a0_0 l0_1 a0_2)) = some r := H
  have A4 := Aside0.mk A40
  clear A40
  by_cases c5 : t681 = true
  ·subst c5
   have H1 : (if a0_2 < (-3000) then (spec_DyOk.j0 k true a0_0 l0_1 a0_2) else (spec_DyOk.j0 k (decide (a0_2 > 3000)) a0_0 l0_1 a0_2)) = some r := by rw [if_pos rfl] at H; exact H
   clear H
   have H := H1
   clear H1
   by_cases c6 : a0_2 < (-3000)
   ·rw [if_pos c6] at H
    have c6b0 : decide (a0_2 < (-3000)) = true := decide_eq_true c6
    clear c6
    (first | rw [c6b0] | (simp only [i64_w, i32_w]; rw [c6b0]) | skip)
    have H' := Aside0.mk H
    clear H
    obtain ⟨hcz7_0, hfz7_0, hcz7_1, hfz7_1, hcz7_2, hfz7_2⟩ := hkc3 BK680
    go_wp2_with (first | ((with_reducible refine gate_callee (f := 52) rfl ?_); refine hkGo (N := some 5) Tryd.func52 #[.agg #[.bool a0_0, .slice A0_1 l0_1.length c0_1]] ?_; (with_reducible refine (spec_WholeOk.calls k a0_0 _ _ l0_1 true _ ?side1 ?side2 A4.out).mono ?_); (case side1 => exact hkC ((Kd.C_below HR0_1.out HB.out))); (case side2 => exact HC0_1.out); rintro e w8 ⟨rfl, hb⟩; refine ⟨_, rfl, ?_⟩; have n_ := hkA (hkBb BK680 hb) (hkU HB hb); clear BK680 HB; obtain ⟨BK680, HB⟩ := n_; (try clear hb); obtain ⟨hcz9_0, hfz9_0, hcz9_1, hfz9_1, hcz9_2, hfz9_2⟩ := hkc3 BK680))
    go_meet
    case rel => exact ⟨_, (true), (by first | rfl | (simp; done) | (simp [*]; done)), H', ⟨by first | omega | exact Nat.le_refl _⟩, ⟨by refine hkz ?_; exact BK680.out⟩, ⟨hkS HB⟩⟩
   ·rw [if_neg c6] at H
    have c6b0 : decide (a0_2 < (-3000)) = false := decide_eq_false c6
    clear c6
    (first | rw [c6b0] | (simp only [i64_w, i32_w]; rw [c6b0]) | skip)
    have H' := Aside0.mk H
    clear H
    obtain ⟨hcz10_0, hfz10_0, hcz10_1, hfz10_1, hcz10_2, hfz10_2⟩ := hkc3 BK680
    go_wp2_with (first | ((with_reducible refine gate_callee (f := 52) rfl ?_); refine hkGo (N := some 5) Tryd.func52 #[.agg #[.bool a0_0, .slice A0_1 l0_1.length c0_1]] ?_; (with_reducible refine (spec_WholeOk.calls k a0_0 _ _ l0_1 true _ ?side1 ?side2 A4.out).mono ?_); (case side1 => exact hkC ((Kd.C_below HR0_1.out HB.out))); (case side2 => exact HC0_1.out); rintro e w11 ⟨rfl, hb⟩; refine ⟨_, rfl, ?_⟩; have n_ := hkA (hkBb BK680 hb) (hkU HB hb); clear BK680 HB; obtain ⟨BK680, HB⟩ := n_; (try clear hb); obtain ⟨hcz12_0, hfz12_0, hcz12_1, hfz12_1, hcz12_2, hfz12_2⟩ := hkc3 BK680))
    go_meet
    case rel => exact ⟨_, (decide (a0_2 > 3000)), (by first | rfl | (simp; done) | (simp [*]; done)), H', ⟨by first | omega | exact Nat.le_refl _⟩, ⟨by refine hkz ?_; exact BK680.out⟩, ⟨hkS HB⟩⟩
  ·replace c5 := Bool.eq_false_iff.mpr c5
   subst c5
   have H1 : (spec_DyOk.j0 k true a0_0 l0_1 a0_2) = some r := by rw [if_neg (show ¬ (false = true) by decide)] at H; exact H
   clear H
   have H := H1
   clear H1
   have H' := Aside0.mk H
   clear H
   obtain ⟨hcz13_0, hfz13_0, hcz13_1, hfz13_1, hcz13_2, hfz13_2⟩ := hkc3 BK680
   go_wp2_with (first | ((with_reducible refine gate_callee (f := 52) rfl ?_); refine hkGo (N := some 5) Tryd.func52 #[.agg #[.bool a0_0, .slice A0_1 l0_1.length c0_1]] ?_; (with_reducible refine (spec_WholeOk.calls k a0_0 _ _ l0_1 false _ ?side1 ?side2 A4.out).mono ?_); (case side1 => exact hkC ((Kd.C_below HR0_1.out HB.out))); (case side2 => exact HC0_1.out); rintro e w14 ⟨rfl, hb⟩; refine ⟨_, rfl, ?_⟩; have n_ := hkA (hkBb BK680 hb) (hkU HB hb); clear BK680 HB; obtain ⟨BK680, HB⟩ := n_; (try clear hb)))
   go_meet
   case rel => exact ⟨_, (true), (by first | rfl | (simp; done) | (simp [*]; done)), H', ⟨by first | omega | exact Nat.le_refl _⟩, ⟨by refine hkz ?_; exact BK680.out⟩, ⟨hkS HB⟩⟩
 case rest =>
  clear HC2
  try clear p2
  try clear c4
  try clear c5
  try clear c6
  try clear c6b0
  try clear hcz10_0 hcz10_1 hcz10_2 hcz12_0 hcz12_1 hcz12_2 hcz13_0 hcz13_1 hcz13_2 hcz7_0 hcz7_1 hcz7_2 hcz9_0 hcz9_1 hcz9_2 hfz10_0 hfz10_1 hfz10_2 hfz12_0 hfz12_1 hfz12_2 hfz13_0 hfz13_1 hfz13_2 hfz7_0 hfz7_1 hfz7_2 hfz9_0 hfz9_1 hfz9_2
  obtain ⟨kq, x16_1, rfl, HA, HJ1, BK680, HB⟩ := hcut
  cases kq with
  | zero => exact absurd HA.out (by simp [spec_DyOk.j0])
  | succ kj1 =>
   have H := HA.out
   clear HA
   simp only [spec_DyOk.j0] at H
   by_cases c15 : x16_1 = true
   ·subst c15
    have H1 : (some false) = some r := by rw [if_pos rfl] at H; exact H
    clear H
    have H := H1
    clear H1
    obtain rfl := Option.some.inj H
    go_wp2
    go_ret
    exact ⟨hkE, hkS HB⟩
   ·replace c15 := Bool.eq_false_iff.mpr c15
    subst c15
    have H1 : (if (l0_1.length : Int) = 0 then (some (a0_2 == 0)) else ((spec_l2bit.f l0_1 0).bind fun t682 => (some (t682 == 1)))) = some r := by rw [if_neg (show ¬ (false = true) by decide)] at H; exact H
    clear H
    have H := H1
    clear H1
    by_cases c16 : (l0_1.length : Int) = 0
    ·rw [if_pos c16] at H
     have c16b0 : ((l0_1.length : Int) == 0) = true := beq_iff_eq.mpr c16
     have c16b1 : ((l0_1.length : Int) != 0) = false := bne_eq_false_iff_eq.mpr c16
     clear c16
     obtain rfl := Option.some.inj H
     obtain ⟨hcz17_0, hfz17_0, hcz17_1, hfz17_1, hcz17_2, hfz17_2⟩ := hkc3 BK680
     go_wp2
     go_ret
     exact ⟨hkE, hkS HB⟩
    ·rw [if_neg c16] at H
     have c16b0 : ((l0_1.length : Int) == 0) = false := beq_eq_false_iff_ne.mpr c16
     have c16b1 : ((l0_1.length : Int) != 0) = true := bne_iff_ne.mpr c16
     have c16b2 : ¬ (l0_1 = []) := fun h_ => c16 (by rw [h_]; rfl)
     replace H := hBi H
     obtain ⟨t682, A180, H⟩ := H
     replace H : (some (t682 == 1)) = some r := H
     have A18 := Aside0.mk A180
     clear A180
     obtain rfl := Option.some.inj H
     obtain ⟨hcz19_0, hfz19_0, hcz19_1, hfz19_1, hcz19_2, hfz19_2⟩ := hkc3 BK680
     go_wp2_with (first | ((with_reducible refine gate_callee (f := 73) rfl ?_); refine hkGo (N := some 29) Tryd.func73 #[.agg #[.slice A0_1 l0_1.length c0_1], .int .i64 0] ?_; (with_reducible refine (spec_l2bit.calls _ _ l0_1 0 t682 _ ?side1 ?side2 A18.out).mono ?_); (case side1 => exact hkC ((Kd.C_below HR0_1.out HB.out))); (case side2 => exact HC0_1.out); rintro e w20 ⟨rfl, hb⟩; refine ⟨_, rfl, ?_⟩; have n_ := hkA (hkBb BK680 hb) (hkU HB hb); clear BK680 HB; obtain ⟨BK680, HB⟩ := n_; (try clear hb)))
     go_ret
     exact ⟨hkE, hkS HB⟩

end Go.Proofs.YtgjpahofopoflaaDoor.PFnFlOrder
