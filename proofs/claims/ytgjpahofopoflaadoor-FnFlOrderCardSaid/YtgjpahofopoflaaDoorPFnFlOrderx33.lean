-- Written by our own driver (wip/hand/hprint.py) over the seat's translation.
import Derived.Test.YtgjpahofopoflaaDoorPFnFlOrderx0
import Derived.Test.YtgjpahofopoflaaDoorPFnFlOrderx1
import Derived.Test.YtgjpahofopoflaaDoorPFnFlOrderx27
import Derived.Test.YtgjpahofopoflaaDoorPFnFlOrderx32
namespace Go.Proofs.YtgjpahofopoflaaDoor.PFnFlOrder
open Go.RowKit Go.Proofs.YtgjpahofopoflaaDoorW.PrintWords Go.Proofs.YtgjpahofopoflaaDoorW.PrintLast Go.Proofs.YtgjpahofopoflaaDoorW.PrintMore
attribute [local go_sem] max2_int min2_int max_two min_two max_three min_three max_four min_four   -- for this text's walks alone
set_option linter.unusedVariables false
set_option linter.unusedSimpArgs false

/-! ### impl_FlCmp: function 34 -/
def impl_FlCmp.f (k : Nat) (a0_0 : Int) (a0_1 : Bool) (a0_2 : Int) (a0_3 : Int) (a1_0 : Int) (a1_1 : Bool) (a1_2 : Int) (a1_3 : Int) : Option (Int × Bool) := (impl_FlOk.f a0_0 a0_1 a0_2 a0_3).bind fun t670 => (if t670 = true then ((impl_FlOk.f a1_0 a1_1 a1_2 a1_3).bind fun t671 => (if t671 = true then ((impl_hasKind.f 3 a0_0 a0_1 a0_2 a0_3 a1_0 a1_1 a1_2 a1_3).bind fun t672 => (if t672 = true then (some (0, false)) else ((impl_compareFloats.f k a0_0 a0_1 a0_2 a0_3 a1_0 a1_1 a1_2 a1_3).bind fun t673 => (some (t673, true))))) else (some (0, false)))) else (some (0, false)))
theorem impl_FlCmp.mono : ∀ a0 a1 a2 a3 a4 a5 a6 a7 k, LeO (impl_FlCmp.f k a0 a1 a2 a3 a4 a5 a6 a7) (impl_FlCmp.f (k + 1) a0 a1 a2 a3 a4 a5 a6 a7) := by
 intro a0 a1 a2 a3 a4 a5 a6 a7 k
 unfold impl_FlCmp.f
 repeat' first
   | (with_reducible exact impl_compareFloats.mono _ _ _ _ _ _ _ _ _)
   | (with_reducible exact LeO.refl _)
   | (with_reducible exact LeO.none _)
   | (with_reducible refine LeO.ite ?_ ?_)
   | (with_reducible refine LeO.bind ?_ (fun _ => ?_))
   | exact impl_compareFloats.mono _ _ _ _ _ _ _ _ _
   | exact LeO.none _
   | refine LeO.ite ?_ ?_
   | refine LeO.bind ?_ (fun _ => ?_)
set_option maxHeartbeats 8000000 in
set_option maxRecDepth 100000 in
theorem impl_FlCmp.calls (k : Nat) (a0_0 : Int) (a0_1 : Bool) (a0_2 : Int) (a0_3 : Int) (a1_0 : Int) (a1_1 : Bool) (a1_2 : Int) (a1_3 : Int) (r1 : Int) (r2 : Bool) (w : World) (h : impl_FlCmp.f k a0_0 a0_1 a0_2 a0_3 a1_0 a1_1 a1_2 a1_3 = some (r1, r2)) :
  Calls Tryd.prog 34 #[.agg #[.int .i64 a0_0, .bool a0_1, .int .i64 a0_2, .int .i64 a0_3], .agg #[.int .i64 a1_0, .bool a1_1, .int .i64 a1_2, .int .i64 a1_3]] w fun e w' => e = .returned (.tuple #[.int .i64 r1, .bool r2]) ∧ Below w.heap.size w w' := by
 have hu33 := Tryd.underlying33
 have HB := Aside0.mk (Below.refl w.heap.size w)
 have H : ((impl_FlOk.f a0_0 a0_1 a0_2 a0_3).bind fun t670 => (if t670 = true then ((impl_FlOk.f a1_0 a1_1 a1_2 a1_3).bind fun t671 => (if t671 = true then ((impl_hasKind.f 3 a0_0 a0_1 a0_2 a0_3 a1_0 a1_1 a1_2 a1_3).bind fun t672 => (if t672 = true then (some (0, false)) else ((impl_compareFloats.f k a0_0 a0_1 a0_2 a0_3 a1_0 a1_1 a1_2 a1_3).bind fun t673 => (some (t673, true))))) else (some (0, false)))) else (some (0, false)))) = some (r1, r2) := h
 clear h
 replace H := hBi H
 obtain ⟨t670, A30, H⟩ := H
 replace H : (if t670 = true then ((impl_FlOk.f a1_0 a1_1 a1_2 a1_3).bind fun t671 => (if t671 = true then ((impl_hasKind.f 3 a0_0 a0_1 a0_2 a0_3 a1_0 a1_1 a1_2 a1_3).bind fun t672 => (if t672 = true then (some (0, false)) else ((impl_compareFloats.f k a0_0 a0_1 a0_2 a0_3 a1_0 a1_1 a1_2 a1_3).bind fun t673 => (some (t673, true))))) else (some (0, false)))) else (some (0, false))) = some (r1, r2) := H
 have A3 := Aside0.mk A30
 clear A30
 by_cases c4 : t670 = true
 ·subst c4
  have H1 : ((impl_FlOk.f a1_0 a1_1 a1_2 a1_3).bind fun t671 => (if t671 = true then ((impl_hasKind.f 3 a0_0 a0_1 a0_2 a0_3 a1_0 a1_1 a1_2 a1_3).bind fun t672 => (if t672 = true then (some (0, false)) else ((impl_compareFloats.f k a0_0 a0_1 a0_2 a0_3 a1_0 a1_1 a1_2 a1_3).bind fun t673 => (some (t673, true))))) else (some (0, false)))) = some (r1, r2) := by rw [if_pos rfl] at H; exact H
  clear H
  have H := H1
  clear H1
  replace H := hBi H
  obtain ⟨t671, A50, H⟩ := H
  replace H : (if t671 = true then ((impl_hasKind.f 3 a0_0 a0_1 a0_2 a0_3 a1_0 a1_1 a1_2 a1_3).bind fun t672 => (if t672 = true then (some (0, false)) else ((impl_compareFloats.f k a0_0 a0_1 a0_2 a0_3 a1_0 a1_1 a1_2 a1_3).bind fun t673 => (some (t673, true))))) else (some (0, false))) = some (r1, r2) := H
  have A5 := Aside0.mk A50
  clear A50
  by_cases c6 : t671 = true
  ·subst c6
   have H1 : ((impl_hasKind.f 3 a0_0 a0_1 a0_2 a0_3 a1_0 a1_1 a1_2 a1_3).bind fun t672 => (if t672 = true then (some (0, false)) else ((impl_compareFloats.f k a0_0 a0_1 a0_2 a0_3 a1_0 a1_1 a1_2 a1_3).bind fun t673 => (some (t673, true))))) = some (r1, r2) := by rw [if_pos rfl] at H; exact H
   clear H
   have H := H1
   clear H1
   replace H := hBi H
   obtain ⟨t672, A70, H⟩ := H
   replace H : (if t672 = true then (some (0, false)) else ((impl_compareFloats.f k a0_0 a0_1 a0_2 a0_3 a1_0 a1_1 a1_2 a1_3).bind fun t673 => (some (t673, true)))) = some (r1, r2) := H
   have A7 := Aside0.mk A70
   clear A70
   by_cases c8 : t672 = true
   ·subst c8
    have H1 : (some (0, false)) = some (r1, r2) := by rw [if_pos rfl] at H; exact H
    clear H
    have H := H1
    clear H1
    simp only [Option.some.injEq, Prod.mk.injEq] at H
    obtain ⟨rfl, rfl⟩ := H
    go_enter Tryd.func34, Tryd.ntmps34
    go_wp2_with (first | ((with_reducible refine gate_dst (N := 2) rfl ?_); refine hkBox (N := 2) (cs := #[.int .i64 a0_0, .bool a0_1, .int .i64 a0_2, .int .i64 a0_3]) (t := 33) ?_; intro gb668 hg w9 hbox hb; have n_ := hkA (hkU HB hb) (hkA (Aside0.mk (hbox)) (hkA (hkG hg (hkS HB)) (hkG hg (hkS HB)))); clear HB; obtain ⟨HB, BK668, GW668, GE668⟩ := n_; clear hb hbox hg) | ((with_reducible refine gate_dst (N := 3) rfl ?_); refine hkBox (N := 3) (cs := #[.int .i64 a1_0, .bool a1_1, .int .i64 a1_2, .int .i64 a1_3]) (t := 33) ?_; intro gb669 hg w10 hbox hb; have n_ := hkA (hkBb BK668 hb) (hkA (hkU HB hb) (hkA (Aside0.mk (hbox)) (hkA (hkG hg (hkS HB)) (hkA (hkG hg (hkS HB)) (hkA (hkN hg BK668) (hkM hg BK668)))))); clear BK668 HB; obtain ⟨BK668, HB, BK669, GW669, GE669, NB668_669, NB669_668⟩ := n_; clear hb hbox hg; have hnb11 := NB668_669.out; have hnc11 := NB669_668.out; obtain ⟨hcz12_0, hfz12_0, hcz12_1, hfz12_1, hcz12_2, hfz12_2, hcz12_3, hfz12_3⟩ := hkc4 BK668) | ((with_reducible refine gate_callee (f := 38) rfl ?_); refine hkGo (N := some 7) Tryd.func38 #[.agg #[.int .i64 a0_0, .bool a0_1, .int .i64 a0_2, .int .i64 a0_3]] ?_; (with_reducible refine (impl_FlOk.calls a0_0 a0_1 a0_2 a0_3 true _ A3.out).mono ?_); rintro e w13 ⟨rfl, hb⟩; refine ⟨_, rfl, ?_⟩; have n_ := hkA (hkBb BK668 hb) (hkA (hkBb BK669 hb) (hkU HB hb)); clear BK668 BK669 HB; obtain ⟨BK668, BK669, HB⟩ := n_; (try clear hb); obtain ⟨hcz14_0, hfz14_0, hcz14_1, hfz14_1, hcz14_2, hfz14_2, hcz14_3, hfz14_3⟩ := hkc4 BK669) | (go_at_call 38; (with_reducible refine (impl_FlOk.calls a1_0 a1_1 a1_2 a1_3 true _ A5.out).mono ?_); rintro e w15 ⟨rfl, hb⟩; have n_ := hkA (hkBb BK668 hb) (hkA (hkBb BK669 hb) (hkU HB hb)); clear BK668 BK669 HB; obtain ⟨BK668, BK669, HB⟩ := n_; (try clear hb); obtain ⟨hcz16_0, hfz16_0, hcz16_1, hfz16_1, hcz16_2, hfz16_2, hcz16_3, hfz16_3⟩ := hkc4 BK668; obtain ⟨hcz17_0, hfz17_0, hcz17_1, hfz17_1, hcz17_2, hfz17_2, hcz17_3, hfz17_3⟩ := hkc4 BK669) | (go_at_call 65; (with_reducible refine (impl_hasKind.calls 3 a0_0 a0_1 a0_2 a0_3 a1_0 a1_1 a1_2 a1_3 true _ A7.out).mono ?_); rintro e w18 ⟨rfl, hb⟩; have n_ := hkA (hkBb BK668 hb) (hkA (hkBb BK669 hb) (hkU HB hb)); clear BK668 BK669 HB; obtain ⟨BK668, BK669, HB⟩ := n_; (try clear hb)))
    go_ret2
    exact ⟨hkE, hkS HB⟩
   ·replace c8 := Bool.eq_false_iff.mpr c8
    subst c8
    have H1 : ((impl_compareFloats.f k a0_0 a0_1 a0_2 a0_3 a1_0 a1_1 a1_2 a1_3).bind fun t673 => (some (t673, true))) = some (r1, r2) := by rw [if_neg (show ¬ (false = true) by decide)] at H; exact H
    clear H
    have H := H1
    clear H1
    replace H := hBi H
    obtain ⟨t673, A190, H⟩ := H
    replace H : (some (t673, true)) = some (r1, r2) := H
    have A19 := Aside0.mk A190
    clear A190
    simp only [Option.some.injEq, Prod.mk.injEq] at H
    obtain ⟨rfl, rfl⟩ := H
    go_enter Tryd.func34, Tryd.ntmps34
    go_wp2_with (first | ((with_reducible refine gate_dst (N := 2) rfl ?_); refine hkBox (N := 2) (cs := #[.int .i64 a0_0, .bool a0_1, .int .i64 a0_2, .int .i64 a0_3]) (t := 33) ?_; intro gb668 hg w20 hbox hb; have n_ := hkA (hkU HB hb) (hkA (Aside0.mk (hbox)) (hkA (hkG hg (hkS HB)) (hkG hg (hkS HB)))); clear HB; obtain ⟨HB, BK668, GW668, GE668⟩ := n_; clear hb hbox hg) | ((with_reducible refine gate_dst (N := 3) rfl ?_); refine hkBox (N := 3) (cs := #[.int .i64 a1_0, .bool a1_1, .int .i64 a1_2, .int .i64 a1_3]) (t := 33) ?_; intro gb669 hg w21 hbox hb; have n_ := hkA (hkBb BK668 hb) (hkA (hkU HB hb) (hkA (Aside0.mk (hbox)) (hkA (hkG hg (hkS HB)) (hkA (hkG hg (hkS HB)) (hkA (hkN hg BK668) (hkM hg BK668)))))); clear BK668 HB; obtain ⟨BK668, HB, BK669, GW669, GE669, NB668_669, NB669_668⟩ := n_; clear hb hbox hg; have hnb22 := NB668_669.out; have hnc22 := NB669_668.out; obtain ⟨hcz23_0, hfz23_0, hcz23_1, hfz23_1, hcz23_2, hfz23_2, hcz23_3, hfz23_3⟩ := hkc4 BK668) | ((with_reducible refine gate_callee (f := 38) rfl ?_); refine hkGo (N := some 7) Tryd.func38 #[.agg #[.int .i64 a0_0, .bool a0_1, .int .i64 a0_2, .int .i64 a0_3]] ?_; (with_reducible refine (impl_FlOk.calls a0_0 a0_1 a0_2 a0_3 true _ A3.out).mono ?_); rintro e w24 ⟨rfl, hb⟩; refine ⟨_, rfl, ?_⟩; have n_ := hkA (hkBb BK668 hb) (hkA (hkBb BK669 hb) (hkU HB hb)); clear BK668 BK669 HB; obtain ⟨BK668, BK669, HB⟩ := n_; (try clear hb); obtain ⟨hcz25_0, hfz25_0, hcz25_1, hfz25_1, hcz25_2, hfz25_2, hcz25_3, hfz25_3⟩ := hkc4 BK669) | (go_at_call 38; (with_reducible refine (impl_FlOk.calls a1_0 a1_1 a1_2 a1_3 true _ A5.out).mono ?_); rintro e w26 ⟨rfl, hb⟩; have n_ := hkA (hkBb BK668 hb) (hkA (hkBb BK669 hb) (hkU HB hb)); clear BK668 BK669 HB; obtain ⟨BK668, BK669, HB⟩ := n_; (try clear hb); obtain ⟨hcz27_0, hfz27_0, hcz27_1, hfz27_1, hcz27_2, hfz27_2, hcz27_3, hfz27_3⟩ := hkc4 BK668; obtain ⟨hcz28_0, hfz28_0, hcz28_1, hfz28_1, hcz28_2, hfz28_2, hcz28_3, hfz28_3⟩ := hkc4 BK669) | (go_at_call 65; (with_reducible refine (impl_hasKind.calls 3 a0_0 a0_1 a0_2 a0_3 a1_0 a1_1 a1_2 a1_3 false _ A7.out).mono ?_); rintro e w29 ⟨rfl, hb⟩; have n_ := hkA (hkBb BK668 hb) (hkA (hkBb BK669 hb) (hkU HB hb)); clear BK668 BK669 HB; obtain ⟨BK668, BK669, HB⟩ := n_; (try clear hb); obtain ⟨hcz30_0, hfz30_0, hcz30_1, hfz30_1, hcz30_2, hfz30_2, hcz30_3, hfz30_3⟩ := hkc4 BK668; obtain ⟨hcz31_0, hfz31_0, hcz31_1, hfz31_1, hcz31_2, hfz31_2, hcz31_3, hfz31_3⟩ := hkc4 BK669) | ((with_reducible refine gate_callee (f := 66) rfl ?_); refine hkGo (N := some 21) Tryd.func66 #[.agg #[.int .i64 a0_0, .bool a0_1, .int .i64 a0_2, .int .i64 a0_3], .agg #[.int .i64 a1_0, .bool a1_1, .int .i64 a1_2, .int .i64 a1_3]] ?_; (with_reducible refine (impl_compareFloats.calls k a0_0 a0_1 a0_2 a0_3 a1_0 a1_1 a1_2 a1_3 t673 _ A19.out).mono ?_); rintro e w32 ⟨rfl, hb⟩; refine ⟨_, rfl, ?_⟩; have n_ := hkA (hkBb BK668 hb) (hkA (hkBb BK669 hb) (hkU HB hb)); clear BK668 BK669 HB; obtain ⟨BK668, BK669, HB⟩ := n_; (try clear hb)))
    go_ret2
    exact ⟨hkE, hkS HB⟩
  ·replace c6 := Bool.eq_false_iff.mpr c6
   subst c6
   have H1 : (some (0, false)) = some (r1, r2) := by rw [if_neg (show ¬ (false = true) by decide)] at H; exact H
   clear H
   have H := H1
   clear H1
   simp only [Option.some.injEq, Prod.mk.injEq] at H
   obtain ⟨rfl, rfl⟩ := H
   go_enter Tryd.func34, Tryd.ntmps34
   go_wp2_with (first | ((with_reducible refine gate_dst (N := 2) rfl ?_); refine hkBox (N := 2) (cs := #[.int .i64 a0_0, .bool a0_1, .int .i64 a0_2, .int .i64 a0_3]) (t := 33) ?_; intro gb668 hg w33 hbox hb; have n_ := hkA (hkU HB hb) (hkA (Aside0.mk (hbox)) (hkA (hkG hg (hkS HB)) (hkG hg (hkS HB)))); clear HB; obtain ⟨HB, BK668, GW668, GE668⟩ := n_; clear hb hbox hg) | ((with_reducible refine gate_dst (N := 3) rfl ?_); refine hkBox (N := 3) (cs := #[.int .i64 a1_0, .bool a1_1, .int .i64 a1_2, .int .i64 a1_3]) (t := 33) ?_; intro gb669 hg w34 hbox hb; have n_ := hkA (hkBb BK668 hb) (hkA (hkU HB hb) (hkA (Aside0.mk (hbox)) (hkA (hkG hg (hkS HB)) (hkA (hkG hg (hkS HB)) (hkA (hkN hg BK668) (hkM hg BK668)))))); clear BK668 HB; obtain ⟨BK668, HB, BK669, GW669, GE669, NB668_669, NB669_668⟩ := n_; clear hb hbox hg; have hnb35 := NB668_669.out; have hnc35 := NB669_668.out; obtain ⟨hcz36_0, hfz36_0, hcz36_1, hfz36_1, hcz36_2, hfz36_2, hcz36_3, hfz36_3⟩ := hkc4 BK668) | ((with_reducible refine gate_callee (f := 38) rfl ?_); refine hkGo (N := some 7) Tryd.func38 #[.agg #[.int .i64 a0_0, .bool a0_1, .int .i64 a0_2, .int .i64 a0_3]] ?_; (with_reducible refine (impl_FlOk.calls a0_0 a0_1 a0_2 a0_3 true _ A3.out).mono ?_); rintro e w37 ⟨rfl, hb⟩; refine ⟨_, rfl, ?_⟩; have n_ := hkA (hkBb BK668 hb) (hkA (hkBb BK669 hb) (hkU HB hb)); clear BK668 BK669 HB; obtain ⟨BK668, BK669, HB⟩ := n_; (try clear hb); obtain ⟨hcz38_0, hfz38_0, hcz38_1, hfz38_1, hcz38_2, hfz38_2, hcz38_3, hfz38_3⟩ := hkc4 BK669) | (go_at_call 38; (with_reducible refine (impl_FlOk.calls a1_0 a1_1 a1_2 a1_3 false _ A5.out).mono ?_); rintro e w39 ⟨rfl, hb⟩; have n_ := hkA (hkBb BK668 hb) (hkA (hkBb BK669 hb) (hkU HB hb)); clear BK668 BK669 HB; obtain ⟨BK668, BK669, HB⟩ := n_; (try clear hb)))
   go_ret2
   exact ⟨hkE, hkS HB⟩
 ·replace c4 := Bool.eq_false_iff.mpr c4
  subst c4
  have H1 : (some (0, false)) = some (r1, r2) := by rw [if_neg (show ¬ (false = true) by decide)] at H; exact H
  clear H
  have H := H1
  clear H1
  simp only [Option.some.injEq, Prod.mk.injEq] at H
  obtain ⟨rfl, rfl⟩ := H
  go_enter Tryd.func34, Tryd.ntmps34
  go_wp2_with (first | ((with_reducible refine gate_dst (N := 2) rfl ?_); refine hkBox (N := 2) (cs := #[.int .i64 a0_0, .bool a0_1, .int .i64 a0_2, .int .i64 a0_3]) (t := 33) ?_; intro gb668 hg w40 hbox hb; have n_ := hkA (hkU HB hb) (hkA (Aside0.mk (hbox)) (hkA (hkG hg (hkS HB)) (hkG hg (hkS HB)))); clear HB; obtain ⟨HB, BK668, GW668, GE668⟩ := n_; clear hb hbox hg) | ((with_reducible refine gate_dst (N := 3) rfl ?_); refine hkBox (N := 3) (cs := #[.int .i64 a1_0, .bool a1_1, .int .i64 a1_2, .int .i64 a1_3]) (t := 33) ?_; intro gb669 hg w41 hbox hb; have n_ := hkA (hkBb BK668 hb) (hkA (hkU HB hb) (hkA (Aside0.mk (hbox)) (hkA (hkG hg (hkS HB)) (hkA (hkG hg (hkS HB)) (hkA (hkN hg BK668) (hkM hg BK668)))))); clear BK668 HB; obtain ⟨BK668, HB, BK669, GW669, GE669, NB668_669, NB669_668⟩ := n_; clear hb hbox hg; have hnb42 := NB668_669.out; have hnc42 := NB669_668.out; obtain ⟨hcz43_0, hfz43_0, hcz43_1, hfz43_1, hcz43_2, hfz43_2, hcz43_3, hfz43_3⟩ := hkc4 BK668) | ((with_reducible refine gate_callee (f := 38) rfl ?_); refine hkGo (N := some 7) Tryd.func38 #[.agg #[.int .i64 a0_0, .bool a0_1, .int .i64 a0_2, .int .i64 a0_3]] ?_; (with_reducible refine (impl_FlOk.calls a0_0 a0_1 a0_2 a0_3 false _ A3.out).mono ?_); rintro e w44 ⟨rfl, hb⟩; refine ⟨_, rfl, ?_⟩; have n_ := hkA (hkBb BK668 hb) (hkA (hkBb BK669 hb) (hkU HB hb)); clear BK668 BK669 HB; obtain ⟨BK668, BK669, HB⟩ := n_; (try clear hb)))
  go_ret2
  exact ⟨hkE, hkS HB⟩

/-! ### spec_NatOk: function 77 -/
def spec_NatOk.l0 : Nat → Int → List Int → Option (Bool)
 | 0, _, _ => none
 | k + 1, x3, x675000 => if x3 < (x675000.length : Int) then (if 0 ≤ x3 then (if (rd x675000 x3) < 0 then (some false) else (if (rd x675000 x3) ≥ 65536 then (some false) else (spec_NatOk.l0 k (wrap64 (x3 + 1)) x675000))) else (none)) else (if (x675000.length : Int) = 0 then (some true) else (if 0 ≤ (wrap64 ((x675000.length : Int) - 1)) then (if (wrap64 ((x675000.length : Int) - 1)) < (x675000.length : Int) then (some (decide ((rd x675000 (wrap64 ((x675000.length : Int) - 1))) > 0))) else (none)) else (none)))
def spec_NatOk.f (k : Nat) (l0_0 : List Int) : Option (Bool) := if (l0_0.length : Int) > 100 then (some false) else (spec_NatOk.l0 k 0 l0_0)
theorem spec_NatOk.mono_l : ∀ k, (∀ y0 y1, LeO (spec_NatOk.l0 k y0 y1) (spec_NatOk.l0 (k + 1) y0 y1))
 | 0 => fun _ _ r h => by simp [spec_NatOk.l0] at h
 | k + 1 => by
  have ih0 := spec_NatOk.mono_l k
  ·intro y0 y1
   unfold spec_NatOk.l0
   repeat' first
   | (with_reducible exact ih0 _ _)
   | (with_reducible exact LeO.refl _)
   | (with_reducible exact LeO.none _)
   | (with_reducible refine LeO.ite ?_ ?_)
   | (with_reducible refine LeO.bind ?_ (fun _ => ?_))
   | exact ih0 _ _
   | exact LeO.none _
   | refine LeO.ite ?_ ?_
   | refine LeO.bind ?_ (fun _ => ?_)
theorem spec_NatOk.mono : ∀ a0 k, LeO (spec_NatOk.f k a0) (spec_NatOk.f (k + 1) a0) := by
 intro a0 k
 have ih0 := spec_NatOk.mono_l k
 unfold spec_NatOk.f
 repeat' first
   | (with_reducible exact ih0 _ _)
   | (with_reducible exact LeO.refl _)
   | (with_reducible exact LeO.none _)
   | (with_reducible refine LeO.ite ?_ ?_)
   | (with_reducible refine LeO.bind ?_ (fun _ => ?_))
   | exact ih0 _ _
   | exact LeO.none _
   | refine LeO.ite ?_ ?_
   | refine LeO.bind ?_ (fun _ => ?_)
set_option maxHeartbeats 8000000 in
set_option maxRecDepth 100000 in
theorem spec_NatOk.calls (k : Nat) (A0_0 : Option Addr) (c0_0 : Nat) (l0_0 : List Int) (r : Bool) (w : World) (hr0_0 : Kd.C (Kd.int .i64) w A0_0 l0_0.length l0_0) (hc0_0 : l0_0.length ≤ c0_0) (h : spec_NatOk.f k l0_0 = some r) :
  Calls Tryd.prog 77 #[.agg #[.slice A0_0 l0_0.length c0_0]] w fun e w' => e = .returned (.bool r) ∧ Below w.heap.size w w' := by
 have hu26 := Tryd.underlying26
 have HR0_0 := Aside0.mk hr0_0
 have HC0_0 := Aside0.mk hc0_0
 clear hr0_0 hc0_0
 have HB := Aside0.mk (Below.refl w.heap.size w)
 have H : (if (l0_0.length : Int) > 100 then (some false) else (spec_NatOk.l0 k 0 l0_0)) = some r := h
 clear h
 by_cases c2 : (l0_0.length : Int) > 100
 ·rw [if_pos c2] at H
  have c2b0 : decide (100 < (l0_0.length : Int)) = true := decide_eq_true c2
  have c2b1 : decide (100 < l0_0.length) = true := decide_eq_true (by omega)
  clear c2
  obtain rfl := Option.some.inj H
  go_enter Tryd.func77, Tryd.ntmps77
  go_wp2_with (first | ((with_reducible refine gate_dst (N := 1) rfl ?_); (try (refine gate_guard (by rfl) ?_; dsimp only)); refine hkBox (N := 1) (cs := #[.slice A0_0 l0_0.length c0_0]) (t := 26) ?_; intro gb674 hg w3 hbox hb; have n_ := hkA (hkU HB hb) (hkA (Aside0.mk (hbox)) (hkA (hkG hg (hkS HB)) (hkG hg (hkS HB)))); clear HB; obtain ⟨HB, BK674, GW674, GE674⟩ := n_; clear hb hbox hg; obtain ⟨hcz4_0, hfz4_0⟩ := hkc1 BK674))
  go_ret
  exact ⟨hkE, hkS HB⟩
 ·rw [if_neg c2] at H
  have c2b0 : decide (100 < (l0_0.length : Int)) = false := decide_eq_false c2
  have c2b1 : decide (100 < l0_0.length) = false := decide_eq_false (by omega)
  clear c2
  have H' := Aside0.mk H
  clear H
  go_enter Tryd.func77, Tryd.ntmps77
  go_wp2_with (first | ((with_reducible refine gate_dst (N := 1) rfl ?_); (try (refine gate_guard (by rfl) ?_; dsimp only)); refine hkBox (N := 1) (cs := #[.slice A0_0 l0_0.length c0_0]) (t := 26) ?_; intro gb674 hg w5 hbox hb; have n_ := hkA (hkU HB hb) (hkA (Aside0.mk (hbox)) (hkA (hkG hg (hkS HB)) (hkG hg (hkS HB)))); clear HB; obtain ⟨HB, BK674, GW674, GE674⟩ := n_; clear hb hbox hg; obtain ⟨hcz6_0, hfz6_0⟩ := hkc1 BK674))
  go_loopg [3] k (fun kq v3 w' => ∃ (x3_1 : Int), v3 = .int .i64 x3_1 ∧ Aside0 (spec_NatOk.l0 kq x3_1 l0_0 = some r) ∧ Aside0 (kq ≤ k) ∧ Aside0 (w'.heap[gb674]? = some (.cells #[(.slice A0_0 l0_0.length c0_0)] 26 (0, 0))) ∧ Aside0 (Below w.heap.size w w'))
  case atStart => exact ⟨(0), (by first | rfl | (simp; done) | (simp [*]; done)), H', ⟨Nat.le_refl _⟩, ⟨by refine hkz ?_; exact BK674.out⟩, ⟨hkS HB⟩⟩
  case round =>
   clear H'
   try clear c2
   try clear c2b0
   try clear c2b1
   try clear p2
   try clear hcz4_0 hcz6_0 hfz4_0 hfz6_0
   obtain ⟨x3_1, rfl, HA, HK1, BK674, HB⟩ := hrel
   cases gk with
   | zero => exact absurd HA.out (by simp [spec_NatOk.l0])
   | succ k1 =>
    have H := HA.out
    clear HA
    simp only [spec_NatOk.l0] at H
    by_cases c7 : x3_1 < (l0_0.length : Int)
    ·rw [if_pos c7] at H
     have c7b0 : decide (x3_1 < (l0_0.length : Int)) = true := decide_eq_true c7
     clear c7
     by_cases c8 : 0 ≤ x3_1
     ·rw [if_pos c8] at H
      have c8b0 : decide (0 ≤ x3_1) = true := decide_eq_true c8
      clear c8
      by_cases c9 : (rd l0_0 x3_1) < 0
      ·rw [if_pos c9] at H
       have c9b0 : decide ((rd l0_0 x3_1) < 0) = true := decide_eq_true c9
       clear c9
       obtain rfl := Option.some.inj H
       obtain ⟨hcz10_0, hfz10_0⟩ := hkc1 BK674
       have p675 : 0 ≤ (x3_1 : Int) := of_decide_eq_true (by first | (with_reducible assumption) | assumption)
       have q675 : x3_1 < (l0_0.length : Int) := of_decide_eq_true (by first | (with_reducible assumption) | assumption)
       obtain ⟨ad675, e675, hx675_0⟩ := Kd.at_int HR0_0.out x3_1 p675 q675
       cases e675
       replace hx675_0 := (HB.out.cell (World.block_lt_of_cell? w _ hx675_0)).trans hx675_0
       replace p675 := eq_true p675
       replace q675 := eq_true q675
       go_wp2
       go_ret
       exact ⟨hkE, hkS HB⟩
      ·rw [if_neg c9] at H
       have c9b0 : decide ((rd l0_0 x3_1) < 0) = false := decide_eq_false c9
       clear c9
       by_cases c11 : (rd l0_0 x3_1) ≥ 65536
       ·rw [if_pos c11] at H
        have c11b0 : decide (65536 ≤ (rd l0_0 x3_1)) = true := decide_eq_true c11
        clear c11
        obtain rfl := Option.some.inj H
        obtain ⟨hcz12_0, hfz12_0⟩ := hkc1 BK674
        have p675 : 0 ≤ (x3_1 : Int) := of_decide_eq_true (by first | (with_reducible assumption) | assumption)
        have q675 : x3_1 < (l0_0.length : Int) := of_decide_eq_true (by first | (with_reducible assumption) | assumption)
        obtain ⟨ad675, e675, hx675_0⟩ := Kd.at_int HR0_0.out x3_1 p675 q675
        cases e675
        replace hx675_0 := (HB.out.cell (World.block_lt_of_cell? w _ hx675_0)).trans hx675_0
        replace p675 := eq_true p675
        replace q675 := eq_true q675
        have p676 : 0 ≤ (x3_1 : Int) := of_decide_eq_true (by first | (with_reducible assumption) | assumption)
        have q676 : x3_1 < (l0_0.length : Int) := of_decide_eq_true (by first | (with_reducible assumption) | assumption)
        obtain ⟨ad676, e676, hx676_0⟩ := Kd.at_int HR0_0.out x3_1 p676 q676
        obtain rfl : ad675 = ad676 := (by injection e676)
        replace hx676_0 := (HB.out.cell (World.block_lt_of_cell? w _ hx676_0)).trans hx676_0
        replace p676 := eq_true p676
        replace q676 := eq_true q676
        go_wp2
        go_ret
        exact ⟨hkE, hkS HB⟩
       ·rw [if_neg c11] at H
        have c11b0 : decide (65536 ≤ (rd l0_0 x3_1)) = false := decide_eq_false c11
        clear c11
        have H' := Aside0.mk H
        clear H
        obtain ⟨hcz13_0, hfz13_0⟩ := hkc1 BK674
        have p675 : 0 ≤ (x3_1 : Int) := of_decide_eq_true (by first | (with_reducible assumption) | assumption)
        have q675 : x3_1 < (l0_0.length : Int) := of_decide_eq_true (by first | (with_reducible assumption) | assumption)
        obtain ⟨ad675, e675, hx675_0⟩ := Kd.at_int HR0_0.out x3_1 p675 q675
        cases e675
        replace hx675_0 := (HB.out.cell (World.block_lt_of_cell? w _ hx675_0)).trans hx675_0
        replace p675 := eq_true p675
        replace q675 := eq_true q675
        have p676 : 0 ≤ (x3_1 : Int) := of_decide_eq_true (by first | (with_reducible assumption) | assumption)
        have q676 : x3_1 < (l0_0.length : Int) := of_decide_eq_true (by first | (with_reducible assumption) | assumption)
        obtain ⟨ad676, e676, hx676_0⟩ := Kd.at_int HR0_0.out x3_1 p676 q676
        obtain rfl : ad675 = ad676 := (by injection e676)
        replace hx676_0 := (HB.out.cell (World.block_lt_of_cell? w _ hx676_0)).trans hx676_0
        replace p676 := eq_true p676
        replace q676 := eq_true q676
        go_wp2
        go_roundg k1
        case measure => have := HK1.out; omega
        case rel => exact ⟨(wrap64 (x3_1 + 1)), (by first | rfl | (simp; done) | (simp [*]; done)), H', ⟨by have := HK1.out; omega⟩, ⟨by refine hkz ?_; exact BK674.out⟩, ⟨hkS HB⟩⟩
     ·rw [if_neg c8] at H
      exact absurd H (by simp)
    ·rw [if_neg c7] at H
     have c7b0 : decide (x3_1 < (l0_0.length : Int)) = false := decide_eq_false c7
     clear c7
     by_cases c14 : (l0_0.length : Int) = 0
     ·rw [if_pos c14] at H
      have c14b0 : ((l0_0.length : Int) == 0) = true := beq_iff_eq.mpr c14
      have c14b1 : ((l0_0.length : Int) != 0) = false := bne_eq_false_iff_eq.mpr c14
      clear c14
      obtain rfl := Option.some.inj H
      obtain ⟨hcz15_0, hfz15_0⟩ := hkc1 BK674
      go_wp2
      go_ret
      exact ⟨hkE, hkS HB⟩
     ·rw [if_neg c14] at H
      have c14b0 : ((l0_0.length : Int) == 0) = false := beq_eq_false_iff_ne.mpr c14
      have c14b1 : ((l0_0.length : Int) != 0) = true := bne_iff_ne.mpr c14
      have c14b2 : ¬ (l0_0 = []) := fun h_ => c14 (by rw [h_]; rfl)
      obtain ⟨ji16, hji16⟩ : ∃ j_ : Int, (wrap64 ((l0_0.length : Int) - 1)) = j_ := ⟨_, rfl⟩
      replace H : (if 0 ≤ (ji16) then (if (ji16) < (l0_0.length : Int) then (some (decide ((rd l0_0 (ji16)) > 0))) else (none)) else (none)) = some r := by first | (rw [hji16] at H; exact H) | (simp only [hji16] at H ⊢; exact H)
      have hji16w : (IntKind.i64.wrap ((l0_0.length : Int) - 1)) = ji16 := (i64_w _).trans hji16
      by_cases c17 : 0 ≤ (ji16)
      ·rw [if_pos c17] at H
       have c17b0 : decide (0 ≤ (ji16)) = true := decide_eq_true c17
       clear c17
       by_cases c18 : (ji16) < (l0_0.length : Int)
       ·rw [if_pos c18] at H
        have c18b0 : decide ((ji16) < (l0_0.length : Int)) = true := decide_eq_true c18
        clear c18
        obtain rfl := Option.some.inj H
        obtain ⟨hcz19_0, hfz19_0⟩ := hkc1 BK674
        have p677 : 0 ≤ ((ji16) : Int) := of_decide_eq_true (by first | (with_reducible assumption) | assumption)
        have q677 : (ji16) < (l0_0.length : Int) := of_decide_eq_true (by first | (with_reducible assumption) | assumption)
        obtain ⟨ad677, e677, hx677_0⟩ := Kd.at_int HR0_0.out (ji16) p677 q677
        cases e677
        replace hx677_0 := (HB.out.cell (World.block_lt_of_cell? w _ hx677_0)).trans hx677_0
        replace p677 := eq_true p677
        replace q677 := eq_true q677
        go_wp2
        go_ret
        exact ⟨by first | rfl | (simp [errW_none, errW_some] <;> rfl) | (simp only [← hji16]; first | rfl | (simp [errW_none, errW_some] <;> rfl)) | (simp [*, errW_none, errW_some] <;> rfl), hkS HB⟩
       ·rw [if_neg c18] at H
        exact absurd H (by simp)
      ·rw [if_neg c17] at H
       exact absurd H (by simp)

end Go.Proofs.YtgjpahofopoflaaDoor.PFnFlOrder
