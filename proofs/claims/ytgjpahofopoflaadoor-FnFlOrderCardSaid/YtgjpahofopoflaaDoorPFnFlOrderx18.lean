-- Written by our own driver (wip/hand/hprint.py) over the seat's translation.
import Derived.Test.YtgjpahofopoflaaDoorPFnFlOrderx0
import Derived.Test.YtgjpahofopoflaaDoorPFnFlOrderx10
namespace Go.Proofs.YtgjpahofopoflaaDoor.PFnFlOrder
open Go.RowKit Go.Proofs.YtgjpahofopoflaaDoorW.PrintWords Go.Proofs.YtgjpahofopoflaaDoorW.PrintLast Go.Proofs.YtgjpahofopoflaaDoorW.PrintMore
attribute [local go_sem] max2_int min2_int max_two min_two max_three min_three max_four min_four   -- for this text's walks alone
set_option linter.unusedVariables false
set_option linter.unusedSimpArgs false

/-! ### spec_l4ups: function 151 -/
def spec_l4ups.f (k : Nat) (a0 : Bool) (l1_0 : List Int) (a2 : Int) (a3 : Int) : Option (Bool) := (spec_l2bit.f l1_0 (wrap64 (a2 - 1))).bind fun t348 => ((spec_l2trail.f k l1_0).bind fun t349 => (if a3 = 1 then (some false) else (if a3 = 2 then (some (!a0)) else (if a3 = 3 then (some a0) else (if a3 = 4 then (some (t348 == 1)) else (if t348 = 1 then (if t349 < (wrap64 (a2 - 1)) then (some true) else ((spec_l2bit.f l1_0 a2).bind fun t350 => (some (t350 == 1)))) else (some false)))))))
theorem spec_l4ups.mono : ∀ a0 a1 a2 a3 k, LeO (spec_l4ups.f k a0 a1 a2 a3) (spec_l4ups.f (k + 1) a0 a1 a2 a3) := by
 intro a0 a1 a2 a3 k
 unfold spec_l4ups.f
 repeat' first
   | (with_reducible exact spec_l2trail.mono _ _)
   | (with_reducible exact LeO.refl _)
   | (with_reducible exact LeO.none _)
   | (with_reducible refine LeO.ite ?_ ?_)
   | (with_reducible refine LeO.bind ?_ (fun _ => ?_))
   | exact spec_l2trail.mono _ _
   | exact LeO.none _
   | refine LeO.ite ?_ ?_
   | refine LeO.bind ?_ (fun _ => ?_)
set_option maxHeartbeats 8000000 in
set_option maxRecDepth 100000 in
theorem spec_l4ups.calls (k : Nat) (a0 : Bool) (A1_0 : Option Addr) (c1_0 : Nat) (l1_0 : List Int) (a2 : Int) (a3 : Int) (r : Bool) (w : World) (hr1_0 : Kd.C (Kd.int .i64) w A1_0 l1_0.length l1_0) (hc1_0 : l1_0.length ≤ c1_0) (h : spec_l4ups.f k a0 l1_0 a2 a3 = some r) :
  Calls Tryd.prog 151 #[.bool a0, .agg #[.slice A1_0 l1_0.length c1_0], .int .i64 a2, .int .i64 a3] w fun e w' => e = .returned (.bool r) ∧ Below w.heap.size w w' := by
 have hu26 := Tryd.underlying26
 have HR1_0 := Aside0.mk hr1_0
 have HC1_0 := Aside0.mk hc1_0
 clear hr1_0 hc1_0
 have HB := Aside0.mk (Below.refl w.heap.size w)
 have H : ((spec_l2bit.f l1_0 (wrap64 (a2 - 1))).bind fun t348 => ((spec_l2trail.f k l1_0).bind fun t349 => (if a3 = 1 then (some false) else (if a3 = 2 then (some (!a0)) else (if a3 = 3 then (some a0) else (if a3 = 4 then (some (t348 == 1)) else (if t348 = 1 then (if t349 < (wrap64 (a2 - 1)) then (some true) else ((spec_l2bit.f l1_0 a2).bind fun t350 => (some (t350 == 1)))) else (some false)))))))) = some r := h
 clear h
 replace H := hBi H
 obtain ⟨t348, A50, H⟩ := H
 replace H : ((spec_l2trail.f k l1_0).bind fun t349 => (if a3 = 1 then (some false) else (if a3 = 2 then (some (!a0)) else (if a3 = 3 then (some a0) else (if a3 = 4 then (some (t348 == 1)) else (if t348 = 1 then (if t349 < (wrap64 (a2 - 1)) then (some true) else ((spec_l2bit.f l1_0 a2).bind fun t350 => (some (t350 == 1)))) else (some false))))))) = some r := H
 have A5 := Aside0.mk A50
 clear A50
 replace H := hBi H
 obtain ⟨t349, A60, H⟩ := H
 replace H : (if a3 = 1 then (some false) else (if a3 = 2 then (some (!a0)) else (if a3 = 3 then (some a0) else (if a3 = 4 then (some (t348 == 1)) else (if t348 = 1 then (if t349 < (wrap64 (a2 - 1)) then (some true) else ((spec_l2bit.f l1_0 a2).bind fun t350 => (some (t350 == 1)))) else (some false)))))) = some r := H
 have A6 := Aside0.mk A60
 clear A60
 by_cases c7 : a3 = 1
 ·rw [if_pos c7] at H
  have c7b0 : (a3 == 1) = true := beq_iff_eq.mpr c7
  have c7b1 : (a3 != 1) = false := bne_eq_false_iff_eq.mpr c7
  clear c7
  obtain rfl := Option.some.inj H
  go_enter Tryd.func151, Tryd.ntmps151
  go_wp2_with (first | ((with_reducible refine gate_dst (N := 5) rfl ?_); refine hkBox (N := 5) (cs := #[.slice A1_0 l1_0.length c1_0]) (t := 26) ?_; intro gb347 hg w8 hbox hb; have n_ := hkA (hkU HB hb) (hkA (Aside0.mk (hbox)) (hkA (hkG hg (hkS HB)) (hkG hg (hkS HB)))); clear HB; obtain ⟨HB, BK347, GW347, GE347⟩ := n_; clear hb hbox hg; obtain ⟨hcz9_0, hfz9_0⟩ := hkc1 BK347) | ((with_reducible refine gate_callee (f := 73) rfl ?_); refine hkGo (N := some 14) Tryd.func73 #[.agg #[.slice A1_0 l1_0.length c1_0], .int .i64 (wrap64 (a2 - 1))] ?_; (with_reducible refine (spec_l2bit.calls _ _ l1_0 (wrap64 (a2 - 1)) t348 _ ?side1 ?side2 A5.out).mono ?_); (case side1 => exact hkC ((Kd.C_below HR1_0.out HB.out))); (case side2 => exact HC1_0.out); rintro e w10 ⟨rfl, hb⟩; refine ⟨_, rfl, ?_⟩; have n_ := hkA (hkBb BK347 hb) (hkU HB hb); clear BK347 HB; obtain ⟨BK347, HB⟩ := n_; (try clear hb); obtain ⟨hcz11_0, hfz11_0⟩ := hkc1 BK347) | ((with_reducible refine gate_callee (f := 78) rfl ?_); refine hkGo (N := some 17) Tryd.func78 #[.agg #[.slice A1_0 l1_0.length c1_0]] ?_; (with_reducible refine (spec_l2trail.calls k _ _ l1_0 t349 _ ?side1 ?side2 A6.out).mono ?_); (case side1 => exact hkC ((Kd.C_below HR1_0.out HB.out))); (case side2 => exact HC1_0.out); rintro e w12 ⟨rfl, hb⟩; refine ⟨_, rfl, ?_⟩; have n_ := hkA (hkBb BK347 hb) (hkU HB hb); clear BK347 HB; obtain ⟨BK347, HB⟩ := n_; (try clear hb)))
  go_ret
  exact ⟨hkE, hkS HB⟩
 ·rw [if_neg c7] at H
  have c7b0 : (a3 == 1) = false := beq_eq_false_iff_ne.mpr c7
  have c7b1 : (a3 != 1) = true := bne_iff_ne.mpr c7
  by_cases c13 : a3 = 2
  ·rw [if_pos c13] at H
   have c13b0 : (a3 == 2) = true := beq_iff_eq.mpr c13
   have c13b1 : (a3 != 2) = false := bne_eq_false_iff_eq.mpr c13
   clear c13
   obtain rfl := Option.some.inj H
   go_enter Tryd.func151, Tryd.ntmps151
   go_wp2_with (first | ((with_reducible refine gate_dst (N := 5) rfl ?_); refine hkBox (N := 5) (cs := #[.slice A1_0 l1_0.length c1_0]) (t := 26) ?_; intro gb347 hg w14 hbox hb; have n_ := hkA (hkU HB hb) (hkA (Aside0.mk (hbox)) (hkA (hkG hg (hkS HB)) (hkG hg (hkS HB)))); clear HB; obtain ⟨HB, BK347, GW347, GE347⟩ := n_; clear hb hbox hg; obtain ⟨hcz15_0, hfz15_0⟩ := hkc1 BK347) | ((with_reducible refine gate_callee (f := 73) rfl ?_); refine hkGo (N := some 14) Tryd.func73 #[.agg #[.slice A1_0 l1_0.length c1_0], .int .i64 (wrap64 (a2 - 1))] ?_; (with_reducible refine (spec_l2bit.calls _ _ l1_0 (wrap64 (a2 - 1)) t348 _ ?side1 ?side2 A5.out).mono ?_); (case side1 => exact hkC ((Kd.C_below HR1_0.out HB.out))); (case side2 => exact HC1_0.out); rintro e w16 ⟨rfl, hb⟩; refine ⟨_, rfl, ?_⟩; have n_ := hkA (hkBb BK347 hb) (hkU HB hb); clear BK347 HB; obtain ⟨BK347, HB⟩ := n_; (try clear hb); obtain ⟨hcz17_0, hfz17_0⟩ := hkc1 BK347) | ((with_reducible refine gate_callee (f := 78) rfl ?_); refine hkGo (N := some 17) Tryd.func78 #[.agg #[.slice A1_0 l1_0.length c1_0]] ?_; (with_reducible refine (spec_l2trail.calls k _ _ l1_0 t349 _ ?side1 ?side2 A6.out).mono ?_); (case side1 => exact hkC ((Kd.C_below HR1_0.out HB.out))); (case side2 => exact HC1_0.out); rintro e w18 ⟨rfl, hb⟩; refine ⟨_, rfl, ?_⟩; have n_ := hkA (hkBb BK347 hb) (hkU HB hb); clear BK347 HB; obtain ⟨BK347, HB⟩ := n_; (try clear hb)))
   go_ret
   exact ⟨hkE, hkS HB⟩
  ·rw [if_neg c13] at H
   have c13b0 : (a3 == 2) = false := beq_eq_false_iff_ne.mpr c13
   have c13b1 : (a3 != 2) = true := bne_iff_ne.mpr c13
   by_cases c19 : a3 = 3
   ·rw [if_pos c19] at H
    have c19b0 : (a3 == 3) = true := beq_iff_eq.mpr c19
    have c19b1 : (a3 != 3) = false := bne_eq_false_iff_eq.mpr c19
    clear c19
    obtain rfl := Option.some.inj H
    go_enter Tryd.func151, Tryd.ntmps151
    go_wp2_with (first | ((with_reducible refine gate_dst (N := 5) rfl ?_); refine hkBox (N := 5) (cs := #[.slice A1_0 l1_0.length c1_0]) (t := 26) ?_; intro gb347 hg w20 hbox hb; have n_ := hkA (hkU HB hb) (hkA (Aside0.mk (hbox)) (hkA (hkG hg (hkS HB)) (hkG hg (hkS HB)))); clear HB; obtain ⟨HB, BK347, GW347, GE347⟩ := n_; clear hb hbox hg; obtain ⟨hcz21_0, hfz21_0⟩ := hkc1 BK347) | ((with_reducible refine gate_callee (f := 73) rfl ?_); refine hkGo (N := some 14) Tryd.func73 #[.agg #[.slice A1_0 l1_0.length c1_0], .int .i64 (wrap64 (a2 - 1))] ?_; (with_reducible refine (spec_l2bit.calls _ _ l1_0 (wrap64 (a2 - 1)) t348 _ ?side1 ?side2 A5.out).mono ?_); (case side1 => exact hkC ((Kd.C_below HR1_0.out HB.out))); (case side2 => exact HC1_0.out); rintro e w22 ⟨rfl, hb⟩; refine ⟨_, rfl, ?_⟩; have n_ := hkA (hkBb BK347 hb) (hkU HB hb); clear BK347 HB; obtain ⟨BK347, HB⟩ := n_; (try clear hb); obtain ⟨hcz23_0, hfz23_0⟩ := hkc1 BK347) | ((with_reducible refine gate_callee (f := 78) rfl ?_); refine hkGo (N := some 17) Tryd.func78 #[.agg #[.slice A1_0 l1_0.length c1_0]] ?_; (with_reducible refine (spec_l2trail.calls k _ _ l1_0 t349 _ ?side1 ?side2 A6.out).mono ?_); (case side1 => exact hkC ((Kd.C_below HR1_0.out HB.out))); (case side2 => exact HC1_0.out); rintro e w24 ⟨rfl, hb⟩; refine ⟨_, rfl, ?_⟩; have n_ := hkA (hkBb BK347 hb) (hkU HB hb); clear BK347 HB; obtain ⟨BK347, HB⟩ := n_; (try clear hb)))
    go_ret
    exact ⟨hkE, hkS HB⟩
   ·rw [if_neg c19] at H
    have c19b0 : (a3 == 3) = false := beq_eq_false_iff_ne.mpr c19
    have c19b1 : (a3 != 3) = true := bne_iff_ne.mpr c19
    by_cases c25 : a3 = 4
    ·rw [if_pos c25] at H
     have c25b0 : (a3 == 4) = true := beq_iff_eq.mpr c25
     have c25b1 : (a3 != 4) = false := bne_eq_false_iff_eq.mpr c25
     clear c25
     obtain rfl := Option.some.inj H
     go_enter Tryd.func151, Tryd.ntmps151
     go_wp2_with (first | ((with_reducible refine gate_dst (N := 5) rfl ?_); refine hkBox (N := 5) (cs := #[.slice A1_0 l1_0.length c1_0]) (t := 26) ?_; intro gb347 hg w26 hbox hb; have n_ := hkA (hkU HB hb) (hkA (Aside0.mk (hbox)) (hkA (hkG hg (hkS HB)) (hkG hg (hkS HB)))); clear HB; obtain ⟨HB, BK347, GW347, GE347⟩ := n_; clear hb hbox hg; obtain ⟨hcz27_0, hfz27_0⟩ := hkc1 BK347) | ((with_reducible refine gate_callee (f := 73) rfl ?_); refine hkGo (N := some 14) Tryd.func73 #[.agg #[.slice A1_0 l1_0.length c1_0], .int .i64 (wrap64 (a2 - 1))] ?_; (with_reducible refine (spec_l2bit.calls _ _ l1_0 (wrap64 (a2 - 1)) t348 _ ?side1 ?side2 A5.out).mono ?_); (case side1 => exact hkC ((Kd.C_below HR1_0.out HB.out))); (case side2 => exact HC1_0.out); rintro e w28 ⟨rfl, hb⟩; refine ⟨_, rfl, ?_⟩; have n_ := hkA (hkBb BK347 hb) (hkU HB hb); clear BK347 HB; obtain ⟨BK347, HB⟩ := n_; (try clear hb); obtain ⟨hcz29_0, hfz29_0⟩ := hkc1 BK347) | ((with_reducible refine gate_callee (f := 78) rfl ?_); refine hkGo (N := some 17) Tryd.func78 #[.agg #[.slice A1_0 l1_0.length c1_0]] ?_; (with_reducible refine (spec_l2trail.calls k _ _ l1_0 t349 _ ?side1 ?side2 A6.out).mono ?_); (case side1 => exact hkC ((Kd.C_below HR1_0.out HB.out))); (case side2 => exact HC1_0.out); rintro e w30 ⟨rfl, hb⟩; refine ⟨_, rfl, ?_⟩; have n_ := hkA (hkBb BK347 hb) (hkU HB hb); clear BK347 HB; obtain ⟨BK347, HB⟩ := n_; (try clear hb)))
     go_ret
     exact ⟨hkE, hkS HB⟩
    ·rw [if_neg c25] at H
     have c25b0 : (a3 == 4) = false := beq_eq_false_iff_ne.mpr c25
     have c25b1 : (a3 != 4) = true := bne_iff_ne.mpr c25
     by_cases c31 : t348 = 1
     ·rw [if_pos c31] at H
      have c31b0 : (t348 == 1) = true := beq_iff_eq.mpr c31
      have c31b1 : (t348 != 1) = false := bne_eq_false_iff_eq.mpr c31
      clear c31
      by_cases c32 : t349 < (wrap64 (a2 - 1))
      ·rw [if_pos c32] at H
       have c32b0 : decide (t349 < (wrap64 (a2 - 1))) = true := decide_eq_true c32
       clear c32
       obtain rfl := Option.some.inj H
       go_enter Tryd.func151, Tryd.ntmps151
       go_wp2_with (first | ((with_reducible refine gate_dst (N := 5) rfl ?_); refine hkBox (N := 5) (cs := #[.slice A1_0 l1_0.length c1_0]) (t := 26) ?_; intro gb347 hg w33 hbox hb; have n_ := hkA (hkU HB hb) (hkA (Aside0.mk (hbox)) (hkA (hkG hg (hkS HB)) (hkG hg (hkS HB)))); clear HB; obtain ⟨HB, BK347, GW347, GE347⟩ := n_; clear hb hbox hg; obtain ⟨hcz34_0, hfz34_0⟩ := hkc1 BK347) | ((with_reducible refine gate_callee (f := 73) rfl ?_); refine hkGo (N := some 14) Tryd.func73 #[.agg #[.slice A1_0 l1_0.length c1_0], .int .i64 (wrap64 (a2 - 1))] ?_; (with_reducible refine (spec_l2bit.calls _ _ l1_0 (wrap64 (a2 - 1)) t348 _ ?side1 ?side2 A5.out).mono ?_); (case side1 => exact hkC ((Kd.C_below HR1_0.out HB.out))); (case side2 => exact HC1_0.out); rintro e w35 ⟨rfl, hb⟩; refine ⟨_, rfl, ?_⟩; have n_ := hkA (hkBb BK347 hb) (hkU HB hb); clear BK347 HB; obtain ⟨BK347, HB⟩ := n_; (try clear hb); obtain ⟨hcz36_0, hfz36_0⟩ := hkc1 BK347) | ((with_reducible refine gate_callee (f := 78) rfl ?_); refine hkGo (N := some 17) Tryd.func78 #[.agg #[.slice A1_0 l1_0.length c1_0]] ?_; (with_reducible refine (spec_l2trail.calls k _ _ l1_0 t349 _ ?side1 ?side2 A6.out).mono ?_); (case side1 => exact hkC ((Kd.C_below HR1_0.out HB.out))); (case side2 => exact HC1_0.out); rintro e w37 ⟨rfl, hb⟩; refine ⟨_, rfl, ?_⟩; have n_ := hkA (hkBb BK347 hb) (hkU HB hb); clear BK347 HB; obtain ⟨BK347, HB⟩ := n_; (try clear hb)))
       go_ret
       exact ⟨hkE, hkS HB⟩
      ·rw [if_neg c32] at H
       have c32b0 : decide (t349 < (wrap64 (a2 - 1))) = false := decide_eq_false c32
       clear c32
       replace H := hBi H
       obtain ⟨t350, A380, H⟩ := H
       replace H : (some (t350 == 1)) = some r := H
       have A38 := Aside0.mk A380
       clear A380
       obtain rfl := Option.some.inj H
       go_enter Tryd.func151, Tryd.ntmps151
       go_wp2_with (first | ((with_reducible refine gate_dst (N := 5) rfl ?_); refine hkBox (N := 5) (cs := #[.slice A1_0 l1_0.length c1_0]) (t := 26) ?_; intro gb347 hg w39 hbox hb; have n_ := hkA (hkU HB hb) (hkA (Aside0.mk (hbox)) (hkA (hkG hg (hkS HB)) (hkG hg (hkS HB)))); clear HB; obtain ⟨HB, BK347, GW347, GE347⟩ := n_; clear hb hbox hg; obtain ⟨hcz40_0, hfz40_0⟩ := hkc1 BK347) | ((with_reducible refine gate_callee (f := 73) rfl ?_); refine hkGo (N := some 14) Tryd.func73 #[.agg #[.slice A1_0 l1_0.length c1_0], .int .i64 (wrap64 (a2 - 1))] ?_; (with_reducible refine (spec_l2bit.calls _ _ l1_0 (wrap64 (a2 - 1)) t348 _ ?side1 ?side2 A5.out).mono ?_); (case side1 => exact hkC ((Kd.C_below HR1_0.out HB.out))); (case side2 => exact HC1_0.out); rintro e w41 ⟨rfl, hb⟩; refine ⟨_, rfl, ?_⟩; have n_ := hkA (hkBb BK347 hb) (hkU HB hb); clear BK347 HB; obtain ⟨BK347, HB⟩ := n_; (try clear hb); obtain ⟨hcz42_0, hfz42_0⟩ := hkc1 BK347) | ((with_reducible refine gate_callee (f := 78) rfl ?_); refine hkGo (N := some 17) Tryd.func78 #[.agg #[.slice A1_0 l1_0.length c1_0]] ?_; (with_reducible refine (spec_l2trail.calls k _ _ l1_0 t349 _ ?side1 ?side2 A6.out).mono ?_); (case side1 => exact hkC ((Kd.C_below HR1_0.out HB.out))); (case side2 => exact HC1_0.out); rintro e w43 ⟨rfl, hb⟩; refine ⟨_, rfl, ?_⟩; have n_ := hkA (hkBb BK347 hb) (hkU HB hb); clear BK347 HB; obtain ⟨BK347, HB⟩ := n_; (try clear hb); obtain ⟨hcz44_0, hfz44_0⟩ := hkc1 BK347) | (go_at_call 73; (with_reducible refine (spec_l2bit.calls _ _ l1_0 a2 t350 _ ?side1 ?side2 A38.out).mono ?_); (case side1 => exact hkC ((Kd.C_below HR1_0.out HB.out))); (case side2 => exact HC1_0.out); rintro e w45 ⟨rfl, hb⟩; have n_ := hkA (hkBb BK347 hb) (hkU HB hb); clear BK347 HB; obtain ⟨BK347, HB⟩ := n_; (try clear hb)))
       go_ret
       exact ⟨hkE, hkS HB⟩
     ·rw [if_neg c31] at H
      have c31b0 : (t348 == 1) = false := beq_eq_false_iff_ne.mpr c31
      have c31b1 : (t348 != 1) = true := bne_iff_ne.mpr c31
      obtain rfl := Option.some.inj H
      go_enter Tryd.func151, Tryd.ntmps151
      go_wp2_with (first | ((with_reducible refine gate_dst (N := 5) rfl ?_); refine hkBox (N := 5) (cs := #[.slice A1_0 l1_0.length c1_0]) (t := 26) ?_; intro gb347 hg w46 hbox hb; have n_ := hkA (hkU HB hb) (hkA (Aside0.mk (hbox)) (hkA (hkG hg (hkS HB)) (hkG hg (hkS HB)))); clear HB; obtain ⟨HB, BK347, GW347, GE347⟩ := n_; clear hb hbox hg; obtain ⟨hcz47_0, hfz47_0⟩ := hkc1 BK347) | ((with_reducible refine gate_callee (f := 73) rfl ?_); refine hkGo (N := some 14) Tryd.func73 #[.agg #[.slice A1_0 l1_0.length c1_0], .int .i64 (wrap64 (a2 - 1))] ?_; (with_reducible refine (spec_l2bit.calls _ _ l1_0 (wrap64 (a2 - 1)) t348 _ ?side1 ?side2 A5.out).mono ?_); (case side1 => exact hkC ((Kd.C_below HR1_0.out HB.out))); (case side2 => exact HC1_0.out); rintro e w48 ⟨rfl, hb⟩; refine ⟨_, rfl, ?_⟩; have n_ := hkA (hkBb BK347 hb) (hkU HB hb); clear BK347 HB; obtain ⟨BK347, HB⟩ := n_; (try clear hb); obtain ⟨hcz49_0, hfz49_0⟩ := hkc1 BK347) | ((with_reducible refine gate_callee (f := 78) rfl ?_); refine hkGo (N := some 17) Tryd.func78 #[.agg #[.slice A1_0 l1_0.length c1_0]] ?_; (with_reducible refine (spec_l2trail.calls k _ _ l1_0 t349 _ ?side1 ?side2 A6.out).mono ?_); (case side1 => exact hkC ((Kd.C_below HR1_0.out HB.out))); (case side2 => exact HC1_0.out); rintro e w50 ⟨rfl, hb⟩; refine ⟨_, rfl, ?_⟩; have n_ := hkA (hkBb BK347 hb) (hkU HB hb); clear BK347 HB; obtain ⟨BK347, HB⟩ := n_; (try clear hb)))
      go_ret
      exact ⟨hkE, hkS HB⟩

end Go.Proofs.YtgjpahofopoflaaDoor.PFnFlOrder
