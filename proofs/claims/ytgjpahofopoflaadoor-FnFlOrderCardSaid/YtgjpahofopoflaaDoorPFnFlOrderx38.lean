-- Written by our own driver (wip/hand/hprint.py) over the seat's translation.
import Derived.Test.YtgjpahofopoflaaDoorPFnFlOrderx0
import Derived.Test.YtgjpahofopoflaaDoorPFnFlOrderx6
import Derived.Test.YtgjpahofopoflaaDoorPFnFlOrderx27
import Derived.Test.YtgjpahofopoflaaDoorPFnFlOrderx33
import Derived.Test.YtgjpahofopoflaaDoorPFnFlOrderx37
namespace Go.Proofs.YtgjpahofopoflaaDoor.PFnFlOrder
open Go.RowKit Go.Proofs.YtgjpahofopoflaaDoorW.PrintWords Go.Proofs.YtgjpahofopoflaaDoorW.PrintLast Go.Proofs.YtgjpahofopoflaaDoorW.PrintMore
attribute [local go_sem] max2_int min2_int max_two min_two max_three min_three max_four min_four   -- for this text's walks alone
set_option linter.unusedVariables false
set_option linter.unusedSimpArgs false

/-! ### laws_FnFlOrder: function 7 -/
def laws_FnFlOrder.f (k : Nat) (l0 : List Int) : Option (Bool) := (spec_DrawFlCmp.f k l0).bind fun bt730 => ((impl_FlCmp.f k bt730.1 bt730.2.1 bt730.2.2.1 bt730.2.2.2.1 bt730.2.2.2.2.1 bt730.2.2.2.2.2.1 bt730.2.2.2.2.2.2.1 bt730.2.2.2.2.2.2.2).bind fun bt740 => ((impl_FlCmp.f k bt730.2.2.2.2.1 bt730.2.2.2.2.2.1 bt730.2.2.2.2.2.2.1 bt730.2.2.2.2.2.2.2 bt730.1 bt730.2.1 bt730.2.2.1 bt730.2.2.2.1).bind fun bt742 => ((impl_FlDy.f k bt730.1 bt730.2.1 bt730.2.2.1 bt730.2.2.2.1).bind fun bt744 => ((impl_FlDy.f k bt730.2.2.2.2.1 bt730.2.2.2.2.2.1 bt730.2.2.2.2.2.2.1 bt730.2.2.2.2.2.2.2).bind fun bt751 => (if bt744.2.2.2 = true then (if bt751.2.2.2 = true then (if bt740.2 = true then ((spec_DyCmp.f k bt744.1 bt744.2.1 bt744.2.2.1 bt751.1 bt751.2.1 bt751.2.2.1).bind fun t758 => (if bt740.1 = t758 then ((impl_FlCmp.f k 2 true 0 0 2 false 0 0).bind fun bt759 => (if (bt740.2 == bt742.2) = true then (if bt740.1 = (wrap64 (-bt742.1)) then (if bt759.2 = true then (some (bt759.1 == (-1))) else (some false)) else (some false)) else (some false))) else (some false))) else (some false)) else ((impl_FlCmp.f k 2 true 0 0 2 false 0 0).bind fun bt761 => (if (bt740.2 == bt742.2) = true then (if bt740.1 = (wrap64 (-bt742.1)) then (if bt761.2 = true then (some (bt761.1 == (-1))) else (some false)) else (some false)) else (some false)))) else ((impl_FlCmp.f k 2 true 0 0 2 false 0 0).bind fun bt763 => (if (bt740.2 == bt742.2) = true then (if bt740.1 = (wrap64 (-bt742.1)) then (if bt763.2 = true then (some (bt763.1 == (-1))) else (some false)) else (some false)) else (some false))))))))
theorem laws_FnFlOrder.mono : ∀ a0 k, LeO (laws_FnFlOrder.f k a0) (laws_FnFlOrder.f (k + 1) a0) := by
 intro a0 k
 unfold laws_FnFlOrder.f
 repeat' first
   | (with_reducible exact impl_FlCmp.mono _ _ _ _ _ _ _ _ _)
   | (with_reducible exact impl_FlDy.mono _ _ _ _ _)
   | (with_reducible exact spec_DrawFlCmp.mono _ _)
   | (with_reducible exact spec_DyCmp.mono _ _ _ _ _ _ _)
   | (with_reducible exact LeO.refl _)
   | (with_reducible exact LeO.none _)
   | (with_reducible refine LeO.ite ?_ ?_)
   | (with_reducible refine LeO.bind ?_ (fun _ => ?_))
   | exact impl_FlCmp.mono _ _ _ _ _ _ _ _ _
   | exact impl_FlDy.mono _ _ _ _ _
   | exact spec_DrawFlCmp.mono _ _
   | exact spec_DyCmp.mono _ _ _ _ _ _ _
   | exact LeO.none _
   | refine LeO.ite ?_ ?_
   | refine LeO.bind ?_ (fun _ => ?_)
set_option maxHeartbeats 8000000 in
set_option maxRecDepth 100000 in
theorem laws_FnFlOrder.calls (k : Nat) (A0 : Option Addr) (c0 : Nat) (l0 : List Int) (w : World) (hr0 : Kd.C (Kd.int .u8) w A0 l0.length l0) (hc0 : l0.length ≤ c0) (h : laws_FnFlOrder.f k l0 = some true) (hT : hTab w := by exact hTab_use (by assumption)) :
  Calls Tryd.prog 7 #[.slice A0 l0.length c0] w fun e w' => e = .returned (.bool true) ∧ Below w.heap.size w w' := by
 have HT0 := Aside0.mk hT
 clear hT
 have hu33 := Tryd.underlying33
 have hu30 := Tryd.underlying30
 have HR0 := Aside0.mk hr0
 have HC0 := Aside0.mk hc0
 clear hr0 hc0
 have HB := Aside0.mk (Below.refl w.heap.size w)
 have H : ((spec_DrawFlCmp.f k l0).bind fun bt730 => ((impl_FlCmp.f k bt730.1 bt730.2.1 bt730.2.2.1 bt730.2.2.2.1 bt730.2.2.2.2.1 bt730.2.2.2.2.2.1 bt730.2.2.2.2.2.2.1 bt730.2.2.2.2.2.2.2).bind fun bt740 => ((impl_FlCmp.f k bt730.2.2.2.2.1 bt730.2.2.2.2.2.1 bt730.2.2.2.2.2.2.1 bt730.2.2.2.2.2.2.2 bt730.1 bt730.2.1 bt730.2.2.1 bt730.2.2.2.1).bind fun bt742 => ((impl_FlDy.f k bt730.1 bt730.2.1 bt730.2.2.1 bt730.2.2.2.1).bind fun bt744 => ((impl_FlDy.f k bt730.2.2.2.2.1 bt730.2.2.2.2.2.1 bt730.2.2.2.2.2.2.1 bt730.2.2.2.2.2.2.2).bind fun bt751 => (if bt744.2.2.2 = true then (if bt751.2.2.2 = true then (if bt740.2 = true then ((spec_DyCmp.f k bt744.1 bt744.2.1 bt744.2.2.1 bt751.1 bt751.2.1 bt751.2.2.1).bind fun t758 => (if bt740.1 = t758 then ((impl_FlCmp.f k 2 true 0 0 2 false 0 0).bind fun bt759 => (if (bt740.2 == bt742.2) = true then (if bt740.1 = (wrap64 (-bt742.1)) then (if bt759.2 = true then (some (bt759.1 == (-1))) else (some false)) else (some false)) else (some false))) else (some false))) else (some false)) else ((impl_FlCmp.f k 2 true 0 0 2 false 0 0).bind fun bt761 => (if (bt740.2 == bt742.2) = true then (if bt740.1 = (wrap64 (-bt742.1)) then (if bt761.2 = true then (some (bt761.1 == (-1))) else (some false)) else (some false)) else (some false)))) else ((impl_FlCmp.f k 2 true 0 0 2 false 0 0).bind fun bt763 => (if (bt740.2 == bt742.2) = true then (if bt740.1 = (wrap64 (-bt742.1)) then (if bt763.2 = true then (some (bt763.1 == (-1))) else (some false)) else (some false)) else (some false))))))))) = some true := h
 clear h
 replace H := hBi H
 obtain ⟨⟨t730, t731, t732, t733, t734, t735, t736, t737⟩, A20, H⟩ := H
 replace H : ((impl_FlCmp.f k t730 t731 t732 t733 t734 t735 t736 t737).bind fun bt740 => ((impl_FlCmp.f k t734 t735 t736 t737 t730 t731 t732 t733).bind fun bt742 => ((impl_FlDy.f k t730 t731 t732 t733).bind fun bt744 => ((impl_FlDy.f k t734 t735 t736 t737).bind fun bt751 => (if bt744.2.2.2 = true then (if bt751.2.2.2 = true then (if bt740.2 = true then ((spec_DyCmp.f k bt744.1 bt744.2.1 bt744.2.2.1 bt751.1 bt751.2.1 bt751.2.2.1).bind fun t758 => (if bt740.1 = t758 then ((impl_FlCmp.f k 2 true 0 0 2 false 0 0).bind fun bt759 => (if (bt740.2 == bt742.2) = true then (if bt740.1 = (wrap64 (-bt742.1)) then (if bt759.2 = true then (some (bt759.1 == (-1))) else (some false)) else (some false)) else (some false))) else (some false))) else (some false)) else ((impl_FlCmp.f k 2 true 0 0 2 false 0 0).bind fun bt761 => (if (bt740.2 == bt742.2) = true then (if bt740.1 = (wrap64 (-bt742.1)) then (if bt761.2 = true then (some (bt761.1 == (-1))) else (some false)) else (some false)) else (some false)))) else ((impl_FlCmp.f k 2 true 0 0 2 false 0 0).bind fun bt763 => (if (bt740.2 == bt742.2) = true then (if bt740.1 = (wrap64 (-bt742.1)) then (if bt763.2 = true then (some (bt763.1 == (-1))) else (some false)) else (some false)) else (some false)))))))) = some true := H
 have A2 := Aside0.mk A20
 clear A20
 replace H := hBi H
 obtain ⟨⟨t740, t741⟩, A30, H⟩ := H
 replace H : ((impl_FlCmp.f k t734 t735 t736 t737 t730 t731 t732 t733).bind fun bt742 => ((impl_FlDy.f k t730 t731 t732 t733).bind fun bt744 => ((impl_FlDy.f k t734 t735 t736 t737).bind fun bt751 => (if bt744.2.2.2 = true then (if bt751.2.2.2 = true then (if t741 = true then ((spec_DyCmp.f k bt744.1 bt744.2.1 bt744.2.2.1 bt751.1 bt751.2.1 bt751.2.2.1).bind fun t758 => (if t740 = t758 then ((impl_FlCmp.f k 2 true 0 0 2 false 0 0).bind fun bt759 => (if (t741 == bt742.2) = true then (if t740 = (wrap64 (-bt742.1)) then (if bt759.2 = true then (some (bt759.1 == (-1))) else (some false)) else (some false)) else (some false))) else (some false))) else (some false)) else ((impl_FlCmp.f k 2 true 0 0 2 false 0 0).bind fun bt761 => (if (t741 == bt742.2) = true then (if t740 = (wrap64 (-bt742.1)) then (if bt761.2 = true then (some (bt761.1 == (-1))) else (some false)) else (some false)) else (some false)))) else ((impl_FlCmp.f k 2 true 0 0 2 false 0 0).bind fun bt763 => (if (t741 == bt742.2) = true then (if t740 = (wrap64 (-bt742.1)) then (if bt763.2 = true then (some (bt763.1 == (-1))) else (some false)) else (some false)) else (some false))))))) = some true := H
 have A3 := Aside0.mk A30
 clear A30
 replace H := hBi H
 obtain ⟨⟨t742, t743⟩, A40, H⟩ := H
 replace H : ((impl_FlDy.f k t730 t731 t732 t733).bind fun bt744 => ((impl_FlDy.f k t734 t735 t736 t737).bind fun bt751 => (if bt744.2.2.2 = true then (if bt751.2.2.2 = true then (if t741 = true then ((spec_DyCmp.f k bt744.1 bt744.2.1 bt744.2.2.1 bt751.1 bt751.2.1 bt751.2.2.1).bind fun t758 => (if t740 = t758 then ((impl_FlCmp.f k 2 true 0 0 2 false 0 0).bind fun bt759 => (if (t741 == t743) = true then (if t740 = (wrap64 (-t742)) then (if bt759.2 = true then (some (bt759.1 == (-1))) else (some false)) else (some false)) else (some false))) else (some false))) else (some false)) else ((impl_FlCmp.f k 2 true 0 0 2 false 0 0).bind fun bt761 => (if (t741 == t743) = true then (if t740 = (wrap64 (-t742)) then (if bt761.2 = true then (some (bt761.1 == (-1))) else (some false)) else (some false)) else (some false)))) else ((impl_FlCmp.f k 2 true 0 0 2 false 0 0).bind fun bt763 => (if (t741 == t743) = true then (if t740 = (wrap64 (-t742)) then (if bt763.2 = true then (some (bt763.1 == (-1))) else (some false)) else (some false)) else (some false)))))) = some true := H
 have A4 := Aside0.mk A40
 clear A40
 replace H := hBi H
 obtain ⟨⟨t744, t745, t748, t749⟩, A50, H⟩ := H
 replace H : ((impl_FlDy.f k t734 t735 t736 t737).bind fun bt751 => (if t749 = true then (if bt751.2.2.2 = true then (if t741 = true then ((spec_DyCmp.f k t744 t745 t748 bt751.1 bt751.2.1 bt751.2.2.1).bind fun t758 => (if t740 = t758 then ((impl_FlCmp.f k 2 true 0 0 2 false 0 0).bind fun bt759 => (if (t741 == t743) = true then (if t740 = (wrap64 (-t742)) then (if bt759.2 = true then (some (bt759.1 == (-1))) else (some false)) else (some false)) else (some false))) else (some false))) else (some false)) else ((impl_FlCmp.f k 2 true 0 0 2 false 0 0).bind fun bt761 => (if (t741 == t743) = true then (if t740 = (wrap64 (-t742)) then (if bt761.2 = true then (some (bt761.1 == (-1))) else (some false)) else (some false)) else (some false)))) else ((impl_FlCmp.f k 2 true 0 0 2 false 0 0).bind fun bt763 => (if (t741 == t743) = true then (if t740 = (wrap64 (-t742)) then (if bt763.2 = true then (some (bt763.1 == (-1))) else (some false)) else (some false)) else (some false))))) = some true := H
 have A5 := Aside0.mk A50
 clear A50
 replace H := hBi H
 obtain ⟨⟨t751, t752, t755, t756⟩, A60, H⟩ := H
 replace H : (if t749 = true then (if t756 = true then (if t741 = true then ((spec_DyCmp.f k t744 t745 t748 t751 t752 t755).bind fun t758 => (if t740 = t758 then ((impl_FlCmp.f k 2 true 0 0 2 false 0 0).bind fun bt759 => (if (t741 == t743) = true then (if t740 = (wrap64 (-t742)) then (if bt759.2 = true then (some (bt759.1 == (-1))) else (some false)) else (some false)) else (some false))) else (some false))) else (some false)) else ((impl_FlCmp.f k 2 true 0 0 2 false 0 0).bind fun bt761 => (if (t741 == t743) = true then (if t740 = (wrap64 (-t742)) then (if bt761.2 = true then (some (bt761.1 == (-1))) else (some false)) else (some false)) else (some false)))) else ((impl_FlCmp.f k 2 true 0 0 2 false 0 0).bind fun bt763 => (if (t741 == t743) = true then (if t740 = (wrap64 (-t742)) then (if bt763.2 = true then (some (bt763.1 == (-1))) else (some false)) else (some false)) else (some false)))) = some true := H
 have A6 := Aside0.mk A60
 clear A60
 by_cases c7 : t749 = true
 ·subst c7
  have H1 : (if t756 = true then (if t741 = true then ((spec_DyCmp.f k t744 t745 t748 t751 t752 t755).bind fun t758 => (if t740 = t758 then ((impl_FlCmp.f k 2 true 0 0 2 false 0 0).bind fun bt759 => (if (t741 == t743) = true then (if t740 = (wrap64 (-t742)) then (if bt759.2 = true then (some (bt759.1 == (-1))) else (some false)) else (some false)) else (some false))) else (some false))) else (some false)) else ((impl_FlCmp.f k 2 true 0 0 2 false 0 0).bind fun bt761 => (if (t741 == t743) = true then (if t740 = (wrap64 (-t742)) then (if bt761.2 = true then (some (bt761.1 == (-1))) else (some false)) else (some false)) else (some false)))) = some true := by rw [if_pos rfl] at H; exact H
  clear H
  have H := H1
  clear H1
  by_cases c8 : t756 = true
  ·subst c8
   have H1 : (if t741 = true then ((spec_DyCmp.f k t744 t745 t748 t751 t752 t755).bind fun t758 => (if t740 = t758 then ((impl_FlCmp.f k 2 true 0 0 2 false 0 0).bind fun bt759 => (if (t741 == t743) = true then (if t740 = (wrap64 (-t742)) then (if bt759.2 = true then (some (bt759.1 == (-1))) else (some false)) else (some false)) else (some false))) else (some false))) else (some false)) = some true := by rw [if_pos rfl] at H; exact H
   clear H
   have H := H1
   clear H1
   by_cases c9 : t741 = true
   ·subst c9
    have H1 : ((spec_DyCmp.f k t744 t745 t748 t751 t752 t755).bind fun t758 => (if t740 = t758 then ((impl_FlCmp.f k 2 true 0 0 2 false 0 0).bind fun bt759 => (if (true == t743) = true then (if t740 = (wrap64 (-t742)) then (if bt759.2 = true then (some (bt759.1 == (-1))) else (some false)) else (some false)) else (some false))) else (some false))) = some true := by rw [if_pos rfl] at H; exact H
    clear H
    have H := H1
    clear H1
    replace H := hBi H
    obtain ⟨t758, A100, H⟩ := H
    replace H : (if t740 = t758 then ((impl_FlCmp.f k 2 true 0 0 2 false 0 0).bind fun bt759 => (if (true == t743) = true then (if t740 = (wrap64 (-t742)) then (if bt759.2 = true then (some (bt759.1 == (-1))) else (some false)) else (some false)) else (some false))) else (some false)) = some true := H
    have A10 := Aside0.mk A100
    clear A100
    by_cases c11 : t740 = t758
    ·rw [if_pos c11] at H
     have c11b0 : (t740 == t758) = true := beq_iff_eq.mpr c11
     have c11b1 : (t740 != t758) = false := bne_eq_false_iff_eq.mpr c11
     clear c11
     replace H := hBi H
     obtain ⟨⟨t759, t760⟩, A120, H⟩ := H
     replace H : (if (true == t743) = true then (if t740 = (wrap64 (-t742)) then (if t760 = true then (some (t759 == (-1))) else (some false)) else (some false)) else (some false)) = some true := H
     have A12 := Aside0.mk A120
     clear A120
     by_cases c13 : (true == t743) = true
     ·rw [if_pos c13] at H
      have c13b0 : (true == t743) = true := c13
      (try (have c13b1 : decide (true = t743) = true := by simpa using c13))
      (try (have c13b2 : (true == t743) = true := by simpa using c13))
      clear c13
      by_cases c14 : t740 = (wrap64 (-t742))
      ·rw [if_pos c14] at H
       have c14b0 : (t740 == (wrap64 (-t742))) = true := beq_iff_eq.mpr c14
       have c14b1 : (t740 != (wrap64 (-t742))) = false := bne_eq_false_iff_eq.mpr c14
       clear c14
       by_cases c15 : t760 = true
       ·subst c15
        have H1 : (some (t759 == (-1))) = some true := by rw [if_pos rfl] at H; exact H
        clear H
        have H := H1
        clear H1
        have hr_ := Option.some.inj H
        clear H
        go_enter Tryd.func7, Tryd.ntmps7
        go_wp2_with (first | ((with_reducible refine gate_callee (f := 33) rfl ?_); refine hkGo (N := some 17) Tryd.func33 #[.slice A0 l0.length c0] ?_; (with_reducible refine (spec_DrawFlCmp.calls k _ _ l0 t730 t731 t732 t733 t734 t735 t736 t737 _ ?side1 ?side2 A2.out).mono ?_); (case side1 => exact hkC (HR0.out)); (case side2 => exact HC0.out); rintro e w16 ⟨rfl, hb⟩; refine ⟨_, rfl, ?_⟩; have n0_ := hkU HB hb; clear HB; have HB := n0_; clear n0_; (try clear hb); (try clear hk)) | ((with_reducible refine gate_dst (N := 3) rfl ?_); refine hkBox (N := 3) (cs := #[.int .i64 0, .bool false, .int .i64 0, .int .i64 0]) (t := 33) ?_; intro gb738 hg w17 hbox hb; have n_ := hkA (hkU HB hb) (hkA (Aside0.mk (hbox)) (hkA (hkG hg (hkS HB)) (hkG hg (hkS HB)))); clear HB; obtain ⟨HB, BK738, GW738, GE738⟩ := n_; clear hb hbox hg) | ((with_reducible refine gate_dst (N := 4) rfl ?_); refine hkBox (N := 4) (cs := #[.int .i64 0, .bool false, .int .i64 0, .int .i64 0]) (t := 33) ?_; intro gb739 hg w18 hbox hb; have n_ := hkA (hkBb BK738 hb) (hkA (hkU HB hb) (hkA (Aside0.mk (hbox)) (hkA (hkG hg (hkS HB)) (hkA (hkG hg (hkS HB)) (hkA (hkN hg BK738) (hkM hg BK738)))))); clear BK738 HB; obtain ⟨BK738, HB, BK739, GW739, GE739, NB738_739, NB739_738⟩ := n_; clear hb hbox hg; have hnb19 := NB738_739.out; have hnc19 := NB739_738.out; obtain ⟨hcz20_0, hfz20_0, hcz20_1, hfz20_1, hcz20_2, hfz20_2, hcz20_3, hfz20_3⟩ := hkc4 BK738; obtain ⟨hcz21_0, hfz21_0, hcz21_1, hfz21_1, hcz21_2, hfz21_2, hcz21_3, hfz21_3⟩ := hkc4 BK739) | ((with_reducible refine gate_callee (f := 34) rfl ?_); refine hkGo (N := some 23) Tryd.func34 #[.agg #[.int .i64 t730, .bool t731, .int .i64 t732, .int .i64 t733], .agg #[.int .i64 t734, .bool t735, .int .i64 t736, .int .i64 t737]] ?_; (with_reducible refine (impl_FlCmp.calls k t730 t731 t732 t733 t734 t735 t736 t737 t740 true _ A3.out).mono ?_); rintro e w22 ⟨rfl, hb⟩; refine ⟨_, rfl, ?_⟩; have n_ := hkA (Aside0.mk (blk_below (g := gb738) (o := .cells #[.int .i64 t730, .bool t731, .int .i64 t732, .int .i64 t733] 33 (0, 0)) hkPp hb)) (hkA (Aside0.mk (blk_below (g := gb739) (o := .cells #[.int .i64 t734, .bool t735, .int .i64 t736, .int .i64 t737] 33 (0, 0)) hkPp hb)) (hkU HB hb)); clear BK738 BK739 HB; obtain ⟨BK738, BK739, HB⟩ := n_; (try clear hb); (try clear hk); obtain ⟨hcz23_0, hfz23_0, hcz23_1, hfz23_1, hcz23_2, hfz23_2, hcz23_3, hfz23_3⟩ := hkc4 BK739; obtain ⟨hcz24_0, hfz24_0, hcz24_1, hfz24_1, hcz24_2, hfz24_2, hcz24_3, hfz24_3⟩ := hkc4 BK738) | ((with_reducible refine gate_callee (f := 34) rfl ?_); refine hkGo (N := some 29) Tryd.func34 #[.agg #[.int .i64 t734, .bool t735, .int .i64 t736, .int .i64 t737], .agg #[.int .i64 t730, .bool t731, .int .i64 t732, .int .i64 t733]] ?_; (with_reducible refine (impl_FlCmp.calls k t734 t735 t736 t737 t730 t731 t732 t733 t742 t743 _ A4.out).mono ?_); rintro e w25 ⟨rfl, hb⟩; refine ⟨_, rfl, ?_⟩; have n_ := hkA (hkBb BK738 hb) (hkA (hkBb BK739 hb) (hkU HB hb)); clear BK738 BK739 HB; obtain ⟨BK738, BK739, HB⟩ := n_; (try clear hb); (try clear hk); obtain ⟨hcz26_0, hfz26_0, hcz26_1, hfz26_1, hcz26_2, hfz26_2, hcz26_3, hfz26_3⟩ := hkc4 BK738) | ((with_reducible refine gate_callee (f := 10) rfl ?_); refine hkGo (N := some 34) Tryd.func10 #[.agg #[.int .i64 t730, .bool t731, .int .i64 t732, .int .i64 t733]] ?_; (with_reducible refine (impl_FlDy.calls k t730 t731 t732 t733 t744 t745 t748 true _ A5.out).mono ?_); rintro e w27 ⟨v746, rfl, ho0, hb⟩; refine ⟨_, rfl, ?_⟩; have n_ := hkA (Aside0.mk (Kd.R_lower ho0 (below_size (hkS HB)))) (hkA (hkBb BK738 hb) (hkA (hkBb BK739 hb) (hkU HB hb))); clear BK738 BK739 HB; obtain ⟨HO747, BK738, BK739, HB⟩ := n_; (try clear hb); (try clear hk); (try clear ho0)) | ((with_reducible refine gate_dst (N := 9) rfl ?_); refine hkBox (N := 9) (cs := #[.bool false, .slice none 0 0, .int .i64 0]) (t := 30) ?_; intro gb750 hg w28 hbox hb; have n_ := hkA (hkRb HO747 hb) (hkA (hkBb BK738 hb) (hkA (hkBb BK739 hb) (hkA (hkU HB hb) (hkA (Aside0.mk (hbox)) (hkA (hkG hg (hkS HB)) (hkA (hkG hg (hkS HB)) (hkA (hkN hg BK738) (hkA (hkM hg BK738) (hkA (hkN hg BK739) (hkM hg BK739)))))))))); clear HO747 BK738 BK739 HB; obtain ⟨HO747, BK738, BK739, HB, BK750, GW750, GE750, NB738_750, NB750_738, NB739_750, NB750_739⟩ := n_; clear hb hbox hg; have hnb29 := NB750_738.out; have hnc29 := NB738_750.out; have hnb30 := NB750_739.out; have hnc30 := NB739_750.out; obtain ⟨hcz31_0, hfz31_0, hcz31_1, hfz31_1, hcz31_2, hfz31_2⟩ := hkc3 BK750; obtain ⟨Ao32, co32, eo32⟩ := Kd.R_slice HO747.out; subst eo32; obtain ⟨hcz33_0, hfz33_0, hcz33_1, hfz33_1, hcz33_2, hfz33_2, hcz33_3, hfz33_3⟩ := hkc4 BK739) | ((with_reducible refine gate_callee (f := 10) rfl ?_); refine hkGo (N := some 39) Tryd.func10 #[.agg #[.int .i64 t734, .bool t735, .int .i64 t736, .int .i64 t737]] ?_; (with_reducible refine (impl_FlDy.calls k t734 t735 t736 t737 t751 t752 t755 true _ A6.out).mono ?_); rintro e w34 ⟨v753, rfl, ho0, hb⟩; refine ⟨_, rfl, ?_⟩; have n_ := hkA (Aside0.mk (Kd.R_elder' (by (with_reducible repeat (first | apply Kd.R_alloc | apply Kd.R_drewN | apply Kd.R_drew)); exact (Kd.R_mono (Kd.R_far (p := ⟨gb750, 2, none⟩) (Kd.R_far (p := ⟨gb750, 1, none⟩) (Kd.R_far (p := ⟨gb750, 0, none⟩) (Kd.R_types HO747.out BK750.out (by decide)) (fun _ hk => hk.2) (.bool t744)) (fun _ hk => hk.2) (.slice Ao32 t745.length co32)) (fun _ hk => hk.2) (.int .i64 t748)) (fun _ h_ => h_.1))) (Kd.R_base ho0) hb)) (hkA (Aside0.mk (Kd.R_lower (Kd.R_new' ho0 (Kd.R_lt (by (with_reducible repeat (first | apply Kd.R_alloc | apply Kd.R_drewN | apply Kd.R_drew)); exact (Kd.R_mono (Kd.R_far (p := ⟨gb750, 2, none⟩) (Kd.R_far (p := ⟨gb750, 1, none⟩) (Kd.R_far (p := ⟨gb750, 0, none⟩) (Kd.R_types HO747.out BK750.out (by decide)) (fun _ hk => hk.2) (.bool t744)) (fun _ hk => hk.2) (.slice Ao32 t745.length co32)) (fun _ hk => hk.2) (.int .i64 t748)) (fun _ h_ => h_.1))))) (below_size (hkS HB)))) (hkA (Aside0.mk (blk_below (g := gb738) (o := .cells #[.int .i64 t730, .bool t731, .int .i64 t732, .int .i64 t733] 33 (0, 0)) hkPp hb)) (hkA (Aside0.mk (blk_below (g := gb739) (o := .cells #[.int .i64 t734, .bool t735, .int .i64 t736, .int .i64 t737] 33 (0, 0)) hkPp hb)) (hkA (Aside0.mk (blk_below (g := gb750) (o := .cells #[.bool t744, .slice Ao32 t745.length co32, .int .i64 t748] 30 (0, 0)) hkPp hb)) (hkU HB hb))))); clear HO747 BK738 BK739 BK750 HB; obtain ⟨HO747, HO754, BK738, BK739, BK750, HB⟩ := n_; (try clear hb); (try clear hk); (try clear ho0)) | ((with_reducible refine gate_dst (N := 11) rfl ?_); refine hkBox (N := 11) (cs := #[.bool false, .slice none 0 0, .int .i64 0]) (t := 30) ?_; intro gb757 hg w35 hbox hb; have n_ := hkA (hkRb HO747 hb) (hkA (hkRb HO754 hb) (hkA (hkBb BK738 hb) (hkA (hkBb BK739 hb) (hkA (hkBb BK750 hb) (hkA (hkU HB hb) (hkA (Aside0.mk (hbox)) (hkA (hkG hg (hkS HB)) (hkA (hkG hg (hkS HB)) (hkA (hkN hg BK738) (hkA (hkM hg BK738) (hkA (hkN hg BK739) (hkA (hkM hg BK739) (hkA (hkN hg BK750) (hkM hg BK750)))))))))))))); clear HO747 HO754 BK738 BK739 BK750 HB; obtain ⟨HO747, HO754, BK738, BK739, BK750, HB, BK757, GW757, GE757, NB738_757, NB757_738, NB739_757, NB757_739, NB750_757, NB757_750⟩ := n_; clear hb hbox hg; have hnb36 := NB757_738.out; have hnc36 := NB738_757.out; have hnb37 := NB757_739.out; have hnc37 := NB739_757.out; have hnb38 := NB757_750.out; have hnc38 := NB750_757.out; obtain ⟨hcz39_0, hfz39_0, hcz39_1, hfz39_1, hcz39_2, hfz39_2⟩ := hkc3 BK757; obtain ⟨Ao40, co40, eo40⟩ := Kd.R_slice HO754.out; subst eo40; obtain ⟨hcz41_0, hfz41_0, hcz41_1, hfz41_1, hcz41_2, hfz41_2⟩ := hkc3 BK750) | (go_at_call 35; (with_reducible refine (spec_DyCmp.calls k t744 _ _ t745 t748 t751 _ _ t752 t755 t758 _ ?side1 ?side2 ?side3 ?side4 A10.out).mono ?_); (case side1 => refine (Kd.R_reads' (e := 3) (base := w.heap.size) (ok := fun k_ => (True ∧ some k_ ≠ (.slice Ao40 t752.length co40 : Value).ownBlock)) (n := t745.length) (c := co32) ?_).2.2; exact (by (with_reducible repeat (first | apply Kd.R_alloc | apply Kd.R_drewN | apply Kd.R_drew)); exact (Kd.R_mono (Kd.R_far (p := ⟨gb757, 2, none⟩) (Kd.R_far (p := ⟨gb757, 1, none⟩) (Kd.R_far (p := ⟨gb757, 0, none⟩) (Kd.R_types HO747.out BK757.out (by decide)) (fun _ hk => hk.2) (.bool t751)) (fun _ hk => hk.2) (.slice Ao40 t752.length co40)) (fun _ hk => hk.2) (.int .i64 t755)) (fun _ h_ => h_.1)))); (case side2 => exact (Kd.R_reads' HO747.out).2.1); (case side3 => refine (Kd.R_reads' (e := 3) (base := w.heap.size) (ok := fun k_ => (True ∧ some k_ ≠ (.slice Ao32 t745.length co32 : Value).ownBlock)) (n := t752.length) (c := co40) ?_).2.2; exact (by (with_reducible repeat (first | apply Kd.R_alloc | apply Kd.R_drewN | apply Kd.R_drew)); exact (Kd.R_mono (Kd.R_far (p := ⟨gb757, 2, none⟩) (Kd.R_far (p := ⟨gb757, 1, none⟩) (Kd.R_far (p := ⟨gb757, 0, none⟩) (Kd.R_types HO754.out BK757.out (by decide)) (fun _ hk => hk.2) (.bool t751)) (fun _ hk => hk.2) (.slice Ao40 t752.length co40)) (fun _ hk => hk.2) (.int .i64 t755)) (fun _ h_ => h_.1)))); (case side4 => exact (Kd.R_reads' HO754.out).2.1); rintro e w42 ⟨rfl, hb⟩; have n_ := hkA (Aside0.mk (Kd.R_below (by (with_reducible repeat (first | apply Kd.R_alloc | apply Kd.R_drewN | apply Kd.R_drew)); exact (Kd.R_mono (Kd.R_far (p := ⟨gb757, 2, none⟩) (Kd.R_far (p := ⟨gb757, 1, none⟩) (Kd.R_far (p := ⟨gb757, 0, none⟩) (Kd.R_types HO747.out BK757.out (by decide)) (fun _ hk => hk.2) (.bool t751)) (fun _ hk => hk.2) (.slice Ao40 t752.length co40)) (fun _ hk => hk.2) (.int .i64 t755)) (fun _ h_ => h_.1))) hb)) (hkA (Aside0.mk (Kd.R_below (by (with_reducible repeat (first | apply Kd.R_alloc | apply Kd.R_drewN | apply Kd.R_drew)); exact (Kd.R_mono (Kd.R_far (p := ⟨gb757, 2, none⟩) (Kd.R_far (p := ⟨gb757, 1, none⟩) (Kd.R_far (p := ⟨gb757, 0, none⟩) (Kd.R_types HO754.out BK757.out (by decide)) (fun _ hk => hk.2) (.bool t751)) (fun _ hk => hk.2) (.slice Ao40 t752.length co40)) (fun _ hk => hk.2) (.int .i64 t755)) (fun _ h_ => h_.1))) hb)) (hkA (Aside0.mk (blk_below (g := gb738) (o := .cells #[.int .i64 t730, .bool t731, .int .i64 t732, .int .i64 t733] 33 (0, 0)) hkPp hb)) (hkA (Aside0.mk (blk_below (g := gb739) (o := .cells #[.int .i64 t734, .bool t735, .int .i64 t736, .int .i64 t737] 33 (0, 0)) hkPp hb)) (hkA (Aside0.mk (blk_below (g := gb750) (o := .cells #[.bool t744, .slice Ao32 t745.length co32, .int .i64 t748] 30 (0, 0)) hkPp hb)) (hkA (Aside0.mk (blk_below (g := gb757) (o := .cells #[.bool t751, .slice Ao40 t752.length co40, .int .i64 t755] 30 (0, 0)) hkPp hb)) (hkU HB hb)))))); clear HO747 HO754 BK738 BK739 BK750 BK757 HB; obtain ⟨HO747, HO754, BK738, BK739, BK750, BK757, HB⟩ := n_; (try clear hb); (try clear hk)) | ((with_reducible refine gate_callee (f := 34) rfl ?_); refine hkGo (N := some 60) Tryd.func34 #[.agg #[.int .i64 2, .bool true, .int .i64 0, .int .i64 0], .agg #[.int .i64 2, .bool false, .int .i64 0, .int .i64 0]] ?_; (with_reducible refine (impl_FlCmp.calls k 2 true 0 0 2 false 0 0 t759 true _ A12.out).mono ?_); rintro e w43 ⟨rfl, hb⟩; refine ⟨_, rfl, ?_⟩; have n_ := hkA (hkRb HO747 hb) (hkA (hkRb HO754 hb) (hkA (hkBb BK738 hb) (hkA (hkBb BK739 hb) (hkA (hkBb BK750 hb) (hkA (hkBb BK757 hb) (hkU HB hb)))))); clear HO747 HO754 BK738 BK739 BK750 BK757 HB; obtain ⟨HO747, HO754, BK738, BK739, BK750, BK757, HB⟩ := n_; (try clear hb); (try clear hk)))
        go_ret
        exact ⟨by first | rfl | (rw [hr_]; done) | (simp [errW_none, errW_some] <;> rfl) | (simp [*, errW_none, errW_some] <;> rfl), hkS HB⟩
       ·replace c15 := Bool.eq_false_iff.mpr c15
        subst c15
        have H1 : (some false) = some true := by rw [if_neg (show ¬ (false = true) by decide)] at H; exact H
        clear H
        have H := H1
        clear H1
        exact absurd (Option.some.inj H) (by decide)
      ·rw [if_neg c14] at H
       have c14b0 : (t740 == (wrap64 (-t742))) = false := beq_eq_false_iff_ne.mpr c14
       have c14b1 : (t740 != (wrap64 (-t742))) = true := bne_iff_ne.mpr c14
       exact absurd (Option.some.inj H) (by decide)
     ·rw [if_neg c13] at H
      have c13b0 : (true == t743) = false := by simpa using c13
      (try (have c13b1 : decide (true = t743) = false := by simpa using c13))
      (try (have c13b2 : (true == t743) = false := by simpa using c13))
      (try (have c13b3 : ¬ (true = t743) := by simpa using c13))
      clear c13
      exact absurd (Option.some.inj H) (by decide)
    ·rw [if_neg c11] at H
     have c11b0 : (t740 == t758) = false := beq_eq_false_iff_ne.mpr c11
     have c11b1 : (t740 != t758) = true := bne_iff_ne.mpr c11
     exact absurd (Option.some.inj H) (by decide)
   ·replace c9 := Bool.eq_false_iff.mpr c9
    subst c9
    have H1 : (some false) = some true := by rw [if_neg (show ¬ (false = true) by decide)] at H; exact H
    clear H
    have H := H1
    clear H1
    exact absurd (Option.some.inj H) (by decide)
  ·replace c8 := Bool.eq_false_iff.mpr c8
   subst c8
   have H1 : ((impl_FlCmp.f k 2 true 0 0 2 false 0 0).bind fun bt761 => (if (t741 == t743) = true then (if t740 = (wrap64 (-t742)) then (if bt761.2 = true then (some (bt761.1 == (-1))) else (some false)) else (some false)) else (some false))) = some true := by rw [if_neg (show ¬ (false = true) by decide)] at H; exact H
   clear H
   have H := H1
   clear H1
   replace H := hBi H
   obtain ⟨⟨t761, t762⟩, A1800, H⟩ := H
   replace H : (if (t741 == t743) = true then (if t740 = (wrap64 (-t742)) then (if t762 = true then (some (t761 == (-1))) else (some false)) else (some false)) else (some false)) = some true := H
   have A180 := Aside0.mk A1800
   clear A1800
   by_cases c181 : (t741 == t743) = true
   ·rw [if_pos c181] at H
    have c181b0 : (t741 == t743) = true := c181
    (try (have c181b1 : decide (t741 = t743) = true := by simpa using c181))
    (try (have c181b2 : (t741 == t743) = true := by simpa using c181))
    clear c181
    by_cases c182 : t740 = (wrap64 (-t742))
    ·rw [if_pos c182] at H
     have c182b0 : (t740 == (wrap64 (-t742))) = true := beq_iff_eq.mpr c182
     have c182b1 : (t740 != (wrap64 (-t742))) = false := bne_eq_false_iff_eq.mpr c182
     clear c182
     by_cases c183 : t762 = true
     ·subst c183
      have H1 : (some (t761 == (-1))) = some true := by rw [if_pos rfl] at H; exact H
      clear H
      have H := H1
      clear H1
      have hr_ := Option.some.inj H
      clear H
      go_enter Tryd.func7, Tryd.ntmps7
      go_wp2_with (first | ((with_reducible refine gate_callee (f := 33) rfl ?_); refine hkGo (N := some 17) Tryd.func33 #[.slice A0 l0.length c0] ?_; (with_reducible refine (spec_DrawFlCmp.calls k _ _ l0 t730 t731 t732 t733 t734 t735 t736 t737 _ ?side1 ?side2 A2.out).mono ?_); (case side1 => exact hkC (HR0.out)); (case side2 => exact HC0.out); rintro e w184 ⟨rfl, hb⟩; refine ⟨_, rfl, ?_⟩; have n0_ := hkU HB hb; clear HB; have HB := n0_; clear n0_; (try clear hb); (try clear hk)) | ((with_reducible refine gate_dst (N := 3) rfl ?_); refine hkBox (N := 3) (cs := #[.int .i64 0, .bool false, .int .i64 0, .int .i64 0]) (t := 33) ?_; intro gb738 hg w185 hbox hb; have n_ := hkA (hkU HB hb) (hkA (Aside0.mk (hbox)) (hkA (hkG hg (hkS HB)) (hkG hg (hkS HB)))); clear HB; obtain ⟨HB, BK738, GW738, GE738⟩ := n_; clear hb hbox hg) | ((with_reducible refine gate_dst (N := 4) rfl ?_); refine hkBox (N := 4) (cs := #[.int .i64 0, .bool false, .int .i64 0, .int .i64 0]) (t := 33) ?_; intro gb739 hg w186 hbox hb; have n_ := hkA (hkBb BK738 hb) (hkA (hkU HB hb) (hkA (Aside0.mk (hbox)) (hkA (hkG hg (hkS HB)) (hkA (hkG hg (hkS HB)) (hkA (hkN hg BK738) (hkM hg BK738)))))); clear BK738 HB; obtain ⟨BK738, HB, BK739, GW739, GE739, NB738_739, NB739_738⟩ := n_; clear hb hbox hg; have hnb187 := NB738_739.out; have hnc187 := NB739_738.out; obtain ⟨hcz188_0, hfz188_0, hcz188_1, hfz188_1, hcz188_2, hfz188_2, hcz188_3, hfz188_3⟩ := hkc4 BK738; obtain ⟨hcz189_0, hfz189_0, hcz189_1, hfz189_1, hcz189_2, hfz189_2, hcz189_3, hfz189_3⟩ := hkc4 BK739) | ((with_reducible refine gate_callee (f := 34) rfl ?_); refine hkGo (N := some 23) Tryd.func34 #[.agg #[.int .i64 t730, .bool t731, .int .i64 t732, .int .i64 t733], .agg #[.int .i64 t734, .bool t735, .int .i64 t736, .int .i64 t737]] ?_; (with_reducible refine (impl_FlCmp.calls k t730 t731 t732 t733 t734 t735 t736 t737 t740 t741 _ A3.out).mono ?_); rintro e w190 ⟨rfl, hb⟩; refine ⟨_, rfl, ?_⟩; have n_ := hkA (Aside0.mk (blk_below (g := gb738) (o := .cells #[.int .i64 t730, .bool t731, .int .i64 t732, .int .i64 t733] 33 (0, 0)) hkPp hb)) (hkA (Aside0.mk (blk_below (g := gb739) (o := .cells #[.int .i64 t734, .bool t735, .int .i64 t736, .int .i64 t737] 33 (0, 0)) hkPp hb)) (hkU HB hb)); clear BK738 BK739 HB; obtain ⟨BK738, BK739, HB⟩ := n_; (try clear hb); (try clear hk); obtain ⟨hcz191_0, hfz191_0, hcz191_1, hfz191_1, hcz191_2, hfz191_2, hcz191_3, hfz191_3⟩ := hkc4 BK739; obtain ⟨hcz192_0, hfz192_0, hcz192_1, hfz192_1, hcz192_2, hfz192_2, hcz192_3, hfz192_3⟩ := hkc4 BK738) | ((with_reducible refine gate_callee (f := 34) rfl ?_); refine hkGo (N := some 29) Tryd.func34 #[.agg #[.int .i64 t734, .bool t735, .int .i64 t736, .int .i64 t737], .agg #[.int .i64 t730, .bool t731, .int .i64 t732, .int .i64 t733]] ?_; (with_reducible refine (impl_FlCmp.calls k t734 t735 t736 t737 t730 t731 t732 t733 t742 t743 _ A4.out).mono ?_); rintro e w193 ⟨rfl, hb⟩; refine ⟨_, rfl, ?_⟩; have n_ := hkA (hkBb BK738 hb) (hkA (hkBb BK739 hb) (hkU HB hb)); clear BK738 BK739 HB; obtain ⟨BK738, BK739, HB⟩ := n_; (try clear hb); (try clear hk); obtain ⟨hcz194_0, hfz194_0, hcz194_1, hfz194_1, hcz194_2, hfz194_2, hcz194_3, hfz194_3⟩ := hkc4 BK738) | ((with_reducible refine gate_callee (f := 10) rfl ?_); refine hkGo (N := some 34) Tryd.func10 #[.agg #[.int .i64 t730, .bool t731, .int .i64 t732, .int .i64 t733]] ?_; (with_reducible refine (impl_FlDy.calls k t730 t731 t732 t733 t744 t745 t748 true _ A5.out).mono ?_); rintro e w195 ⟨v746, rfl, ho0, hb⟩; refine ⟨_, rfl, ?_⟩; have n_ := hkA (Aside0.mk (Kd.R_lower ho0 (below_size (hkS HB)))) (hkA (hkBb BK738 hb) (hkA (hkBb BK739 hb) (hkU HB hb))); clear BK738 BK739 HB; obtain ⟨HO747, BK738, BK739, HB⟩ := n_; (try clear hb); (try clear hk); (try clear ho0)) | ((with_reducible refine gate_dst (N := 9) rfl ?_); refine hkBox (N := 9) (cs := #[.bool false, .slice none 0 0, .int .i64 0]) (t := 30) ?_; intro gb750 hg w196 hbox hb; have n_ := hkA (hkRb HO747 hb) (hkA (hkBb BK738 hb) (hkA (hkBb BK739 hb) (hkA (hkU HB hb) (hkA (Aside0.mk (hbox)) (hkA (hkG hg (hkS HB)) (hkA (hkG hg (hkS HB)) (hkA (hkN hg BK738) (hkA (hkM hg BK738) (hkA (hkN hg BK739) (hkM hg BK739)))))))))); clear HO747 BK738 BK739 HB; obtain ⟨HO747, BK738, BK739, HB, BK750, GW750, GE750, NB738_750, NB750_738, NB739_750, NB750_739⟩ := n_; clear hb hbox hg; have hnb197 := NB750_738.out; have hnc197 := NB738_750.out; have hnb198 := NB750_739.out; have hnc198 := NB739_750.out; obtain ⟨hcz199_0, hfz199_0, hcz199_1, hfz199_1, hcz199_2, hfz199_2⟩ := hkc3 BK750; obtain ⟨Ao200, co200, eo200⟩ := Kd.R_slice HO747.out; subst eo200; obtain ⟨hcz201_0, hfz201_0, hcz201_1, hfz201_1, hcz201_2, hfz201_2, hcz201_3, hfz201_3⟩ := hkc4 BK739) | ((with_reducible refine gate_callee (f := 10) rfl ?_); refine hkGo (N := some 39) Tryd.func10 #[.agg #[.int .i64 t734, .bool t735, .int .i64 t736, .int .i64 t737]] ?_; (with_reducible refine (impl_FlDy.calls k t734 t735 t736 t737 t751 t752 t755 false _ A6.out).mono ?_); rintro e w202 ⟨v753, rfl, ho0, hb⟩; refine ⟨_, rfl, ?_⟩; have n_ := hkA (Aside0.mk (Kd.R_elder' (by (with_reducible repeat (first | apply Kd.R_alloc | apply Kd.R_drewN | apply Kd.R_drew)); exact (Kd.R_mono (Kd.R_far (p := ⟨gb750, 2, none⟩) (Kd.R_far (p := ⟨gb750, 1, none⟩) (Kd.R_far (p := ⟨gb750, 0, none⟩) (Kd.R_types HO747.out BK750.out (by decide)) (fun _ hk => hk.2) (.bool t744)) (fun _ hk => hk.2) (.slice Ao200 t745.length co200)) (fun _ hk => hk.2) (.int .i64 t748)) (fun _ h_ => h_.1))) (Kd.R_base ho0) hb)) (hkA (Aside0.mk (Kd.R_lower (Kd.R_new' ho0 (Kd.R_lt (by (with_reducible repeat (first | apply Kd.R_alloc | apply Kd.R_drewN | apply Kd.R_drew)); exact (Kd.R_mono (Kd.R_far (p := ⟨gb750, 2, none⟩) (Kd.R_far (p := ⟨gb750, 1, none⟩) (Kd.R_far (p := ⟨gb750, 0, none⟩) (Kd.R_types HO747.out BK750.out (by decide)) (fun _ hk => hk.2) (.bool t744)) (fun _ hk => hk.2) (.slice Ao200 t745.length co200)) (fun _ hk => hk.2) (.int .i64 t748)) (fun _ h_ => h_.1))))) (below_size (hkS HB)))) (hkA (Aside0.mk (blk_below (g := gb738) (o := .cells #[.int .i64 t730, .bool t731, .int .i64 t732, .int .i64 t733] 33 (0, 0)) hkPp hb)) (hkA (Aside0.mk (blk_below (g := gb739) (o := .cells #[.int .i64 t734, .bool t735, .int .i64 t736, .int .i64 t737] 33 (0, 0)) hkPp hb)) (hkA (Aside0.mk (blk_below (g := gb750) (o := .cells #[.bool t744, .slice Ao200 t745.length co200, .int .i64 t748] 30 (0, 0)) hkPp hb)) (hkU HB hb))))); clear HO747 BK738 BK739 BK750 HB; obtain ⟨HO747, HO754, BK738, BK739, BK750, HB⟩ := n_; (try clear hb); (try clear hk); (try clear ho0)) | ((with_reducible refine gate_dst (N := 11) rfl ?_); refine hkBox (N := 11) (cs := #[.bool false, .slice none 0 0, .int .i64 0]) (t := 30) ?_; intro gb757 hg w203 hbox hb; have n_ := hkA (hkRb HO747 hb) (hkA (hkRb HO754 hb) (hkA (hkBb BK738 hb) (hkA (hkBb BK739 hb) (hkA (hkBb BK750 hb) (hkA (hkU HB hb) (hkA (Aside0.mk (hbox)) (hkA (hkG hg (hkS HB)) (hkA (hkG hg (hkS HB)) (hkA (hkN hg BK738) (hkA (hkM hg BK738) (hkA (hkN hg BK739) (hkA (hkM hg BK739) (hkA (hkN hg BK750) (hkM hg BK750)))))))))))))); clear HO747 HO754 BK738 BK739 BK750 HB; obtain ⟨HO747, HO754, BK738, BK739, BK750, HB, BK757, GW757, GE757, NB738_757, NB757_738, NB739_757, NB757_739, NB750_757, NB757_750⟩ := n_; clear hb hbox hg; have hnb204 := NB757_738.out; have hnc204 := NB738_757.out; have hnb205 := NB757_739.out; have hnc205 := NB739_757.out; have hnb206 := NB757_750.out; have hnc206 := NB750_757.out; obtain ⟨hcz207_0, hfz207_0, hcz207_1, hfz207_1, hcz207_2, hfz207_2⟩ := hkc3 BK757; obtain ⟨Ao208, co208, eo208⟩ := Kd.R_slice HO754.out; subst eo208) | ((with_reducible refine gate_callee (f := 34) rfl ?_); refine hkGo (N := some 60) Tryd.func34 #[.agg #[.int .i64 2, .bool true, .int .i64 0, .int .i64 0], .agg #[.int .i64 2, .bool false, .int .i64 0, .int .i64 0]] ?_; (with_reducible refine (impl_FlCmp.calls k 2 true 0 0 2 false 0 0 t761 true _ A180.out).mono ?_); rintro e w209 ⟨rfl, hb⟩; refine ⟨_, rfl, ?_⟩; have n_ := hkA (Aside0.mk (Kd.R_below (by (with_reducible repeat (first | apply Kd.R_alloc | apply Kd.R_drewN | apply Kd.R_drew)); exact (Kd.R_mono (Kd.R_far (p := ⟨gb757, 2, none⟩) (Kd.R_far (p := ⟨gb757, 1, none⟩) (Kd.R_far (p := ⟨gb757, 0, none⟩) (Kd.R_types HO747.out BK757.out (by decide)) (fun _ hk => hk.2) (.bool t751)) (fun _ hk => hk.2) (.slice Ao208 t752.length co208)) (fun _ hk => hk.2) (.int .i64 t755)) (fun _ h_ => h_.1))) hb)) (hkA (Aside0.mk (Kd.R_below (by (with_reducible repeat (first | apply Kd.R_alloc | apply Kd.R_drewN | apply Kd.R_drew)); exact (Kd.R_mono (Kd.R_far (p := ⟨gb757, 2, none⟩) (Kd.R_far (p := ⟨gb757, 1, none⟩) (Kd.R_far (p := ⟨gb757, 0, none⟩) (Kd.R_types HO754.out BK757.out (by decide)) (fun _ hk => hk.2) (.bool t751)) (fun _ hk => hk.2) (.slice Ao208 t752.length co208)) (fun _ hk => hk.2) (.int .i64 t755)) (fun _ h_ => h_.1))) hb)) (hkA (Aside0.mk (blk_below (g := gb738) (o := .cells #[.int .i64 t730, .bool t731, .int .i64 t732, .int .i64 t733] 33 (0, 0)) hkPp hb)) (hkA (Aside0.mk (blk_below (g := gb739) (o := .cells #[.int .i64 t734, .bool t735, .int .i64 t736, .int .i64 t737] 33 (0, 0)) hkPp hb)) (hkA (Aside0.mk (blk_below (g := gb750) (o := .cells #[.bool t744, .slice Ao200 t745.length co200, .int .i64 t748] 30 (0, 0)) hkPp hb)) (hkA (Aside0.mk (blk_below (g := gb757) (o := .cells #[.bool t751, .slice Ao208 t752.length co208, .int .i64 t755] 30 (0, 0)) hkPp hb)) (hkU HB hb)))))); clear HO747 HO754 BK738 BK739 BK750 BK757 HB; obtain ⟨HO747, HO754, BK738, BK739, BK750, BK757, HB⟩ := n_; (try clear hb); (try clear hk)))
      go_ret
      exact ⟨by first | rfl | (rw [hr_]; done) | (simp [errW_none, errW_some] <;> rfl) | (simp [*, errW_none, errW_some] <;> rfl), hkS HB⟩
     ·replace c183 := Bool.eq_false_iff.mpr c183
      subst c183
      have H1 : (some false) = some true := by rw [if_neg (show ¬ (false = true) by decide)] at H; exact H
      clear H
      have H := H1
      clear H1
      exact absurd (Option.some.inj H) (by decide)
    ·rw [if_neg c182] at H
     have c182b0 : (t740 == (wrap64 (-t742))) = false := beq_eq_false_iff_ne.mpr c182
     have c182b1 : (t740 != (wrap64 (-t742))) = true := bne_iff_ne.mpr c182
     exact absurd (Option.some.inj H) (by decide)
   ·rw [if_neg c181] at H
    have c181b0 : (t741 == t743) = false := by simpa using c181
    (try (have c181b1 : decide (t741 = t743) = false := by simpa using c181))
    (try (have c181b2 : (t741 == t743) = false := by simpa using c181))
    (try (have c181b3 : ¬ (t741 = t743) := by simpa using c181))
    clear c181
    exact absurd (Option.some.inj H) (by decide)
 ·replace c7 := Bool.eq_false_iff.mpr c7
  subst c7
  have H1 : ((impl_FlCmp.f k 2 true 0 0 2 false 0 0).bind fun bt763 => (if (t741 == t743) = true then (if t740 = (wrap64 (-t742)) then (if bt763.2 = true then (some (bt763.1 == (-1))) else (some false)) else (some false)) else (some false))) = some true := by rw [if_neg (show ¬ (false = true) by decide)] at H; exact H
  clear H
  have H := H1
  clear H1
  replace H := hBi H
  obtain ⟨⟨t763, t764⟩, A2880, H⟩ := H
  replace H : (if (t741 == t743) = true then (if t740 = (wrap64 (-t742)) then (if t764 = true then (some (t763 == (-1))) else (some false)) else (some false)) else (some false)) = some true := H
  have A288 := Aside0.mk A2880
  clear A2880
  by_cases c289 : (t741 == t743) = true
  ·rw [if_pos c289] at H
   have c289b0 : (t741 == t743) = true := c289
   (try (have c289b1 : decide (t741 = t743) = true := by simpa using c289))
   (try (have c289b2 : (t741 == t743) = true := by simpa using c289))
   clear c289
   by_cases c290 : t740 = (wrap64 (-t742))
   ·rw [if_pos c290] at H
    have c290b0 : (t740 == (wrap64 (-t742))) = true := beq_iff_eq.mpr c290
    have c290b1 : (t740 != (wrap64 (-t742))) = false := bne_eq_false_iff_eq.mpr c290
    clear c290
    by_cases c291 : t764 = true
    ·subst c291
     have H1 : (some (t763 == (-1))) = some true := by rw [if_pos rfl] at H; exact H
     clear H
     have H := H1
     clear H1
     have hr_ := Option.some.inj H
     clear H
     go_enter Tryd.func7, Tryd.ntmps7
     go_wp2_with (first | ((with_reducible refine gate_callee (f := 33) rfl ?_); refine hkGo (N := some 17) Tryd.func33 #[.slice A0 l0.length c0] ?_; (with_reducible refine (spec_DrawFlCmp.calls k _ _ l0 t730 t731 t732 t733 t734 t735 t736 t737 _ ?side1 ?side2 A2.out).mono ?_); (case side1 => exact hkC (HR0.out)); (case side2 => exact HC0.out); rintro e w292 ⟨rfl, hb⟩; refine ⟨_, rfl, ?_⟩; have n0_ := hkU HB hb; clear HB; have HB := n0_; clear n0_; (try clear hb); (try clear hk)) | ((with_reducible refine gate_dst (N := 3) rfl ?_); refine hkBox (N := 3) (cs := #[.int .i64 0, .bool false, .int .i64 0, .int .i64 0]) (t := 33) ?_; intro gb738 hg w293 hbox hb; have n_ := hkA (hkU HB hb) (hkA (Aside0.mk (hbox)) (hkA (hkG hg (hkS HB)) (hkG hg (hkS HB)))); clear HB; obtain ⟨HB, BK738, GW738, GE738⟩ := n_; clear hb hbox hg) | ((with_reducible refine gate_dst (N := 4) rfl ?_); refine hkBox (N := 4) (cs := #[.int .i64 0, .bool false, .int .i64 0, .int .i64 0]) (t := 33) ?_; intro gb739 hg w294 hbox hb; have n_ := hkA (hkBb BK738 hb) (hkA (hkU HB hb) (hkA (Aside0.mk (hbox)) (hkA (hkG hg (hkS HB)) (hkA (hkG hg (hkS HB)) (hkA (hkN hg BK738) (hkM hg BK738)))))); clear BK738 HB; obtain ⟨BK738, HB, BK739, GW739, GE739, NB738_739, NB739_738⟩ := n_; clear hb hbox hg; have hnb295 := NB738_739.out; have hnc295 := NB739_738.out; obtain ⟨hcz296_0, hfz296_0, hcz296_1, hfz296_1, hcz296_2, hfz296_2, hcz296_3, hfz296_3⟩ := hkc4 BK738; obtain ⟨hcz297_0, hfz297_0, hcz297_1, hfz297_1, hcz297_2, hfz297_2, hcz297_3, hfz297_3⟩ := hkc4 BK739) | ((with_reducible refine gate_callee (f := 34) rfl ?_); refine hkGo (N := some 23) Tryd.func34 #[.agg #[.int .i64 t730, .bool t731, .int .i64 t732, .int .i64 t733], .agg #[.int .i64 t734, .bool t735, .int .i64 t736, .int .i64 t737]] ?_; (with_reducible refine (impl_FlCmp.calls k t730 t731 t732 t733 t734 t735 t736 t737 t740 t741 _ A3.out).mono ?_); rintro e w298 ⟨rfl, hb⟩; refine ⟨_, rfl, ?_⟩; have n_ := hkA (Aside0.mk (blk_below (g := gb738) (o := .cells #[.int .i64 t730, .bool t731, .int .i64 t732, .int .i64 t733] 33 (0, 0)) hkPp hb)) (hkA (Aside0.mk (blk_below (g := gb739) (o := .cells #[.int .i64 t734, .bool t735, .int .i64 t736, .int .i64 t737] 33 (0, 0)) hkPp hb)) (hkU HB hb)); clear BK738 BK739 HB; obtain ⟨BK738, BK739, HB⟩ := n_; (try clear hb); (try clear hk); obtain ⟨hcz299_0, hfz299_0, hcz299_1, hfz299_1, hcz299_2, hfz299_2, hcz299_3, hfz299_3⟩ := hkc4 BK739; obtain ⟨hcz300_0, hfz300_0, hcz300_1, hfz300_1, hcz300_2, hfz300_2, hcz300_3, hfz300_3⟩ := hkc4 BK738) | ((with_reducible refine gate_callee (f := 34) rfl ?_); refine hkGo (N := some 29) Tryd.func34 #[.agg #[.int .i64 t734, .bool t735, .int .i64 t736, .int .i64 t737], .agg #[.int .i64 t730, .bool t731, .int .i64 t732, .int .i64 t733]] ?_; (with_reducible refine (impl_FlCmp.calls k t734 t735 t736 t737 t730 t731 t732 t733 t742 t743 _ A4.out).mono ?_); rintro e w301 ⟨rfl, hb⟩; refine ⟨_, rfl, ?_⟩; have n_ := hkA (hkBb BK738 hb) (hkA (hkBb BK739 hb) (hkU HB hb)); clear BK738 BK739 HB; obtain ⟨BK738, BK739, HB⟩ := n_; (try clear hb); (try clear hk); obtain ⟨hcz302_0, hfz302_0, hcz302_1, hfz302_1, hcz302_2, hfz302_2, hcz302_3, hfz302_3⟩ := hkc4 BK738) | ((with_reducible refine gate_callee (f := 10) rfl ?_); refine hkGo (N := some 34) Tryd.func10 #[.agg #[.int .i64 t730, .bool t731, .int .i64 t732, .int .i64 t733]] ?_; (with_reducible refine (impl_FlDy.calls k t730 t731 t732 t733 t744 t745 t748 false _ A5.out).mono ?_); rintro e w303 ⟨v746, rfl, ho0, hb⟩; refine ⟨_, rfl, ?_⟩; have n_ := hkA (Aside0.mk (Kd.R_lower ho0 (below_size (hkS HB)))) (hkA (hkBb BK738 hb) (hkA (hkBb BK739 hb) (hkU HB hb))); clear BK738 BK739 HB; obtain ⟨HO747, BK738, BK739, HB⟩ := n_; (try clear hb); (try clear hk); (try clear ho0)) | ((with_reducible refine gate_dst (N := 9) rfl ?_); refine hkBox (N := 9) (cs := #[.bool false, .slice none 0 0, .int .i64 0]) (t := 30) ?_; intro gb750 hg w304 hbox hb; have n_ := hkA (hkRb HO747 hb) (hkA (hkBb BK738 hb) (hkA (hkBb BK739 hb) (hkA (hkU HB hb) (hkA (Aside0.mk (hbox)) (hkA (hkG hg (hkS HB)) (hkA (hkG hg (hkS HB)) (hkA (hkN hg BK738) (hkA (hkM hg BK738) (hkA (hkN hg BK739) (hkM hg BK739)))))))))); clear HO747 BK738 BK739 HB; obtain ⟨HO747, BK738, BK739, HB, BK750, GW750, GE750, NB738_750, NB750_738, NB739_750, NB750_739⟩ := n_; clear hb hbox hg; have hnb305 := NB750_738.out; have hnc305 := NB738_750.out; have hnb306 := NB750_739.out; have hnc306 := NB739_750.out; obtain ⟨hcz307_0, hfz307_0, hcz307_1, hfz307_1, hcz307_2, hfz307_2⟩ := hkc3 BK750; obtain ⟨Ao308, co308, eo308⟩ := Kd.R_slice HO747.out; subst eo308; obtain ⟨hcz309_0, hfz309_0, hcz309_1, hfz309_1, hcz309_2, hfz309_2, hcz309_3, hfz309_3⟩ := hkc4 BK739) | ((with_reducible refine gate_callee (f := 10) rfl ?_); refine hkGo (N := some 39) Tryd.func10 #[.agg #[.int .i64 t734, .bool t735, .int .i64 t736, .int .i64 t737]] ?_; (with_reducible refine (impl_FlDy.calls k t734 t735 t736 t737 t751 t752 t755 t756 _ A6.out).mono ?_); rintro e w310 ⟨v753, rfl, ho0, hb⟩; refine ⟨_, rfl, ?_⟩; have n_ := hkA (Aside0.mk (Kd.R_elder' (by (with_reducible repeat (first | apply Kd.R_alloc | apply Kd.R_drewN | apply Kd.R_drew)); exact (Kd.R_mono (Kd.R_far (p := ⟨gb750, 2, none⟩) (Kd.R_far (p := ⟨gb750, 1, none⟩) (Kd.R_far (p := ⟨gb750, 0, none⟩) (Kd.R_types HO747.out BK750.out (by decide)) (fun _ hk => hk.2) (.bool t744)) (fun _ hk => hk.2) (.slice Ao308 t745.length co308)) (fun _ hk => hk.2) (.int .i64 t748)) (fun _ h_ => h_.1))) (Kd.R_base ho0) hb)) (hkA (Aside0.mk (Kd.R_lower (Kd.R_new' ho0 (Kd.R_lt (by (with_reducible repeat (first | apply Kd.R_alloc | apply Kd.R_drewN | apply Kd.R_drew)); exact (Kd.R_mono (Kd.R_far (p := ⟨gb750, 2, none⟩) (Kd.R_far (p := ⟨gb750, 1, none⟩) (Kd.R_far (p := ⟨gb750, 0, none⟩) (Kd.R_types HO747.out BK750.out (by decide)) (fun _ hk => hk.2) (.bool t744)) (fun _ hk => hk.2) (.slice Ao308 t745.length co308)) (fun _ hk => hk.2) (.int .i64 t748)) (fun _ h_ => h_.1))))) (below_size (hkS HB)))) (hkA (Aside0.mk (blk_below (g := gb738) (o := .cells #[.int .i64 t730, .bool t731, .int .i64 t732, .int .i64 t733] 33 (0, 0)) hkPp hb)) (hkA (Aside0.mk (blk_below (g := gb739) (o := .cells #[.int .i64 t734, .bool t735, .int .i64 t736, .int .i64 t737] 33 (0, 0)) hkPp hb)) (hkA (Aside0.mk (blk_below (g := gb750) (o := .cells #[.bool t744, .slice Ao308 t745.length co308, .int .i64 t748] 30 (0, 0)) hkPp hb)) (hkU HB hb))))); clear HO747 BK738 BK739 BK750 HB; obtain ⟨HO747, HO754, BK738, BK739, BK750, HB⟩ := n_; (try clear hb); (try clear hk); (try clear ho0)) | ((with_reducible refine gate_dst (N := 11) rfl ?_); refine hkBox (N := 11) (cs := #[.bool false, .slice none 0 0, .int .i64 0]) (t := 30) ?_; intro gb757 hg w311 hbox hb; have n_ := hkA (hkRb HO747 hb) (hkA (hkRb HO754 hb) (hkA (hkBb BK738 hb) (hkA (hkBb BK739 hb) (hkA (hkBb BK750 hb) (hkA (hkU HB hb) (hkA (Aside0.mk (hbox)) (hkA (hkG hg (hkS HB)) (hkA (hkG hg (hkS HB)) (hkA (hkN hg BK738) (hkA (hkM hg BK738) (hkA (hkN hg BK739) (hkA (hkM hg BK739) (hkA (hkN hg BK750) (hkM hg BK750)))))))))))))); clear HO747 HO754 BK738 BK739 BK750 HB; obtain ⟨HO747, HO754, BK738, BK739, BK750, HB, BK757, GW757, GE757, NB738_757, NB757_738, NB739_757, NB757_739, NB750_757, NB757_750⟩ := n_; clear hb hbox hg; have hnb312 := NB757_738.out; have hnc312 := NB738_757.out; have hnb313 := NB757_739.out; have hnc313 := NB739_757.out; have hnb314 := NB757_750.out; have hnc314 := NB750_757.out; obtain ⟨hcz315_0, hfz315_0, hcz315_1, hfz315_1, hcz315_2, hfz315_2⟩ := hkc3 BK757; obtain ⟨Ao316, co316, eo316⟩ := Kd.R_slice HO754.out; subst eo316) | ((with_reducible refine gate_callee (f := 34) rfl ?_); refine hkGo (N := some 60) Tryd.func34 #[.agg #[.int .i64 2, .bool true, .int .i64 0, .int .i64 0], .agg #[.int .i64 2, .bool false, .int .i64 0, .int .i64 0]] ?_; (with_reducible refine (impl_FlCmp.calls k 2 true 0 0 2 false 0 0 t763 true _ A288.out).mono ?_); rintro e w317 ⟨rfl, hb⟩; refine ⟨_, rfl, ?_⟩; have n_ := hkA (Aside0.mk (Kd.R_below (by (with_reducible repeat (first | apply Kd.R_alloc | apply Kd.R_drewN | apply Kd.R_drew)); exact (Kd.R_mono (Kd.R_far (p := ⟨gb757, 2, none⟩) (Kd.R_far (p := ⟨gb757, 1, none⟩) (Kd.R_far (p := ⟨gb757, 0, none⟩) (Kd.R_types HO747.out BK757.out (by decide)) (fun _ hk => hk.2) (.bool t751)) (fun _ hk => hk.2) (.slice Ao316 t752.length co316)) (fun _ hk => hk.2) (.int .i64 t755)) (fun _ h_ => h_.1))) hb)) (hkA (Aside0.mk (Kd.R_below (by (with_reducible repeat (first | apply Kd.R_alloc | apply Kd.R_drewN | apply Kd.R_drew)); exact (Kd.R_mono (Kd.R_far (p := ⟨gb757, 2, none⟩) (Kd.R_far (p := ⟨gb757, 1, none⟩) (Kd.R_far (p := ⟨gb757, 0, none⟩) (Kd.R_types HO754.out BK757.out (by decide)) (fun _ hk => hk.2) (.bool t751)) (fun _ hk => hk.2) (.slice Ao316 t752.length co316)) (fun _ hk => hk.2) (.int .i64 t755)) (fun _ h_ => h_.1))) hb)) (hkA (Aside0.mk (blk_below (g := gb738) (o := .cells #[.int .i64 t730, .bool t731, .int .i64 t732, .int .i64 t733] 33 (0, 0)) hkPp hb)) (hkA (Aside0.mk (blk_below (g := gb739) (o := .cells #[.int .i64 t734, .bool t735, .int .i64 t736, .int .i64 t737] 33 (0, 0)) hkPp hb)) (hkA (Aside0.mk (blk_below (g := gb750) (o := .cells #[.bool t744, .slice Ao308 t745.length co308, .int .i64 t748] 30 (0, 0)) hkPp hb)) (hkA (Aside0.mk (blk_below (g := gb757) (o := .cells #[.bool t751, .slice Ao316 t752.length co316, .int .i64 t755] 30 (0, 0)) hkPp hb)) (hkU HB hb)))))); clear HO747 HO754 BK738 BK739 BK750 BK757 HB; obtain ⟨HO747, HO754, BK738, BK739, BK750, BK757, HB⟩ := n_; (try clear hb); (try clear hk)))
     go_ret
     exact ⟨by first | rfl | (rw [hr_]; done) | (simp [errW_none, errW_some] <;> rfl) | (simp [*, errW_none, errW_some] <;> rfl), hkS HB⟩
    ·replace c291 := Bool.eq_false_iff.mpr c291
     subst c291
     have H1 : (some false) = some true := by rw [if_neg (show ¬ (false = true) by decide)] at H; exact H
     clear H
     have H := H1
     clear H1
     exact absurd (Option.some.inj H) (by decide)
   ·rw [if_neg c290] at H
    have c290b0 : (t740 == (wrap64 (-t742))) = false := beq_eq_false_iff_ne.mpr c290
    have c290b1 : (t740 != (wrap64 (-t742))) = true := bne_iff_ne.mpr c290
    exact absurd (Option.some.inj H) (by decide)
  ·rw [if_neg c289] at H
   have c289b0 : (t741 == t743) = false := by simpa using c289
   (try (have c289b1 : decide (t741 = t743) = false := by simpa using c289))
   (try (have c289b2 : (t741 == t743) = false := by simpa using c289))
   (try (have c289b3 : ¬ (t741 = t743) := by simpa using c289))
   clear c289
   exact absurd (Option.some.inj H) (by decide)
/-- THE ONE PURE STATEMENT of laws_FnFlOrder. -/
def laws_FnFlOrder.Pure : Prop := ∀ (l0 : List Int), l0.length ≤ maxLen → l0.length * 1 ≤ 140737488351232 → (∀ x ∈ l0, (Lit.int .u8 x).wf = true) → ∃ k, laws_FnFlOrder.f k l0 = some true
theorem laws_FnFlOrder.walk (P : laws_FnFlOrder.Pure) (a0 : Option Addr) (len0 cap0 : Nat) (z0 : List Int) (w : World) (w0 : ((a0 = none ∧ len0 = 0 ∧ cap0 = 0 ∧ z0 = []) ∨ ∃ x, a0 = some x ∧ len0 ≤ cap0 ∧ cap0 ≤ maxLen ∧ z0.length = cap0 ∧ (∀ i, i < z0.length → w.cell? (x.add i) = some (.int .u8 (z0.getD i 0))) ∧ ∀ n ∈ z0, (Lit.int .u8 n).wf = true)) (y0 : len0 * 1 ≤ 140737488351232) (hT : hTab w) :
  Calls Tryd.prog 7 #[.slice a0 len0 cap0] w fun e w' => e = .returned (.bool true) ∧ Below w.heap.size w w' := by
 have HT0 := Aside0.mk hT
 clear hT
 obtain ⟨l0, rfl, hr0, hm0, hw0, hc0⟩ := ReadsInt.ofRowC w0
 obtain ⟨k, h⟩ := P l0 hm0 y0 hw0
 refine (laws_FnFlOrder.calls k _ _ l0 w (Kd.C_of_reads (d := (0 : Int)) (h1 := fun _ => rfl) hr0) hc0 h).mono ?_
 rintro e w' ⟨rfl, hd⟩
 exact ⟨rfl, hd⟩

end Go.Proofs.YtgjpahofopoflaaDoor.PFnFlOrder
