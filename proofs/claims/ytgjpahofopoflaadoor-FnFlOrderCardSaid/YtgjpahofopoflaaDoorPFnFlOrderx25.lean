-- Written by our own driver (wip/hand/hprint.py) over the seat's translation.
import Derived.Test.YtgjpahofopoflaaDoorPFnFlOrderx0
import Derived.Test.YtgjpahofopoflaaDoorPFnFlOrderx14
import Derived.Test.YtgjpahofopoflaaDoorPFnFlOrderx24
namespace Go.Proofs.YtgjpahofopoflaaDoor.PFnFlOrder
open Go.RowKit Go.Proofs.YtgjpahofopoflaaDoorW.PrintWords Go.Proofs.YtgjpahofopoflaaDoorW.PrintLast Go.Proofs.YtgjpahofopoflaaDoorW.PrintMore
attribute [local go_sem] max2_int min2_int max_two min_two max_three min_three max_four min_four   -- for this text's walks alone
set_option linter.unusedVariables false
set_option linter.unusedSimpArgs false

/-! ### spec_FlNext: function 96 -/
mutual
def spec_FlNext.j0 : Nat → Bool → Int → Bool → Int → Int → Int → Bool → Int → Int → Option (Int × Bool × Int × Int)
 | 0, _, _, _, _, _, _, _, _, _ => none
 | k + 1, x10, x543000, x543001, x543002, x543003, x545000, x545001, x545002, x545003 => if x10 = true then (some (x543000, x543001, x543002, x543003)) else (if x543000 = 2 then ((spec_l5most.f true).bind fun bt546 => (some (bt546.1, bt546.2.1, bt546.2.2.1, bt546.2.2.2))) else (if x543000 = 0 then (some (x545000, x545001, x545002, x545003)) else (if x543001 = true then (if x543002 = 4503599627370496 then (spec_FlNext.j1 k (decide (x543003 > (-1074))) x543000 x543001 x543002 x543003) else (spec_FlNext.j1 k false x543000 x543001 x543002 x543003)) else (if (wrap64 (x543002 + 1)) = 9007199254740992 then (if (wrap64 (x543003 + 1)) > 971 then (some (2, false, 0, 0)) else (some (x543000, x543001, 4503599627370496, wrap64 (x543003 + 1)))) else (if x543003 > 971 then (some (2, false, 0, 0)) else (some (x543000, x543001, wrap64 (x543002 + 1), x543003)))))))
def spec_FlNext.j1 : Nat → Bool → Int → Bool → Int → Int → Option (Int × Bool × Int × Int)
 | 0, _, _, _, _, _ => none
 | k + 1, x62, x543000, x543001, x543002, x543003 => if x62 = true then (some (x543000, x543001, 9007199254740991, wrap64 (x543003 - 1))) else (if (wrap64 (x543002 - 1)) = 0 then (some (0, true, 0, 0)) else (some (x543000, x543001, wrap64 (x543002 - 1), x543003)))
end
def spec_FlNext.f (k : Nat) (a0_0 : Int) (a0_1 : Bool) (a0_2 : Int) (a0_3 : Int) : Option (Int × Bool × Int × Int) := (spec_FlOk.f k a0_0 a0_1 a0_2 a0_3).bind fun t545 => (if t545 = true then (if a0_0 = 3 then (spec_FlNext.j0 k true a0_0 a0_1 a0_2 a0_3 1 false 1 (-1074)) else (if a0_0 = 2 then (spec_FlNext.j0 k (!a0_1) a0_0 a0_1 a0_2 a0_3 1 false 1 (-1074)) else (spec_FlNext.j0 k false a0_0 a0_1 a0_2 a0_3 1 false 1 (-1074)))) else ((spec_l5nan.f).bind fun bt550 => (some (bt550.1, bt550.2.1, bt550.2.2.1, bt550.2.2.2))))
theorem spec_FlNext.mono_l : ∀ k, (∀ y0 y1 y2 y3 y4 y5 y6 y7 y8, LeO (spec_FlNext.j0 k y0 y1 y2 y3 y4 y5 y6 y7 y8) (spec_FlNext.j0 (k + 1) y0 y1 y2 y3 y4 y5 y6 y7 y8)) ∧ (∀ y0 y1 y2 y3 y4, LeO (spec_FlNext.j1 k y0 y1 y2 y3 y4) (spec_FlNext.j1 (k + 1) y0 y1 y2 y3 y4))
 | 0 => ⟨fun _ _ _ _ _ _ _ _ _ r h => by simp [spec_FlNext.j0] at h, fun _ _ _ _ _ r h => by simp [spec_FlNext.j1] at h⟩
 | k + 1 => by
  obtain ⟨ih0, ih1⟩ := spec_FlNext.mono_l k
  refine ⟨?_, ?_⟩
  ·intro y0 y1 y2 y3 y4 y5 y6 y7 y8
   unfold spec_FlNext.j0
   repeat' first
   | (with_reducible exact ih0 _ _ _ _ _ _ _ _ _)
   | (with_reducible exact ih1 _ _ _ _ _)
   | (with_reducible exact spec_FlOk.mono _ _ _ _ _)
   | (with_reducible exact LeO.refl _)
   | (with_reducible exact LeO.none _)
   | (with_reducible refine LeO.ite ?_ ?_)
   | (with_reducible refine LeO.bind ?_ (fun _ => ?_))
   | exact ih0 _ _ _ _ _ _ _ _ _
   | exact ih1 _ _ _ _ _
   | exact spec_FlOk.mono _ _ _ _ _
   | exact LeO.none _
   | refine LeO.ite ?_ ?_
   | refine LeO.bind ?_ (fun _ => ?_)
  ·intro y0 y1 y2 y3 y4
   unfold spec_FlNext.j1
   repeat' first
   | (with_reducible exact ih0 _ _ _ _ _ _ _ _ _)
   | (with_reducible exact ih1 _ _ _ _ _)
   | (with_reducible exact spec_FlOk.mono _ _ _ _ _)
   | (with_reducible exact LeO.refl _)
   | (with_reducible exact LeO.none _)
   | (with_reducible refine LeO.ite ?_ ?_)
   | (with_reducible refine LeO.bind ?_ (fun _ => ?_))
   | exact ih0 _ _ _ _ _ _ _ _ _
   | exact ih1 _ _ _ _ _
   | exact spec_FlOk.mono _ _ _ _ _
   | exact LeO.none _
   | refine LeO.ite ?_ ?_
   | refine LeO.bind ?_ (fun _ => ?_)
theorem spec_FlNext.mono : ∀ a0 a1 a2 a3 k, LeO (spec_FlNext.f k a0 a1 a2 a3) (spec_FlNext.f (k + 1) a0 a1 a2 a3) := by
 intro a0 a1 a2 a3 k
 obtain ⟨ih0, ih1⟩ := spec_FlNext.mono_l k
 unfold spec_FlNext.f
 repeat' first
   | (with_reducible exact ih0 _ _ _ _ _ _ _ _ _)
   | (with_reducible exact ih1 _ _ _ _ _)
   | (with_reducible exact spec_FlOk.mono _ _ _ _ _)
   | (with_reducible exact LeO.refl _)
   | (with_reducible exact LeO.none _)
   | (with_reducible refine LeO.ite ?_ ?_)
   | (with_reducible refine LeO.bind ?_ (fun _ => ?_))
   | exact ih0 _ _ _ _ _ _ _ _ _
   | exact ih1 _ _ _ _ _
   | exact spec_FlOk.mono _ _ _ _ _
   | exact LeO.none _
   | refine LeO.ite ?_ ?_
   | refine LeO.bind ?_ (fun _ => ?_)
set_option maxHeartbeats 8000000 in
set_option maxRecDepth 100000 in
theorem spec_FlNext.calls (k : Nat) (a0_0 : Int) (a0_1 : Bool) (a0_2 : Int) (a0_3 : Int) (r1 : Int) (r2 : Bool) (r3 : Int) (r4 : Int) (w : World) (h : spec_FlNext.f k a0_0 a0_1 a0_2 a0_3 = some (r1, r2, r3, r4)) :
  Calls Tryd.prog 96 #[.agg #[.int .i64 a0_0, .bool a0_1, .int .i64 a0_2, .int .i64 a0_3]] w fun e w' => e = .returned (.agg #[.int .i64 r1, .bool r2, .int .i64 r3, .int .i64 r4]) ∧ Below w.heap.size w w' := by
 have hu33 := Tryd.underlying33
 have HB := Aside0.mk (Below.refl w.heap.size w)
 have H : ((spec_FlOk.f k a0_0 a0_1 a0_2 a0_3).bind fun t545 => (if t545 = true then (if a0_0 = 3 then (spec_FlNext.j0 k true a0_0 a0_1 a0_2 a0_3 1 false 1 (-1074)) else (if a0_0 = 2 then (spec_FlNext.j0 k (!a0_1) a0_0 a0_1 a0_2 a0_3 1 false 1 (-1074)) else (spec_FlNext.j0 k false a0_0 a0_1 a0_2 a0_3 1 false 1 (-1074)))) else ((spec_l5nan.f).bind fun bt550 => (some (bt550.1, bt550.2.1, bt550.2.2.1, bt550.2.2.2))))) = some (r1, r2, r3, r4) := h
 clear h
 replace H := hBi H
 obtain ⟨t545, A20, H⟩ := H
 replace H : (if t545 = true then (if a0_0 = 3 then (spec_FlNext.j0 k true a0_0 a0_1 a0_2 a0_3 1 false 1 (-1074)) else (if a0_0 = 2 then (spec_FlNext.j0 k (!a0_1) a0_0 a0_1 a0_2 a0_3 1 false 1 (-1074)) else (spec_FlNext.j0 k false a0_0 a0_1 a0_2 a0_3 1 false 1 (-1074)))) else ((spec_l5nan.f).bind fun bt550 => (some (bt550.1, bt550.2.1, bt550.2.2.1, bt550.2.2.2)))) = some (r1, r2, r3, r4) := H
 have A2 := Aside0.mk A20
 clear A20
 by_cases c3 : t545 = true
 ·subst c3
  have H1 : (if a0_0 = 3 then (spec_FlNext.j0 k true a0_0 a0_1 a0_2 a0_3 1 false 1 (-1074)) else (if a0_0 = 2 then (spec_FlNext.j0 k (!a0_1) a0_0 a0_1 a0_2 a0_3 1 false 1 (-1074)) else (spec_FlNext.j0 k false a0_0 a0_1 a0_2 a0_3 1 false 1 (-1074)))) = some (r1, r2, r3, r4) := by rw [if_pos rfl] at H; exact H
  clear H
  have H := H1
  clear H1
  have HC4 := Aside0.mk H
  clear H
  go_enter Tryd.func96, Tryd.ntmps96
  go_upto_region 4 with (first | ((with_reducible refine gate_dst (N := 1) rfl ?_); refine hkBox (N := 1) (cs := #[.int .i64 a0_0, .bool a0_1, .int .i64 a0_2, .int .i64 a0_3]) (t := 33) ?_; intro gb542 hg w5 hbox hb; have n_ := hkA (hkU HB hb) (hkA (Aside0.mk (hbox)) (hkA (hkG hg (hkS HB)) (hkG hg (hkS HB)))); clear HB; obtain ⟨HB, BK542, GW542, GE542⟩ := n_; clear hb hbox hg) | ((with_reducible refine gate_dst (N := 2) rfl ?_); refine hkBox (N := 2) (cs := #[.int .i64 0, .bool false, .int .i64 0, .int .i64 0]) (t := 33) ?_; intro gb543 hg w6 hbox hb; have n_ := hkA (hkBb BK542 hb) (hkA (hkU HB hb) (hkA (Aside0.mk (hbox)) (hkA (hkG hg (hkS HB)) (hkA (hkG hg (hkS HB)) (hkA (hkN hg BK542) (hkM hg BK542)))))); clear BK542 HB; obtain ⟨BK542, HB, BK543, GW543, GE543, NB542_543, NB543_542⟩ := n_; clear hb hbox hg) | ((with_reducible refine gate_dst (N := 3) rfl ?_); refine hkBox (N := 3) (cs := #[.int .i64 0, .bool false, .int .i64 0, .int .i64 0]) (t := 33) ?_; intro gb544 hg w7 hbox hb; have n_ := hkA (hkBb BK542 hb) (hkA (hkBb BK543 hb) (hkA (hkU HB hb) (hkA (Aside0.mk (hbox)) (hkA (hkG hg (hkS HB)) (hkA (hkG hg (hkS HB)) (hkA (hkN hg BK542) (hkA (hkM hg BK542) (hkA (hkN hg BK543) (hkM hg BK543))))))))); clear BK542 BK543 HB; obtain ⟨BK542, BK543, HB, BK544, GW544, GE544, NB542_544, NB544_542, NB543_544, NB544_543⟩ := n_; clear hb hbox hg; have hnb8 := NB544_542.out; have hnc8 := NB542_544.out; have hnb9 := NB544_543.out; have hnc9 := NB543_544.out; obtain ⟨hcz10_0, hfz10_0, hcz10_1, hfz10_1, hcz10_2, hfz10_2, hcz10_3, hfz10_3⟩ := hkc4 BK544; have hnb11 := NB542_543.out; have hnc11 := NB543_542.out; obtain ⟨hcz12_0, hfz12_0, hcz12_1, hfz12_1, hcz12_2, hfz12_2, hcz12_3, hfz12_3⟩ := hkc4 BK542) | ((with_reducible refine gate_callee (f := 36) rfl ?_); refine hkGo (N := some 7) Tryd.func36 #[.agg #[.int .i64 a0_0, .bool a0_1, .int .i64 a0_2, .int .i64 a0_3]] ?_; (with_reducible refine (spec_FlOk.calls k a0_0 a0_1 a0_2 a0_3 true _ A2.out).mono ?_); rintro e w13 ⟨rfl, hb⟩; refine ⟨_, rfl, ?_⟩; have n_ := hkA (Aside0.mk (blk_below (g := gb542) (o := .cells #[.int .i64 a0_0, .bool a0_1, .int .i64 a0_2, .int .i64 a0_3] 33 (0, 0)) hkPp hb)) (hkA (Aside0.mk (blk_below (g := gb543) (o := .cells #[.int .i64 0, .bool false, .int .i64 0, .int .i64 0] 33 (0, 0)) hkPp hb)) (hkA (Aside0.mk (blk_below (g := gb544) (o := .cells #[.int .i64 1, .bool false, .int .i64 1, .int .i64 (-1074)] 33 (0, 0)) hkPp hb)) (hkU HB hb))); clear BK542 BK543 BK544 HB; obtain ⟨BK542, BK543, BK544, HB⟩ := n_; (try clear hb)))
  (try simp only [Act.put, List.setIfInBounds_toArray, List.set_cons_zero, List.set_cons_succ])
  go_cut [10] (fun v10 wc => ∃ (kq : Nat) (x10_3 : Bool), v10 = .bool x10_3 ∧ Aside0 (spec_FlNext.j0 kq x10_3 a0_0 a0_1 a0_2 a0_3 1 false 1 (-1074) = some (r1, r2, r3, r4)) ∧ Aside0 (kq ≤ k) ∧ Aside0 (wc.heap[gb542]? = some (.cells #[.int .i64 a0_0, .bool a0_1, .int .i64 a0_2, .int .i64 a0_3] 33 (0, 0))) ∧ Aside0 (wc.heap[gb543]? = some (.cells #[.int .i64 0, .bool false, .int .i64 0, .int .i64 0] 33 (0, 0))) ∧ Aside0 (wc.heap[gb544]? = some (.cells #[.int .i64 1, .bool false, .int .i64 1, .int .i64 (-1074)] 33 (0, 0))) ∧ Aside0 (Below w.heap.size w wc))
  case first =>
   have H := HC4.out
   clear HC4
   by_cases c14 : a0_0 = 3
   ·rw [if_pos c14] at H
    have c14b0 : (a0_0 == 3) = true := beq_iff_eq.mpr c14
    have c14b1 : (a0_0 != 3) = false := bne_eq_false_iff_eq.mpr c14
    clear c14
    (first | rw [c14b0] | (simp only [i64_w, i32_w]; rw [c14b0]) | skip)
    have H' := Aside0.mk H
    clear H
    have hnb15 := NB542_543.out
    have hnc15 := NB543_542.out
    have hnb16 := NB542_544.out
    have hnc16 := NB544_542.out
    obtain ⟨hcz17_0, hfz17_0, hcz17_1, hfz17_1, hcz17_2, hfz17_2, hcz17_3, hfz17_3⟩ := hkc4 BK542
    go_wp2
    go_meet
    case rel => exact ⟨_, (true), (by first | rfl | (simp; done) | (simp [*]; done)), H', ⟨by first | omega | exact Nat.le_refl _⟩, ⟨by refine hkz ?_; exact BK542.out⟩, ⟨by refine hkz ?_; exact BK543.out⟩, ⟨by refine hkz ?_; exact BK544.out⟩, ⟨hkS HB⟩⟩
   ·rw [if_neg c14] at H
    have c14b0 : (a0_0 == 3) = false := beq_eq_false_iff_ne.mpr c14
    have c14b1 : (a0_0 != 3) = true := bne_iff_ne.mpr c14
    (first | rw [c14b0] | (simp only [i64_w, i32_w]; rw [c14b0]) | skip)
    by_cases c18 : a0_0 = 2
    ·rw [if_pos c18] at H
     have c18b0 : (a0_0 == 2) = true := beq_iff_eq.mpr c18
     have c18b1 : (a0_0 != 2) = false := bne_eq_false_iff_eq.mpr c18
     clear c18
     have H' := Aside0.mk H
     clear H
     have hnb19 := NB542_543.out
     have hnc19 := NB543_542.out
     have hnb20 := NB542_544.out
     have hnc20 := NB544_542.out
     obtain ⟨hcz21_0, hfz21_0, hcz21_1, hfz21_1, hcz21_2, hfz21_2, hcz21_3, hfz21_3⟩ := hkc4 BK542
     go_wp2
     go_meet
     case rel => exact ⟨_, (!a0_1), (by first | rfl | (simp; done) | (simp [*]; done)), H', ⟨by first | omega | exact Nat.le_refl _⟩, ⟨by refine hkz ?_; exact BK542.out⟩, ⟨by refine hkz ?_; exact BK543.out⟩, ⟨by refine hkz ?_; exact BK544.out⟩, ⟨hkS HB⟩⟩
    ·rw [if_neg c18] at H
     have c18b0 : (a0_0 == 2) = false := beq_eq_false_iff_ne.mpr c18
     have c18b1 : (a0_0 != 2) = true := bne_iff_ne.mpr c18
     have H' := Aside0.mk H
     clear H
     have hnb22 := NB542_543.out
     have hnc22 := NB543_542.out
     have hnb23 := NB542_544.out
     have hnc23 := NB544_542.out
     obtain ⟨hcz24_0, hfz24_0, hcz24_1, hfz24_1, hcz24_2, hfz24_2, hcz24_3, hfz24_3⟩ := hkc4 BK542
     go_wp2
     go_meet
     case rel => exact ⟨_, (false), (by first | rfl | (simp; done) | (simp [*]; done)), H', ⟨by first | omega | exact Nat.le_refl _⟩, ⟨by refine hkz ?_; exact BK542.out⟩, ⟨by refine hkz ?_; exact BK543.out⟩, ⟨by refine hkz ?_; exact BK544.out⟩, ⟨hkS HB⟩⟩
  case rest =>
   clear HC4
   try clear c1
   try clear c2
   try clear p2
   try clear c3
   try clear c8
   try clear c9
   try clear c11
   try clear c14
   try clear c14b0
   try clear c14b1
   try clear c15
   try clear c16
   try clear c18
   try clear c18b0
   try clear c18b1
   try clear c19
   try clear c20
   try clear c22
   try clear c23
   try clear hcz10_0 hcz10_1 hcz10_2 hcz10_3 hcz12_0 hcz12_1 hcz12_2 hcz12_3 hcz17_0 hcz17_1 hcz17_2 hcz17_3 hcz21_0 hcz21_1 hcz21_2 hcz21_3 hcz24_0 hcz24_1 hcz24_2 hcz24_3 hfz10_0 hfz10_1 hfz10_2 hfz10_3 hfz12_0 hfz12_1 hfz12_2 hfz12_3 hfz17_0 hfz17_1 hfz17_2 hfz17_3 hfz21_0 hfz21_1 hfz21_2 hfz21_3 hfz24_0 hfz24_1 hfz24_2 hfz24_3
   obtain ⟨kq, x10_3, rfl, HA, HJ3, BK542, BK543, BK544, HB⟩ := hcut
   cases kq with
   | zero => exact absurd HA.out (by simp [spec_FlNext.j0])
   | succ kj3 =>
    have H := HA.out
    clear HA
    simp only [spec_FlNext.j0] at H
    by_cases c25 : x10_3 = true
    ·subst c25
     have H1 : (some (a0_0, a0_1, a0_2, a0_3)) = some (r1, r2, r3, r4) := by rw [if_pos rfl] at H; exact H
     clear H
     have H := H1
     clear H1
     simp only [Option.some.injEq, Prod.mk.injEq] at H
     obtain ⟨rfl, rfl, rfl, rfl⟩ := H
     have hnb26 := NB542_543.out
     have hnc26 := NB543_542.out
     have hnb27 := NB542_544.out
     have hnc27 := NB544_542.out
     obtain ⟨hcz28_0, hfz28_0, hcz28_1, hfz28_1, hcz28_2, hfz28_2, hcz28_3, hfz28_3⟩ := hkc4 BK542
     have hnb29 := NB543_544.out
     have hnc29 := NB544_543.out
     obtain ⟨hcz30_0, hfz30_0, hcz30_1, hfz30_1, hcz30_2, hfz30_2, hcz30_3, hfz30_3⟩ := hkc4 BK543
     go_wp2
     refine bodyPost_ret (results_cell_row rfl _ _ gb543 33 #[.int .i64 a0_0, .bool a0_1, .int .i64 a0_2, .int .i64 a0_3] (0, 0) _ rfl hkPp Tryd.underlying33 rfl (by kernel_rfl)) rfl ?_
     exact ⟨hkE, hkS HB⟩
    ·replace c25 := Bool.eq_false_iff.mpr c25
     subst c25
     have H1 : (if a0_0 = 2 then ((spec_l5most.f true).bind fun bt546 => (some (bt546.1, bt546.2.1, bt546.2.2.1, bt546.2.2.2))) else (if a0_0 = 0 then (some (1, false, 1, (-1074))) else (if a0_1 = true then (if a0_2 = 4503599627370496 then (spec_FlNext.j1 kj3 (decide (a0_3 > (-1074))) a0_0 a0_1 a0_2 a0_3) else (spec_FlNext.j1 kj3 false a0_0 a0_1 a0_2 a0_3)) else (if (wrap64 (a0_2 + 1)) = 9007199254740992 then (if (wrap64 (a0_3 + 1)) > 971 then (some (2, false, 0, 0)) else (some (a0_0, a0_1, 4503599627370496, wrap64 (a0_3 + 1)))) else (if a0_3 > 971 then (some (2, false, 0, 0)) else (some (a0_0, a0_1, wrap64 (a0_2 + 1), a0_3))))))) = some (r1, r2, r3, r4) := by rw [if_neg (show ¬ (false = true) by decide)] at H; exact H
     clear H
     have H := H1
     clear H1
     by_cases c31 : a0_0 = 2
     ·rw [if_pos c31] at H
      have c31b0 : (a0_0 == 2) = true := beq_iff_eq.mpr c31
      have c31b1 : (a0_0 != 2) = false := bne_eq_false_iff_eq.mpr c31
      clear c31
      replace H := hBi H
      obtain ⟨⟨t546, t547, t548, t549⟩, A320, H⟩ := H
      replace H : (some (t546, t547, t548, t549)) = some (r1, r2, r3, r4) := H
      have A32 := Aside0.mk A320
      clear A320
      simp only [Option.some.injEq, Prod.mk.injEq] at H
      obtain ⟨rfl, rfl, rfl, rfl⟩ := H
      have hnb33 := NB542_543.out
      have hnc33 := NB543_542.out
      have hnb34 := NB542_544.out
      have hnc34 := NB544_542.out
      obtain ⟨hcz35_0, hfz35_0, hcz35_1, hfz35_1, hcz35_2, hfz35_2, hcz35_3, hfz35_3⟩ := hkc4 BK542
      go_wp2_with (first | ((with_reducible refine gate_callee (f := 118) rfl ?_); refine hkGo (N := some 29) Tryd.func118 #[.bool true] ?_; (with_reducible refine (spec_l5most.calls true t546 t547 t548 t549 _ A32.out).mono ?_); rintro e w36 ⟨rfl, hb⟩; refine ⟨_, rfl, ?_⟩; have n_ := hkA (hkBb BK542 hb) (hkA (hkBb BK543 hb) (hkA (hkBb BK544 hb) (hkU HB hb))); clear BK542 BK543 BK544 HB; obtain ⟨BK542, BK543, BK544, HB⟩ := n_; (try clear hb); have hnb37 := NB543_544.out; have hnc37 := NB544_543.out; obtain ⟨hcz38_0, hfz38_0, hcz38_1, hfz38_1, hcz38_2, hfz38_2, hcz38_3, hfz38_3⟩ := hkc4 BK543))
      refine bodyPost_ret (results_cell_row rfl _ _ gb543 33 #[.int .i64 t546, .bool t547, .int .i64 t548, .int .i64 t549] (0, 0) _ rfl hkPp Tryd.underlying33 rfl (by kernel_rfl)) rfl ?_
      exact ⟨hkE, hkS HB⟩
     ·rw [if_neg c31] at H
      have c31b0 : (a0_0 == 2) = false := beq_eq_false_iff_ne.mpr c31
      have c31b1 : (a0_0 != 2) = true := bne_iff_ne.mpr c31
      by_cases c39 : a0_0 = 0
      ·rw [if_pos c39] at H
       have c39b0 : (a0_0 == 0) = true := beq_iff_eq.mpr c39
       have c39b1 : (a0_0 != 0) = false := bne_eq_false_iff_eq.mpr c39
       clear c39
       simp only [Option.some.injEq, Prod.mk.injEq] at H
       obtain ⟨rfl, rfl, rfl, rfl⟩ := H
       have hnb40 := NB542_543.out
       have hnc40 := NB543_542.out
       have hnb41 := NB542_544.out
       have hnc41 := NB544_542.out
       obtain ⟨hcz42_0, hfz42_0, hcz42_1, hfz42_1, hcz42_2, hfz42_2, hcz42_3, hfz42_3⟩ := hkc4 BK542
       have hnb43 := NB544_543.out
       have hnc43 := NB543_544.out
       obtain ⟨hcz44_0, hfz44_0, hcz44_1, hfz44_1, hcz44_2, hfz44_2, hcz44_3, hfz44_3⟩ := hkc4 BK544
       obtain ⟨hcz45_0, hfz45_0, hcz45_1, hfz45_1, hcz45_2, hfz45_2, hcz45_3, hfz45_3⟩ := hkc4 BK543
       go_wp2
       refine bodyPost_ret (results_cell_row rfl _ _ gb543 33 #[.int .i64 1, .bool false, .int .i64 1, .int .i64 (-1074)] (0, 0) _ rfl hkPp Tryd.underlying33 rfl (by kernel_rfl)) rfl ?_
       exact ⟨hkE, hkS HB⟩
      ·rw [if_neg c39] at H
       have c39b0 : (a0_0 == 0) = false := beq_eq_false_iff_ne.mpr c39
       have c39b1 : (a0_0 != 0) = true := bne_iff_ne.mpr c39
       by_cases c46 : a0_1 = true
       ·subst c46
        have H1 : (if a0_2 = 4503599627370496 then (spec_FlNext.j1 kj3 (decide (a0_3 > (-1074))) a0_0 true a0_2 a0_3) else (spec_FlNext.j1 kj3 false a0_0 true a0_2 a0_3)) = some (r1, r2, r3, r4) := by rw [if_pos rfl] at H; exact H
        clear H
        have H := H1
        clear H1
        have HC47 := Aside0.mk H
        clear H
        have hnb48 := NB542_543.out
        have hnc48 := NB543_542.out
        have hnb49 := NB542_544.out
        have hnc49 := NB544_542.out
        obtain ⟨hcz50_0, hfz50_0, hcz50_1, hfz50_1, hcz50_2, hfz50_2, hcz50_3, hfz50_3⟩ := hkc4 BK542
        go_upto_region 18 with (fail)
        go_cut [62] (fun v62 wc => ∃ (kq : Nat) (x62_46 : Bool), v62 = .bool x62_46 ∧ Aside0 (spec_FlNext.j1 kq x62_46 a0_0 true a0_2 a0_3 = some (r1, r2, r3, r4)) ∧ Aside0 (kq ≤ kj3) ∧ Aside0 (wc.heap[gb542]? = some (.cells #[.int .i64 a0_0, .bool true, .int .i64 a0_2, .int .i64 a0_3] 33 (0, 0))) ∧ Aside0 (wc.heap[gb543]? = some (.cells #[.int .i64 0, .bool false, .int .i64 0, .int .i64 0] 33 (0, 0))) ∧ Aside0 (wc.heap[gb544]? = some (.cells #[.int .i64 1, .bool false, .int .i64 1, .int .i64 (-1074)] 33 (0, 0))) ∧ Aside0 (Below w.heap.size w wc))
        case first =>
         have H := HC47.out
         clear HC47
         by_cases c51 : a0_2 = 4503599627370496
         ·rw [if_pos c51] at H
          have c51b0 : (a0_2 == 4503599627370496) = true := beq_iff_eq.mpr c51
          have c51b1 : (a0_2 != 4503599627370496) = false := bne_eq_false_iff_eq.mpr c51
          clear c51
          (first | rw [c51b0] | (simp only [i64_w, i32_w]; rw [c51b0]) | skip)
          have H' := Aside0.mk H
          clear H
          have hnb52 := NB542_543.out
          have hnc52 := NB543_542.out
          have hnb53 := NB542_544.out
          have hnc53 := NB544_542.out
          obtain ⟨hcz54_0, hfz54_0, hcz54_1, hfz54_1, hcz54_2, hfz54_2, hcz54_3, hfz54_3⟩ := hkc4 BK542
          go_wp2
          go_meet
          case rel => exact ⟨_, (decide (a0_3 > (-1074))), (by first | rfl | (simp; done) | (simp [*]; done)), H', ⟨by have := HJ3.out; first | omega | exact Nat.le_refl _⟩, ⟨by refine hkz ?_; exact BK542.out⟩, ⟨by refine hkz ?_; exact BK543.out⟩, ⟨by refine hkz ?_; exact BK544.out⟩, ⟨hkS HB⟩⟩
         ·rw [if_neg c51] at H
          have c51b0 : (a0_2 == 4503599627370496) = false := beq_eq_false_iff_ne.mpr c51
          have c51b1 : (a0_2 != 4503599627370496) = true := bne_iff_ne.mpr c51
          (first | rw [c51b0] | (simp only [i64_w, i32_w]; rw [c51b0]) | skip)
          have H' := Aside0.mk H
          clear H
          have hnb55 := NB542_543.out
          have hnc55 := NB543_542.out
          have hnb56 := NB542_544.out
          have hnc56 := NB544_542.out
          obtain ⟨hcz57_0, hfz57_0, hcz57_1, hfz57_1, hcz57_2, hfz57_2, hcz57_3, hfz57_3⟩ := hkc4 BK542
          go_wp2
          go_meet
          case rel => exact ⟨_, (false), (by first | rfl | (simp; done) | (simp [*]; done)), H', ⟨by have := HJ3.out; first | omega | exact Nat.le_refl _⟩, ⟨by refine hkz ?_; exact BK542.out⟩, ⟨by refine hkz ?_; exact BK543.out⟩, ⟨by refine hkz ?_; exact BK544.out⟩, ⟨hkS HB⟩⟩
        case rest =>
         clear HC47
         try clear c1
         try clear c2
         try clear p2
         try clear c3
         try clear c4
         try clear c5
         try clear p6
         try clear c8
         try clear c9
         try clear c11
         try clear c14
         try clear c14b0
         try clear c14b1
         try clear c15
         try clear c16
         try clear c18
         try clear c18b0
         try clear c18b1
         try clear c19
         try clear c20
         try clear c22
         try clear c23
         try clear c25
         try clear c26
         try clear c27
         try clear c29
         try clear c31
         try clear c31b0
         try clear c31b1
         try clear c33
         try clear c34
         try clear c36
         try clear c37
         try clear c39
         try clear c39b0
         try clear c39b1
         try clear c40
         try clear c41
         try clear c43
         try clear c46
         try clear c48
         try clear c49
         try clear c51
         try clear c51b0
         try clear c51b1
         try clear c52
         try clear c53
         try clear c55
         try clear c56
         try clear hcz10_0 hcz10_1 hcz10_2 hcz10_3 hcz12_0 hcz12_1 hcz12_2 hcz12_3 hcz17_0 hcz17_1 hcz17_2 hcz17_3 hcz21_0 hcz21_1 hcz21_2 hcz21_3 hcz24_0 hcz24_1 hcz24_2 hcz24_3 hcz28_0 hcz28_1 hcz28_2 hcz28_3 hcz30_0 hcz30_1 hcz30_2 hcz30_3 hcz35_0 hcz35_1 hcz35_2 hcz35_3 hcz38_0 hcz38_1 hcz38_2 hcz38_3 hcz42_0 hcz42_1 hcz42_2 hcz42_3 hcz44_0 hcz44_1 hcz44_2 hcz44_3 hcz45_0 hcz45_1 hcz45_2 hcz45_3 hcz50_0 hcz50_1 hcz50_2 hcz50_3 hcz54_0 hcz54_1 hcz54_2 hcz54_3 hcz57_0 hcz57_1 hcz57_2 hcz57_3 hfz10_0 hfz10_1 hfz10_2 hfz10_3 hfz12_0 hfz12_1 hfz12_2 hfz12_3 hfz17_0 hfz17_1 hfz17_2 hfz17_3 hfz21_0 hfz21_1 hfz21_2 hfz21_3 hfz24_0 hfz24_1 hfz24_2 hfz24_3 hfz28_0 hfz28_1 hfz28_2 hfz28_3 hfz30_0 hfz30_1 hfz30_2 hfz30_3 hfz35_0 hfz35_1 hfz35_2 hfz35_3 hfz38_0 hfz38_1 hfz38_2 hfz38_3 hfz42_0 hfz42_1 hfz42_2 hfz42_3 hfz44_0 hfz44_1 hfz44_2 hfz44_3 hfz45_0 hfz45_1 hfz45_2 hfz45_3 hfz50_0 hfz50_1 hfz50_2 hfz50_3 hfz54_0 hfz54_1 hfz54_2 hfz54_3 hfz57_0 hfz57_1 hfz57_2 hfz57_3
         try clear p2
         obtain ⟨kq, x62_46, rfl, HA, HJ46, BK542, BK543, BK544, HB⟩ := hcut
         cases kq with
         | zero => exact absurd HA.out (by simp [spec_FlNext.j1])
         | succ kj46 =>
          have H := HA.out
          clear HA
          simp only [spec_FlNext.j1] at H
          by_cases c58 : x62_46 = true
          ·subst c58
           have H1 : (some (a0_0, true, 9007199254740991, wrap64 (a0_3 - 1))) = some (r1, r2, r3, r4) := by rw [if_pos rfl] at H; exact H
           clear H
           have H := H1
           clear H1
           simp only [Option.some.injEq, Prod.mk.injEq] at H
           obtain ⟨rfl, rfl, rfl, rfl⟩ := H
           have hnb59 := NB542_543.out
           have hnc59 := NB543_542.out
           have hnb60 := NB542_544.out
           have hnc60 := NB544_542.out
           obtain ⟨hcz61_0, hfz61_0, hcz61_1, hfz61_1, hcz61_2, hfz61_2, hcz61_3, hfz61_3⟩ := hkc4 BK542
           have hnb62 := NB543_544.out
           have hnc62 := NB544_543.out
           obtain ⟨hcz63_0, hfz63_0, hcz63_1, hfz63_1, hcz63_2, hfz63_2, hcz63_3, hfz63_3⟩ := hkc4 BK543
           go_wp2
           refine bodyPost_ret (results_cell_row rfl _ _ gb543 33 #[.int .i64 a0_0, .bool true, .int .i64 9007199254740991, .int .i64 (wrap64 (a0_3 - 1))] (0, 0) _ rfl hkPp Tryd.underlying33 rfl (by kernel_rfl)) rfl ?_
           exact ⟨hkE, hkS HB⟩
          ·replace c58 := Bool.eq_false_iff.mpr c58
           subst c58
           have H1 : (if (wrap64 (a0_2 - 1)) = 0 then (some (0, true, 0, 0)) else (some (a0_0, true, wrap64 (a0_2 - 1), a0_3))) = some (r1, r2, r3, r4) := by rw [if_neg (show ¬ (false = true) by decide)] at H; exact H
           clear H
           have H := H1
           clear H1
           by_cases c64 : (wrap64 (a0_2 - 1)) = 0
           ·rw [if_pos c64] at H
            have c64b0 : ((wrap64 (a0_2 - 1)) == 0) = true := beq_iff_eq.mpr c64
            have c64b1 : ((wrap64 (a0_2 - 1)) != 0) = false := bne_eq_false_iff_eq.mpr c64
            clear c64
            simp only [Option.some.injEq, Prod.mk.injEq] at H
            obtain ⟨rfl, rfl, rfl, rfl⟩ := H
            have hnb65 := NB542_543.out
            have hnc65 := NB543_542.out
            have hnb66 := NB542_544.out
            have hnc66 := NB544_542.out
            obtain ⟨hcz67_0, hfz67_0, hcz67_1, hfz67_1, hcz67_2, hfz67_2, hcz67_3, hfz67_3⟩ := hkc4 BK542
            have hnb68 := NB543_544.out
            have hnc68 := NB544_543.out
            obtain ⟨hcz69_0, hfz69_0, hcz69_1, hfz69_1, hcz69_2, hfz69_2, hcz69_3, hfz69_3⟩ := hkc4 BK543
            go_wp2
            refine bodyPost_ret (results_cell_row rfl _ _ gb543 33 #[.int .i64 0, .bool true, .int .i64 0, .int .i64 0] (0, 0) _ rfl hkPp Tryd.underlying33 rfl (by kernel_rfl)) rfl ?_
            exact ⟨hkE, hkS HB⟩
           ·rw [if_neg c64] at H
            have c64b0 : ((wrap64 (a0_2 - 1)) == 0) = false := beq_eq_false_iff_ne.mpr c64
            have c64b1 : ((wrap64 (a0_2 - 1)) != 0) = true := bne_iff_ne.mpr c64
            simp only [Option.some.injEq, Prod.mk.injEq] at H
            obtain ⟨rfl, rfl, rfl, rfl⟩ := H
            have hnb70 := NB542_543.out
            have hnc70 := NB543_542.out
            have hnb71 := NB542_544.out
            have hnc71 := NB544_542.out
            obtain ⟨hcz72_0, hfz72_0, hcz72_1, hfz72_1, hcz72_2, hfz72_2, hcz72_3, hfz72_3⟩ := hkc4 BK542
            have hnb73 := NB543_544.out
            have hnc73 := NB544_543.out
            obtain ⟨hcz74_0, hfz74_0, hcz74_1, hfz74_1, hcz74_2, hfz74_2, hcz74_3, hfz74_3⟩ := hkc4 BK543
            go_wp2
            refine bodyPost_ret (results_cell_row rfl _ _ gb543 33 #[.int .i64 a0_0, .bool true, .int .i64 (wrap64 (a0_2 - 1)), .int .i64 a0_3] (0, 0) _ rfl hkPp Tryd.underlying33 rfl (by kernel_rfl)) rfl ?_
            exact ⟨hkE, hkS HB⟩
       ·replace c46 := Bool.eq_false_iff.mpr c46
        subst c46
        have H1 : (if (wrap64 (a0_2 + 1)) = 9007199254740992 then (if (wrap64 (a0_3 + 1)) > 971 then (some (2, false, 0, 0)) else (some (a0_0, false, 4503599627370496, wrap64 (a0_3 + 1)))) else (if a0_3 > 971 then (some (2, false, 0, 0)) else (some (a0_0, false, wrap64 (a0_2 + 1), a0_3)))) = some (r1, r2, r3, r4) := by rw [if_neg (show ¬ (false = true) by decide)] at H; exact H
        clear H
        have H := H1
        clear H1
        by_cases c75 : (wrap64 (a0_2 + 1)) = 9007199254740992
        ·rw [if_pos c75] at H
         have c75b0 : ((wrap64 (a0_2 + 1)) == 9007199254740992) = true := beq_iff_eq.mpr c75
         have c75b1 : ((wrap64 (a0_2 + 1)) != 9007199254740992) = false := bne_eq_false_iff_eq.mpr c75
         clear c75
         by_cases c76 : (wrap64 (a0_3 + 1)) > 971
         ·rw [if_pos c76] at H
          have c76b0 : decide (971 < (wrap64 (a0_3 + 1))) = true := decide_eq_true c76
          clear c76
          simp only [Option.some.injEq, Prod.mk.injEq] at H
          obtain ⟨rfl, rfl, rfl, rfl⟩ := H
          have hnb77 := NB542_543.out
          have hnc77 := NB543_542.out
          have hnb78 := NB542_544.out
          have hnc78 := NB544_542.out
          obtain ⟨hcz79_0, hfz79_0, hcz79_1, hfz79_1, hcz79_2, hfz79_2, hcz79_3, hfz79_3⟩ := hkc4 BK542
          have hnb80 := NB543_544.out
          have hnc80 := NB544_543.out
          obtain ⟨hcz81_0, hfz81_0, hcz81_1, hfz81_1, hcz81_2, hfz81_2, hcz81_3, hfz81_3⟩ := hkc4 BK543
          go_wp2
          refine bodyPost_ret (results_cell_row rfl _ _ gb543 33 #[.int .i64 2, .bool false, .int .i64 0, .int .i64 0] (0, 0) _ rfl hkPp Tryd.underlying33 rfl (by kernel_rfl)) rfl ?_
          exact ⟨hkE, hkS HB⟩
         ·rw [if_neg c76] at H
          have c76b0 : decide (971 < (wrap64 (a0_3 + 1))) = false := decide_eq_false c76
          clear c76
          simp only [Option.some.injEq, Prod.mk.injEq] at H
          obtain ⟨rfl, rfl, rfl, rfl⟩ := H
          have hnb82 := NB542_543.out
          have hnc82 := NB543_542.out
          have hnb83 := NB542_544.out
          have hnc83 := NB544_542.out
          obtain ⟨hcz84_0, hfz84_0, hcz84_1, hfz84_1, hcz84_2, hfz84_2, hcz84_3, hfz84_3⟩ := hkc4 BK542
          have hnb85 := NB543_544.out
          have hnc85 := NB544_543.out
          obtain ⟨hcz86_0, hfz86_0, hcz86_1, hfz86_1, hcz86_2, hfz86_2, hcz86_3, hfz86_3⟩ := hkc4 BK543
          go_wp2
          refine bodyPost_ret (results_cell_row rfl _ _ gb543 33 #[.int .i64 a0_0, .bool false, .int .i64 4503599627370496, .int .i64 (wrap64 (a0_3 + 1))] (0, 0) _ rfl hkPp Tryd.underlying33 rfl (by kernel_rfl)) rfl ?_
          exact ⟨hkE, hkS HB⟩
        ·rw [if_neg c75] at H
         have c75b0 : ((wrap64 (a0_2 + 1)) == 9007199254740992) = false := beq_eq_false_iff_ne.mpr c75
         have c75b1 : ((wrap64 (a0_2 + 1)) != 9007199254740992) = true := bne_iff_ne.mpr c75
         by_cases c87 : a0_3 > 971
         ·rw [if_pos c87] at H
          have c87b0 : decide (971 < a0_3) = true := decide_eq_true c87
          clear c87
          simp only [Option.some.injEq, Prod.mk.injEq] at H
          obtain ⟨rfl, rfl, rfl, rfl⟩ := H
          have hnb88 := NB542_543.out
          have hnc88 := NB543_542.out
          have hnb89 := NB542_544.out
          have hnc89 := NB544_542.out
          obtain ⟨hcz90_0, hfz90_0, hcz90_1, hfz90_1, hcz90_2, hfz90_2, hcz90_3, hfz90_3⟩ := hkc4 BK542
          have hnb91 := NB543_544.out
          have hnc91 := NB544_543.out
          obtain ⟨hcz92_0, hfz92_0, hcz92_1, hfz92_1, hcz92_2, hfz92_2, hcz92_3, hfz92_3⟩ := hkc4 BK543
          go_wp2
          refine bodyPost_ret (results_cell_row rfl _ _ gb543 33 #[.int .i64 2, .bool false, .int .i64 0, .int .i64 0] (0, 0) _ rfl hkPp Tryd.underlying33 rfl (by kernel_rfl)) rfl ?_
          exact ⟨hkE, hkS HB⟩
         ·rw [if_neg c87] at H
          have c87b0 : decide (971 < a0_3) = false := decide_eq_false c87
          clear c87
          simp only [Option.some.injEq, Prod.mk.injEq] at H
          obtain ⟨rfl, rfl, rfl, rfl⟩ := H
          have hnb93 := NB542_543.out
          have hnc93 := NB543_542.out
          have hnb94 := NB542_544.out
          have hnc94 := NB544_542.out
          obtain ⟨hcz95_0, hfz95_0, hcz95_1, hfz95_1, hcz95_2, hfz95_2, hcz95_3, hfz95_3⟩ := hkc4 BK542
          have hnb96 := NB543_544.out
          have hnc96 := NB544_543.out
          obtain ⟨hcz97_0, hfz97_0, hcz97_1, hfz97_1, hcz97_2, hfz97_2, hcz97_3, hfz97_3⟩ := hkc4 BK543
          go_wp2
          refine bodyPost_ret (results_cell_row rfl _ _ gb543 33 #[.int .i64 a0_0, .bool false, .int .i64 (wrap64 (a0_2 + 1)), .int .i64 a0_3] (0, 0) _ rfl hkPp Tryd.underlying33 rfl (by kernel_rfl)) rfl ?_
          exact ⟨hkE, hkS HB⟩
 ·replace c3 := Bool.eq_false_iff.mpr c3
  subst c3
  have H1 : ((spec_l5nan.f).bind fun bt550 => (some (bt550.1, bt550.2.1, bt550.2.2.1, bt550.2.2.2))) = some (r1, r2, r3, r4) := by rw [if_neg (show ¬ (false = true) by decide)] at H; exact H
  clear H
  have H := H1
  clear H1
  replace H := hBi H
  obtain ⟨⟨t550, t551, t552, t553⟩, A980, H⟩ := H
  replace H : (some (t550, t551, t552, t553)) = some (r1, r2, r3, r4) := H
  have A98 := Aside0.mk A980
  clear A980
  simp only [Option.some.injEq, Prod.mk.injEq] at H
  obtain ⟨rfl, rfl, rfl, rfl⟩ := H
  go_enter Tryd.func96, Tryd.ntmps96
  go_wp2_with (first | ((with_reducible refine gate_dst (N := 1) rfl ?_); refine hkBox (N := 1) (cs := #[.int .i64 a0_0, .bool a0_1, .int .i64 a0_2, .int .i64 a0_3]) (t := 33) ?_; intro gb542 hg w99 hbox hb; have n_ := hkA (hkU HB hb) (hkA (Aside0.mk (hbox)) (hkA (hkG hg (hkS HB)) (hkG hg (hkS HB)))); clear HB; obtain ⟨HB, BK542, GW542, GE542⟩ := n_; clear hb hbox hg) | ((with_reducible refine gate_dst (N := 2) rfl ?_); refine hkBox (N := 2) (cs := #[.int .i64 0, .bool false, .int .i64 0, .int .i64 0]) (t := 33) ?_; intro gb543 hg w100 hbox hb; have n_ := hkA (hkBb BK542 hb) (hkA (hkU HB hb) (hkA (Aside0.mk (hbox)) (hkA (hkG hg (hkS HB)) (hkA (hkG hg (hkS HB)) (hkA (hkN hg BK542) (hkM hg BK542)))))); clear BK542 HB; obtain ⟨BK542, HB, BK543, GW543, GE543, NB542_543, NB543_542⟩ := n_; clear hb hbox hg) | ((with_reducible refine gate_dst (N := 3) rfl ?_); refine hkBox (N := 3) (cs := #[.int .i64 0, .bool false, .int .i64 0, .int .i64 0]) (t := 33) ?_; intro gb544 hg w101 hbox hb; have n_ := hkA (hkBb BK542 hb) (hkA (hkBb BK543 hb) (hkA (hkU HB hb) (hkA (Aside0.mk (hbox)) (hkA (hkG hg (hkS HB)) (hkA (hkG hg (hkS HB)) (hkA (hkN hg BK542) (hkA (hkM hg BK542) (hkA (hkN hg BK543) (hkM hg BK543))))))))); clear BK542 BK543 HB; obtain ⟨BK542, BK543, HB, BK544, GW544, GE544, NB542_544, NB544_542, NB543_544, NB544_543⟩ := n_; clear hb hbox hg; have hnb102 := NB544_542.out; have hnc102 := NB542_544.out; have hnb103 := NB544_543.out; have hnc103 := NB543_544.out; obtain ⟨hcz104_0, hfz104_0, hcz104_1, hfz104_1, hcz104_2, hfz104_2, hcz104_3, hfz104_3⟩ := hkc4 BK544; have hnb105 := NB542_543.out; have hnc105 := NB543_542.out; obtain ⟨hcz106_0, hfz106_0, hcz106_1, hfz106_1, hcz106_2, hfz106_2, hcz106_3, hfz106_3⟩ := hkc4 BK542) | ((with_reducible refine gate_callee (f := 36) rfl ?_); refine hkGo (N := some 7) Tryd.func36 #[.agg #[.int .i64 a0_0, .bool a0_1, .int .i64 a0_2, .int .i64 a0_3]] ?_; (with_reducible refine (spec_FlOk.calls k a0_0 a0_1 a0_2 a0_3 false _ A2.out).mono ?_); rintro e w107 ⟨rfl, hb⟩; refine ⟨_, rfl, ?_⟩; have n_ := hkA (Aside0.mk (blk_below (g := gb542) (o := .cells #[.int .i64 a0_0, .bool a0_1, .int .i64 a0_2, .int .i64 a0_3] 33 (0, 0)) hkPp hb)) (hkA (Aside0.mk (blk_below (g := gb543) (o := .cells #[.int .i64 0, .bool false, .int .i64 0, .int .i64 0] 33 (0, 0)) hkPp hb)) (hkA (Aside0.mk (blk_below (g := gb544) (o := .cells #[.int .i64 1, .bool false, .int .i64 1, .int .i64 (-1074)] 33 (0, 0)) hkPp hb)) (hkU HB hb))); clear BK542 BK543 BK544 HB; obtain ⟨BK542, BK543, BK544, HB⟩ := n_; (try clear hb)) | ((with_reducible refine gate_callee (f := 117) rfl ?_); refine hkGo (N := some 9) Tryd.func117 #[] ?_; (with_reducible refine (spec_l5nan.calls  t550 t551 t552 t553 _ A98.out).mono ?_); rintro e w108 ⟨rfl, hb⟩; refine ⟨_, rfl, ?_⟩; have n_ := hkA (hkBb BK542 hb) (hkA (hkBb BK543 hb) (hkA (hkBb BK544 hb) (hkU HB hb))); clear BK542 BK543 BK544 HB; obtain ⟨BK542, BK543, BK544, HB⟩ := n_; (try clear hb); obtain ⟨hcz109_0, hfz109_0, hcz109_1, hfz109_1, hcz109_2, hfz109_2, hcz109_3, hfz109_3⟩ := hkc4 BK543))
  refine bodyPost_ret (results_cell_row rfl _ _ gb543 33 #[.int .i64 t550, .bool t551, .int .i64 t552, .int .i64 t553] (0, 0) _ rfl hkPp Tryd.underlying33 rfl (by kernel_rfl)) rfl ?_
  exact ⟨hkE, hkS HB⟩

end Go.Proofs.YtgjpahofopoflaaDoor.PFnFlOrder
