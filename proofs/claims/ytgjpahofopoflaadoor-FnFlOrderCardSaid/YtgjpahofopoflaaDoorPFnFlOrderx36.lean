-- Written by our own driver (wip/hand/hprint.py) over the seat's translation.
import Derived.Test.YtgjpahofopoflaaDoorPFnFlOrderx0
namespace Go.Proofs.YtgjpahofopoflaaDoor.PFnFlOrder
open Go.RowKit Go.Proofs.YtgjpahofopoflaaDoorW.PrintWords Go.Proofs.YtgjpahofopoflaaDoorW.PrintLast Go.Proofs.YtgjpahofopoflaaDoorW.PrintMore
attribute [local go_sem] max2_int min2_int max_two min_two max_three min_three max_four min_four   -- for this text's walks alone
set_option linter.unusedVariables false
set_option linter.unusedSimpArgs false

/-! ### spec_l2cmp: function 124 -/
def spec_l2cmp.l0 : Nat → Int → List Int → List Int → Option (Int)
 | 0, _, _, _ => none
 | k + 1, x5, x702000, x703000 => if x5 ≥ 0 then (if 0 ≤ x5 then (if x5 < (x702000.length : Int) then (if x5 < (x703000.length : Int) then (if (rd x702000 x5) < (rd x703000 x5) then (some (-1)) else (if (rd x702000 x5) > (rd x703000 x5) then (some 1) else (spec_l2cmp.l0 k (wrap64 (x5 - 1)) x702000 x703000))) else (none)) else (none)) else (none)) else (some 0)
def spec_l2cmp.f (k : Nat) (l0_0 : List Int) (l1_0 : List Int) : Option (Int) := if (l0_0.length : Int) = (l1_0.length : Int) then (spec_l2cmp.l0 k (wrap64 ((l0_0.length : Int) - 1)) l0_0 l1_0) else (if (l0_0.length : Int) < (l1_0.length : Int) then (some (-1)) else (some 1))
theorem spec_l2cmp.mono_l : ∀ k, (∀ y0 y1 y2, LeO (spec_l2cmp.l0 k y0 y1 y2) (spec_l2cmp.l0 (k + 1) y0 y1 y2))
 | 0 => fun _ _ _ r h => by simp [spec_l2cmp.l0] at h
 | k + 1 => by
  have ih0 := spec_l2cmp.mono_l k
  ·intro y0 y1 y2
   unfold spec_l2cmp.l0
   repeat' first
   | (with_reducible exact ih0 _ _ _)
   | (with_reducible exact LeO.refl _)
   | (with_reducible exact LeO.none _)
   | (with_reducible refine LeO.ite ?_ ?_)
   | (with_reducible refine LeO.bind ?_ (fun _ => ?_))
   | exact ih0 _ _ _
   | exact LeO.none _
   | refine LeO.ite ?_ ?_
   | refine LeO.bind ?_ (fun _ => ?_)
theorem spec_l2cmp.mono : ∀ a0 a1 k, LeO (spec_l2cmp.f k a0 a1) (spec_l2cmp.f (k + 1) a0 a1) := by
 intro a0 a1 k
 have ih0 := spec_l2cmp.mono_l k
 unfold spec_l2cmp.f
 repeat' first
   | (with_reducible exact ih0 _ _ _)
   | (with_reducible exact LeO.refl _)
   | (with_reducible exact LeO.none _)
   | (with_reducible refine LeO.ite ?_ ?_)
   | (with_reducible refine LeO.bind ?_ (fun _ => ?_))
   | exact ih0 _ _ _
   | exact LeO.none _
   | refine LeO.ite ?_ ?_
   | refine LeO.bind ?_ (fun _ => ?_)
set_option maxHeartbeats 8000000 in
set_option maxRecDepth 100000 in
theorem spec_l2cmp.calls (k : Nat) (A0_0 : Option Addr) (c0_0 : Nat) (l0_0 : List Int) (A1_0 : Option Addr) (c1_0 : Nat) (l1_0 : List Int) (r : Int) (w : World) (hr0_0 : Kd.C (Kd.int .i64) w A0_0 l0_0.length l0_0) (hc0_0 : l0_0.length ≤ c0_0) (hr1_0 : Kd.C (Kd.int .i64) w A1_0 l1_0.length l1_0) (hc1_0 : l1_0.length ≤ c1_0) (h : spec_l2cmp.f k l0_0 l1_0 = some r) :
  Calls Tryd.prog 124 #[.agg #[.slice A0_0 l0_0.length c0_0], .agg #[.slice A1_0 l1_0.length c1_0]] w fun e w' => e = .returned (.int .i64 r) ∧ Below w.heap.size w w' := by
 have hu26 := Tryd.underlying26
 have HR0_0 := Aside0.mk hr0_0
 have HC0_0 := Aside0.mk hc0_0
 clear hr0_0 hc0_0
 have HR1_0 := Aside0.mk hr1_0
 have HC1_0 := Aside0.mk hc1_0
 clear hr1_0 hc1_0
 have HB := Aside0.mk (Below.refl w.heap.size w)
 have H : (if (l0_0.length : Int) = (l1_0.length : Int) then (spec_l2cmp.l0 k (wrap64 ((l0_0.length : Int) - 1)) l0_0 l1_0) else (if (l0_0.length : Int) < (l1_0.length : Int) then (some (-1)) else (some 1))) = some r := h
 clear h
 by_cases c3 : (l0_0.length : Int) = (l1_0.length : Int)
 ·rw [if_pos c3] at H
  have c3b0 : ((l0_0.length : Int) == (l1_0.length : Int)) = true := beq_iff_eq.mpr c3
  have c3b1 : ((l0_0.length : Int) != (l1_0.length : Int)) = false := bne_eq_false_iff_eq.mpr c3
  have c3b2 : (l0_0.length == l1_0.length) = true := by first | simpa using c3 | (simp at c3 ⊢; omega)
  clear c3
  have H' := Aside0.mk H
  clear H
  go_enter Tryd.func124, Tryd.ntmps124
  go_wp2_with (first | ((with_reducible refine gate_dst (N := 2) rfl ?_); refine hkBox (N := 2) (cs := #[.slice A0_0 l0_0.length c0_0]) (t := 26) ?_; intro gb701 hg w4 hbox hb; have n_ := hkA (hkU HB hb) (hkA (Aside0.mk (hbox)) (hkA (hkG hg (hkS HB)) (hkG hg (hkS HB)))); clear HB; obtain ⟨HB, BK701, GW701, GE701⟩ := n_; clear hb hbox hg) | ((with_reducible refine gate_dst (N := 3) rfl ?_); refine hkBox (N := 3) (cs := #[.slice A1_0 l1_0.length c1_0]) (t := 26) ?_; intro gb702 hg w5 hbox hb; have n_ := hkA (hkBb BK701 hb) (hkA (hkU HB hb) (hkA (Aside0.mk (hbox)) (hkA (hkG hg (hkS HB)) (hkA (hkG hg (hkS HB)) (hkA (hkN hg BK701) (hkM hg BK701)))))); clear BK701 HB; obtain ⟨BK701, HB, BK702, GW702, GE702, NB701_702, NB702_701⟩ := n_; clear hb hbox hg; have hnb6 := NB701_702.out; have hnc6 := NB702_701.out; obtain ⟨hcz7_0, hfz7_0⟩ := hkc1 BK701; obtain ⟨hcz8_0, hfz8_0⟩ := hkc1 BK702))
  repeat (go_quiet (first | ((with_reducible refine gate_dst (N := 2) rfl ?_); refine hkBox (N := 2) (cs := #[.slice A0_0 l0_0.length c0_0]) (t := 26) ?_; intro gb701 hg w4 hbox hb; have n_ := hkA (hkU HB hb) (hkA (Aside0.mk (hbox)) (hkA (hkG hg (hkS HB)) (hkG hg (hkS HB)))); clear HB; obtain ⟨HB, BK701, GW701, GE701⟩ := n_; clear hb hbox hg) | ((with_reducible refine gate_dst (N := 3) rfl ?_); refine hkBox (N := 3) (cs := #[.slice A1_0 l1_0.length c1_0]) (t := 26) ?_; intro gb702 hg w5 hbox hb; have n_ := hkA (hkBb BK701 hb) (hkA (hkU HB hb) (hkA (Aside0.mk (hbox)) (hkA (hkG hg (hkS HB)) (hkA (hkG hg (hkS HB)) (hkA (hkN hg BK701) (hkM hg BK701)))))); clear BK701 HB; obtain ⟨BK701, HB, BK702, GW702, GE702, NB701_702, NB702_701⟩ := n_; clear hb hbox hg; have hnb6 := NB701_702.out; have hnc6 := NB702_701.out; obtain ⟨hcz7_0, hfz7_0⟩ := hkc1 BK701; obtain ⟨hcz8_0, hfz8_0⟩ := hkc1 BK702)); try go_wp2_with (first | ((with_reducible refine gate_dst (N := 2) rfl ?_); refine hkBox (N := 2) (cs := #[.slice A0_0 l0_0.length c0_0]) (t := 26) ?_; intro gb701 hg w4 hbox hb; have n_ := hkA (hkU HB hb) (hkA (Aside0.mk (hbox)) (hkA (hkG hg (hkS HB)) (hkG hg (hkS HB)))); clear HB; obtain ⟨HB, BK701, GW701, GE701⟩ := n_; clear hb hbox hg) | ((with_reducible refine gate_dst (N := 3) rfl ?_); refine hkBox (N := 3) (cs := #[.slice A1_0 l1_0.length c1_0]) (t := 26) ?_; intro gb702 hg w5 hbox hb; have n_ := hkA (hkBb BK701 hb) (hkA (hkU HB hb) (hkA (Aside0.mk (hbox)) (hkA (hkG hg (hkS HB)) (hkA (hkG hg (hkS HB)) (hkA (hkN hg BK701) (hkM hg BK701)))))); clear BK701 HB; obtain ⟨BK701, HB, BK702, GW702, GE702, NB701_702, NB702_701⟩ := n_; clear hb hbox hg; have hnb6 := NB701_702.out; have hnc6 := NB702_701.out; obtain ⟨hcz7_0, hfz7_0⟩ := hkc1 BK701; obtain ⟨hcz8_0, hfz8_0⟩ := hkc1 BK702)))
  go_loopg [5] k (fun kq v5 w' => ∃ (x5_1 : Int), v5 = .int .i64 x5_1 ∧ Aside0 (spec_l2cmp.l0 kq x5_1 l0_0 l1_0 = some r) ∧ Aside0 (kq ≤ k) ∧ Aside0 (w'.heap[gb701]? = some (.cells #[(.slice A0_0 l0_0.length c0_0)] 26 (0, 0))) ∧ Aside0 (w'.heap[gb702]? = some (.cells #[(.slice A1_0 l1_0.length c1_0)] 26 (0, 0))) ∧ Aside0 (Below w.heap.size w w'))
  case atStart => exact ⟨(wrap64 ((l0_0.length : Int) - 1)), (by first | rfl | (simp; done) | (simp [*]; done)), H', ⟨Nat.le_refl _⟩, ⟨by refine hkz ?_; exact BK701.out⟩, ⟨by refine hkz ?_; exact BK702.out⟩, ⟨hkS HB⟩⟩
  case round =>
   clear H'
   try clear c1
   try clear p2
   try clear c3
   try clear c3b0
   try clear c3b1
   try clear c3b2
   try clear c6
   try clear p6
   try clear hcz7_0 hcz8_0 hfz7_0 hfz8_0
   obtain ⟨x5_1, rfl, HA, HK1, BK701, BK702, HB⟩ := hrel
   cases gk with
   | zero => exact absurd HA.out (by simp [spec_l2cmp.l0])
   | succ k1 =>
    have H := HA.out
    clear HA
    simp only [spec_l2cmp.l0] at H
    by_cases c9 : x5_1 ≥ 0
    ·rw [if_pos c9] at H
     have c9b0 : decide (0 ≤ x5_1) = true := decide_eq_true c9
     clear c9
     by_cases c10 : 0 ≤ x5_1
     ·rw [if_pos c10] at H
      have c10b0 : decide (0 ≤ x5_1) = true := decide_eq_true c10
      clear c10
      by_cases c11 : x5_1 < (l0_0.length : Int)
      ·rw [if_pos c11] at H
       have c11b0 : decide (x5_1 < (l0_0.length : Int)) = true := decide_eq_true c11
       clear c11
       by_cases c12 : x5_1 < (l1_0.length : Int)
       ·rw [if_pos c12] at H
        have c12b0 : decide (x5_1 < (l1_0.length : Int)) = true := decide_eq_true c12
        clear c12
        by_cases c13 : (rd l0_0 x5_1) < (rd l1_0 x5_1)
        ·rw [if_pos c13] at H
         have c13b0 : decide ((rd l0_0 x5_1) < (rd l1_0 x5_1)) = true := decide_eq_true c13
         clear c13
         obtain rfl := Option.some.inj H
         have hnb14 := NB701_702.out
         have hnc14 := NB702_701.out
         obtain ⟨hcz15_0, hfz15_0⟩ := hkc1 BK701
         have p703 : 0 ≤ (x5_1 : Int) := of_decide_eq_true (by first | (with_reducible assumption) | assumption)
         have q703 : x5_1 < (l0_0.length : Int) := of_decide_eq_true (by first | (with_reducible assumption) | assumption)
         obtain ⟨ad703, e703, hx703_0⟩ := Kd.at_int HR0_0.out x5_1 p703 q703
         cases e703
         replace hx703_0 := (HB.out.cell (World.block_lt_of_cell? w _ hx703_0)).trans hx703_0
         replace p703 := eq_true p703
         replace q703 := eq_true q703
         obtain ⟨hcz16_0, hfz16_0⟩ := hkc1 BK702
         have p704 : 0 ≤ (x5_1 : Int) := of_decide_eq_true (by first | (with_reducible assumption) | assumption)
         have q704 : x5_1 < (l1_0.length : Int) := of_decide_eq_true (by first | (with_reducible assumption) | assumption)
         obtain ⟨ad704, e704, hx704_0⟩ := Kd.at_int HR1_0.out x5_1 p704 q704
         cases e704
         replace hx704_0 := (HB.out.cell (World.block_lt_of_cell? w _ hx704_0)).trans hx704_0
         replace p704 := eq_true p704
         replace q704 := eq_true q704
         go_wp2
         repeat (go_quiet (fail); try go_wp2)
         go_ret
         exact ⟨hkE, hkS HB⟩
        ·rw [if_neg c13] at H
         have c13b0 : decide ((rd l0_0 x5_1) < (rd l1_0 x5_1)) = false := decide_eq_false c13
         clear c13
         by_cases c17 : (rd l0_0 x5_1) > (rd l1_0 x5_1)
         ·rw [if_pos c17] at H
          have c17b0 : decide ((rd l1_0 x5_1) < (rd l0_0 x5_1)) = true := decide_eq_true c17
          clear c17
          obtain rfl := Option.some.inj H
          have hnb18 := NB701_702.out
          have hnc18 := NB702_701.out
          obtain ⟨hcz19_0, hfz19_0⟩ := hkc1 BK701
          have p703 : 0 ≤ (x5_1 : Int) := of_decide_eq_true (by first | (with_reducible assumption) | assumption)
          have q703 : x5_1 < (l0_0.length : Int) := of_decide_eq_true (by first | (with_reducible assumption) | assumption)
          obtain ⟨ad703, e703, hx703_0⟩ := Kd.at_int HR0_0.out x5_1 p703 q703
          cases e703
          replace hx703_0 := (HB.out.cell (World.block_lt_of_cell? w _ hx703_0)).trans hx703_0
          replace p703 := eq_true p703
          replace q703 := eq_true q703
          obtain ⟨hcz20_0, hfz20_0⟩ := hkc1 BK702
          have p704 : 0 ≤ (x5_1 : Int) := of_decide_eq_true (by first | (with_reducible assumption) | assumption)
          have q704 : x5_1 < (l1_0.length : Int) := of_decide_eq_true (by first | (with_reducible assumption) | assumption)
          obtain ⟨ad704, e704, hx704_0⟩ := Kd.at_int HR1_0.out x5_1 p704 q704
          cases e704
          replace hx704_0 := (HB.out.cell (World.block_lt_of_cell? w _ hx704_0)).trans hx704_0
          replace p704 := eq_true p704
          replace q704 := eq_true q704
          have p705 : 0 ≤ (x5_1 : Int) := of_decide_eq_true (by first | (with_reducible assumption) | assumption)
          have q705 : x5_1 < (l0_0.length : Int) := of_decide_eq_true (by first | (with_reducible assumption) | assumption)
          obtain ⟨ad705, e705, hx705_0⟩ := Kd.at_int HR0_0.out x5_1 p705 q705
          obtain rfl : ad703 = ad705 := (by injection e705)
          replace hx705_0 := (HB.out.cell (World.block_lt_of_cell? w _ hx705_0)).trans hx705_0
          replace p705 := eq_true p705
          replace q705 := eq_true q705
          have p706 : 0 ≤ (x5_1 : Int) := of_decide_eq_true (by first | (with_reducible assumption) | assumption)
          have q706 : x5_1 < (l1_0.length : Int) := of_decide_eq_true (by first | (with_reducible assumption) | assumption)
          obtain ⟨ad706, e706, hx706_0⟩ := Kd.at_int HR1_0.out x5_1 p706 q706
          obtain rfl : ad704 = ad706 := (by injection e706)
          replace hx706_0 := (HB.out.cell (World.block_lt_of_cell? w _ hx706_0)).trans hx706_0
          replace p706 := eq_true p706
          replace q706 := eq_true q706
          go_wp2
          repeat (go_quiet (fail); try go_wp2)
          go_ret
          exact ⟨hkE, hkS HB⟩
         ·rw [if_neg c17] at H
          have c17b0 : decide ((rd l1_0 x5_1) < (rd l0_0 x5_1)) = false := decide_eq_false c17
          clear c17
          have H' := Aside0.mk H
          clear H
          have hnb21 := NB701_702.out
          have hnc21 := NB702_701.out
          obtain ⟨hcz22_0, hfz22_0⟩ := hkc1 BK701
          have p703 : 0 ≤ (x5_1 : Int) := of_decide_eq_true (by first | (with_reducible assumption) | assumption)
          have q703 : x5_1 < (l0_0.length : Int) := of_decide_eq_true (by first | (with_reducible assumption) | assumption)
          obtain ⟨ad703, e703, hx703_0⟩ := Kd.at_int HR0_0.out x5_1 p703 q703
          cases e703
          replace hx703_0 := (HB.out.cell (World.block_lt_of_cell? w _ hx703_0)).trans hx703_0
          replace p703 := eq_true p703
          replace q703 := eq_true q703
          obtain ⟨hcz23_0, hfz23_0⟩ := hkc1 BK702
          have p704 : 0 ≤ (x5_1 : Int) := of_decide_eq_true (by first | (with_reducible assumption) | assumption)
          have q704 : x5_1 < (l1_0.length : Int) := of_decide_eq_true (by first | (with_reducible assumption) | assumption)
          obtain ⟨ad704, e704, hx704_0⟩ := Kd.at_int HR1_0.out x5_1 p704 q704
          cases e704
          replace hx704_0 := (HB.out.cell (World.block_lt_of_cell? w _ hx704_0)).trans hx704_0
          replace p704 := eq_true p704
          replace q704 := eq_true q704
          have p705 : 0 ≤ (x5_1 : Int) := of_decide_eq_true (by first | (with_reducible assumption) | assumption)
          have q705 : x5_1 < (l0_0.length : Int) := of_decide_eq_true (by first | (with_reducible assumption) | assumption)
          obtain ⟨ad705, e705, hx705_0⟩ := Kd.at_int HR0_0.out x5_1 p705 q705
          obtain rfl : ad703 = ad705 := (by injection e705)
          replace hx705_0 := (HB.out.cell (World.block_lt_of_cell? w _ hx705_0)).trans hx705_0
          replace p705 := eq_true p705
          replace q705 := eq_true q705
          have p706 : 0 ≤ (x5_1 : Int) := of_decide_eq_true (by first | (with_reducible assumption) | assumption)
          have q706 : x5_1 < (l1_0.length : Int) := of_decide_eq_true (by first | (with_reducible assumption) | assumption)
          obtain ⟨ad706, e706, hx706_0⟩ := Kd.at_int HR1_0.out x5_1 p706 q706
          obtain rfl : ad704 = ad706 := (by injection e706)
          replace hx706_0 := (HB.out.cell (World.block_lt_of_cell? w _ hx706_0)).trans hx706_0
          replace p706 := eq_true p706
          replace q706 := eq_true q706
          go_wp2
          repeat (go_quiet (fail); try go_wp2)
          go_roundg k1
          case measure => have := HK1.out; omega
          case rel => exact ⟨(wrap64 (x5_1 - 1)), (by first | rfl | (simp; done) | (simp [*]; done)), H', ⟨by have := HK1.out; omega⟩, ⟨by refine hkz ?_; exact BK701.out⟩, ⟨by refine hkz ?_; exact BK702.out⟩, ⟨hkS HB⟩⟩
       ·rw [if_neg c12] at H
        exact absurd H (by simp)
      ·rw [if_neg c11] at H
       exact absurd H (by simp)
     ·rw [if_neg c10] at H
      exact absurd H (by simp)
    ·rw [if_neg c9] at H
     have c9b0 : decide (0 ≤ x5_1) = false := decide_eq_false c9
     clear c9
     obtain rfl := Option.some.inj H
     go_wp2
     repeat (go_quiet (fail); try go_wp2)
     go_ret
     exact ⟨hkE, hkS HB⟩
 ·rw [if_neg c3] at H
  have c3b0 : ((l0_0.length : Int) == (l1_0.length : Int)) = false := beq_eq_false_iff_ne.mpr c3
  have c3b1 : ((l0_0.length : Int) != (l1_0.length : Int)) = true := bne_iff_ne.mpr c3
  have c3b2 : (l0_0.length == l1_0.length) = false := by first | simpa using c3 | (simp at c3 ⊢; omega)
  by_cases c24 : (l0_0.length : Int) < (l1_0.length : Int)
  ·rw [if_pos c24] at H
   have c24b0 : decide ((l0_0.length : Int) < (l1_0.length : Int)) = true := decide_eq_true c24
   have c24b1 : decide (l0_0.length < l1_0.length) = true := decide_eq_true (Int.ofNat_lt.mp c24)
   clear c24
   obtain rfl := Option.some.inj H
   go_enter Tryd.func124, Tryd.ntmps124
   go_wp2_with (first | ((with_reducible refine gate_dst (N := 2) rfl ?_); refine hkBox (N := 2) (cs := #[.slice A0_0 l0_0.length c0_0]) (t := 26) ?_; intro gb701 hg w25 hbox hb; have n_ := hkA (hkU HB hb) (hkA (Aside0.mk (hbox)) (hkA (hkG hg (hkS HB)) (hkG hg (hkS HB)))); clear HB; obtain ⟨HB, BK701, GW701, GE701⟩ := n_; clear hb hbox hg) | ((with_reducible refine gate_dst (N := 3) rfl ?_); refine hkBox (N := 3) (cs := #[.slice A1_0 l1_0.length c1_0]) (t := 26) ?_; intro gb702 hg w26 hbox hb; have n_ := hkA (hkBb BK701 hb) (hkA (hkU HB hb) (hkA (Aside0.mk (hbox)) (hkA (hkG hg (hkS HB)) (hkA (hkG hg (hkS HB)) (hkA (hkN hg BK701) (hkM hg BK701)))))); clear BK701 HB; obtain ⟨BK701, HB, BK702, GW702, GE702, NB701_702, NB702_701⟩ := n_; clear hb hbox hg; have hnb27 := NB701_702.out; have hnc27 := NB702_701.out; obtain ⟨hcz28_0, hfz28_0⟩ := hkc1 BK701; obtain ⟨hcz29_0, hfz29_0⟩ := hkc1 BK702))
   repeat (go_quiet (first | ((with_reducible refine gate_dst (N := 2) rfl ?_); refine hkBox (N := 2) (cs := #[.slice A0_0 l0_0.length c0_0]) (t := 26) ?_; intro gb701 hg w25 hbox hb; have n_ := hkA (hkU HB hb) (hkA (Aside0.mk (hbox)) (hkA (hkG hg (hkS HB)) (hkG hg (hkS HB)))); clear HB; obtain ⟨HB, BK701, GW701, GE701⟩ := n_; clear hb hbox hg) | ((with_reducible refine gate_dst (N := 3) rfl ?_); refine hkBox (N := 3) (cs := #[.slice A1_0 l1_0.length c1_0]) (t := 26) ?_; intro gb702 hg w26 hbox hb; have n_ := hkA (hkBb BK701 hb) (hkA (hkU HB hb) (hkA (Aside0.mk (hbox)) (hkA (hkG hg (hkS HB)) (hkA (hkG hg (hkS HB)) (hkA (hkN hg BK701) (hkM hg BK701)))))); clear BK701 HB; obtain ⟨BK701, HB, BK702, GW702, GE702, NB701_702, NB702_701⟩ := n_; clear hb hbox hg; have hnb27 := NB701_702.out; have hnc27 := NB702_701.out; obtain ⟨hcz28_0, hfz28_0⟩ := hkc1 BK701; obtain ⟨hcz29_0, hfz29_0⟩ := hkc1 BK702)); try go_wp2_with (first | ((with_reducible refine gate_dst (N := 2) rfl ?_); refine hkBox (N := 2) (cs := #[.slice A0_0 l0_0.length c0_0]) (t := 26) ?_; intro gb701 hg w25 hbox hb; have n_ := hkA (hkU HB hb) (hkA (Aside0.mk (hbox)) (hkA (hkG hg (hkS HB)) (hkG hg (hkS HB)))); clear HB; obtain ⟨HB, BK701, GW701, GE701⟩ := n_; clear hb hbox hg) | ((with_reducible refine gate_dst (N := 3) rfl ?_); refine hkBox (N := 3) (cs := #[.slice A1_0 l1_0.length c1_0]) (t := 26) ?_; intro gb702 hg w26 hbox hb; have n_ := hkA (hkBb BK701 hb) (hkA (hkU HB hb) (hkA (Aside0.mk (hbox)) (hkA (hkG hg (hkS HB)) (hkA (hkG hg (hkS HB)) (hkA (hkN hg BK701) (hkM hg BK701)))))); clear BK701 HB; obtain ⟨BK701, HB, BK702, GW702, GE702, NB701_702, NB702_701⟩ := n_; clear hb hbox hg; have hnb27 := NB701_702.out; have hnc27 := NB702_701.out; obtain ⟨hcz28_0, hfz28_0⟩ := hkc1 BK701; obtain ⟨hcz29_0, hfz29_0⟩ := hkc1 BK702)))
   go_ret
   exact ⟨hkE, hkS HB⟩
  ·rw [if_neg c24] at H
   have c24b0 : decide ((l0_0.length : Int) < (l1_0.length : Int)) = false := decide_eq_false c24
   have c24b1 : decide (l0_0.length < l1_0.length) = false := decide_eq_false (fun h => c24 (Int.ofNat_lt.mpr h))
   clear c24
   obtain rfl := Option.some.inj H
   go_enter Tryd.func124, Tryd.ntmps124
   go_wp2_with (first | ((with_reducible refine gate_dst (N := 2) rfl ?_); refine hkBox (N := 2) (cs := #[.slice A0_0 l0_0.length c0_0]) (t := 26) ?_; intro gb701 hg w30 hbox hb; have n_ := hkA (hkU HB hb) (hkA (Aside0.mk (hbox)) (hkA (hkG hg (hkS HB)) (hkG hg (hkS HB)))); clear HB; obtain ⟨HB, BK701, GW701, GE701⟩ := n_; clear hb hbox hg) | ((with_reducible refine gate_dst (N := 3) rfl ?_); refine hkBox (N := 3) (cs := #[.slice A1_0 l1_0.length c1_0]) (t := 26) ?_; intro gb702 hg w31 hbox hb; have n_ := hkA (hkBb BK701 hb) (hkA (hkU HB hb) (hkA (Aside0.mk (hbox)) (hkA (hkG hg (hkS HB)) (hkA (hkG hg (hkS HB)) (hkA (hkN hg BK701) (hkM hg BK701)))))); clear BK701 HB; obtain ⟨BK701, HB, BK702, GW702, GE702, NB701_702, NB702_701⟩ := n_; clear hb hbox hg; have hnb32 := NB701_702.out; have hnc32 := NB702_701.out; obtain ⟨hcz33_0, hfz33_0⟩ := hkc1 BK701; obtain ⟨hcz34_0, hfz34_0⟩ := hkc1 BK702))
   repeat (go_quiet (first | ((with_reducible refine gate_dst (N := 2) rfl ?_); refine hkBox (N := 2) (cs := #[.slice A0_0 l0_0.length c0_0]) (t := 26) ?_; intro gb701 hg w30 hbox hb; have n_ := hkA (hkU HB hb) (hkA (Aside0.mk (hbox)) (hkA (hkG hg (hkS HB)) (hkG hg (hkS HB)))); clear HB; obtain ⟨HB, BK701, GW701, GE701⟩ := n_; clear hb hbox hg) | ((with_reducible refine gate_dst (N := 3) rfl ?_); refine hkBox (N := 3) (cs := #[.slice A1_0 l1_0.length c1_0]) (t := 26) ?_; intro gb702 hg w31 hbox hb; have n_ := hkA (hkBb BK701 hb) (hkA (hkU HB hb) (hkA (Aside0.mk (hbox)) (hkA (hkG hg (hkS HB)) (hkA (hkG hg (hkS HB)) (hkA (hkN hg BK701) (hkM hg BK701)))))); clear BK701 HB; obtain ⟨BK701, HB, BK702, GW702, GE702, NB701_702, NB702_701⟩ := n_; clear hb hbox hg; have hnb32 := NB701_702.out; have hnc32 := NB702_701.out; obtain ⟨hcz33_0, hfz33_0⟩ := hkc1 BK701; obtain ⟨hcz34_0, hfz34_0⟩ := hkc1 BK702)); try go_wp2_with (first | ((with_reducible refine gate_dst (N := 2) rfl ?_); refine hkBox (N := 2) (cs := #[.slice A0_0 l0_0.length c0_0]) (t := 26) ?_; intro gb701 hg w30 hbox hb; have n_ := hkA (hkU HB hb) (hkA (Aside0.mk (hbox)) (hkA (hkG hg (hkS HB)) (hkG hg (hkS HB)))); clear HB; obtain ⟨HB, BK701, GW701, GE701⟩ := n_; clear hb hbox hg) | ((with_reducible refine gate_dst (N := 3) rfl ?_); refine hkBox (N := 3) (cs := #[.slice A1_0 l1_0.length c1_0]) (t := 26) ?_; intro gb702 hg w31 hbox hb; have n_ := hkA (hkBb BK701 hb) (hkA (hkU HB hb) (hkA (Aside0.mk (hbox)) (hkA (hkG hg (hkS HB)) (hkA (hkG hg (hkS HB)) (hkA (hkN hg BK701) (hkM hg BK701)))))); clear BK701 HB; obtain ⟨BK701, HB, BK702, GW702, GE702, NB701_702, NB702_701⟩ := n_; clear hb hbox hg; have hnb32 := NB701_702.out; have hnc32 := NB702_701.out; obtain ⟨hcz33_0, hfz33_0⟩ := hkc1 BK701; obtain ⟨hcz34_0, hfz34_0⟩ := hkc1 BK702)))
   go_ret
   exact ⟨hkE, hkS HB⟩

/-! ### spec_l3cmp: function 102 -/
def spec_l3cmp.f (k : Nat) (a0_0 : Bool) (l0_1 : List Int) (a1_0 : Bool) (l1_1 : List Int) : Option (Int) := if (a0_0 != a1_0) = true then (if a0_0 = true then (some (-1)) else (some 1)) else (if a0_0 = true then ((spec_l2cmp.f k l1_1 l0_1).bind fun t709 => (some t709)) else ((spec_l2cmp.f k l0_1 l1_1).bind fun t710 => (some t710)))
theorem spec_l3cmp.mono : ∀ a0 a1 a2 a3 k, LeO (spec_l3cmp.f k a0 a1 a2 a3) (spec_l3cmp.f (k + 1) a0 a1 a2 a3) := by
 intro a0 a1 a2 a3 k
 unfold spec_l3cmp.f
 repeat' first
   | (with_reducible exact spec_l2cmp.mono _ _ _)
   | (with_reducible exact LeO.refl _)
   | (with_reducible exact LeO.none _)
   | (with_reducible refine LeO.ite ?_ ?_)
   | (with_reducible refine LeO.bind ?_ (fun _ => ?_))
   | exact spec_l2cmp.mono _ _ _
   | exact LeO.none _
   | refine LeO.ite ?_ ?_
   | refine LeO.bind ?_ (fun _ => ?_)
set_option maxHeartbeats 8000000 in
set_option maxRecDepth 100000 in
theorem spec_l3cmp.calls (k : Nat) (a0_0 : Bool) (A0_1 : Option Addr) (c0_1 : Nat) (l0_1 : List Int) (a1_0 : Bool) (A1_1 : Option Addr) (c1_1 : Nat) (l1_1 : List Int) (r : Int) (w : World) (hr0_1 : Kd.C (Kd.int .i64) w A0_1 l0_1.length l0_1) (hc0_1 : l0_1.length ≤ c0_1) (hr1_1 : Kd.C (Kd.int .i64) w A1_1 l1_1.length l1_1) (hc1_1 : l1_1.length ≤ c1_1) (h : spec_l3cmp.f k a0_0 l0_1 a1_0 l1_1 = some r) :
  Calls Tryd.prog 102 #[.agg #[.bool a0_0, .slice A0_1 l0_1.length c0_1], .agg #[.bool a1_0, .slice A1_1 l1_1.length c1_1]] w fun e w' => e = .returned (.int .i64 r) ∧ Below w.heap.size w w' := by
 have hu28 := Tryd.underlying28
 have hu26 := Tryd.underlying26
 have HR0_1 := Aside0.mk hr0_1
 have HC0_1 := Aside0.mk hc0_1
 clear hr0_1 hc0_1
 have HR1_1 := Aside0.mk hr1_1
 have HC1_1 := Aside0.mk hc1_1
 clear hr1_1 hc1_1
 have HB := Aside0.mk (Below.refl w.heap.size w)
 have H : (if (a0_0 != a1_0) = true then (if a0_0 = true then (some (-1)) else (some 1)) else (if a0_0 = true then ((spec_l2cmp.f k l1_1 l0_1).bind fun t709 => (some t709)) else ((spec_l2cmp.f k l0_1 l1_1).bind fun t710 => (some t710)))) = some r := h
 clear h
 by_cases c3 : (a0_0 != a1_0) = true
 ·rw [if_pos c3] at H
  have c3b0 : (a0_0 != a1_0) = true := c3
  (try (have c3b1 : decide (a0_0 = a1_0) = false := by simpa using c3))
  (try (have c3b2 : (a0_0 == a1_0) = false := by simpa using c3))
  (try (have c3b3 : ¬ (a0_0 = a1_0) := by simpa using c3))
  clear c3
  by_cases c4 : a0_0 = true
  ·subst c4
   have H1 : (some (-1)) = some r := by rw [if_pos rfl] at H; exact H
   clear H
   have H := H1
   clear H1
   obtain rfl := Option.some.inj H
   go_enter Tryd.func102, Tryd.ntmps102
   go_wp2_with (first | ((with_reducible refine gate_dst (N := 2) rfl ?_); refine hkBox (N := 2) (cs := #[.bool true, .slice A0_1 l0_1.length c0_1]) (t := 28) ?_; intro gb707 hg w5 hbox hb; have n_ := hkA (hkU HB hb) (hkA (Aside0.mk (hbox)) (hkA (hkG hg (hkS HB)) (hkG hg (hkS HB)))); clear HB; obtain ⟨HB, BK707, GW707, GE707⟩ := n_; clear hb hbox hg) | ((with_reducible refine gate_dst (N := 3) rfl ?_); refine hkBox (N := 3) (cs := #[.bool a1_0, .slice A1_1 l1_1.length c1_1]) (t := 28) ?_; intro gb708 hg w6 hbox hb; have n_ := hkA (hkBb BK707 hb) (hkA (hkU HB hb) (hkA (Aside0.mk (hbox)) (hkA (hkG hg (hkS HB)) (hkA (hkG hg (hkS HB)) (hkA (hkN hg BK707) (hkM hg BK707)))))); clear BK707 HB; obtain ⟨BK707, HB, BK708, GW708, GE708, NB707_708, NB708_707⟩ := n_; clear hb hbox hg; have hnb7 := NB707_708.out; have hnc7 := NB708_707.out; obtain ⟨hcz8_0, hfz8_0, hcz8_1, hfz8_1⟩ := hkc2 BK707; obtain ⟨hcz9_0, hfz9_0, hcz9_1, hfz9_1⟩ := hkc2 BK708))
   go_ret
   exact ⟨hkE, hkS HB⟩
  ·replace c4 := Bool.eq_false_iff.mpr c4
   subst c4
   have H1 : (some 1) = some r := by rw [if_neg (show ¬ (false = true) by decide)] at H; exact H
   clear H
   have H := H1
   clear H1
   obtain rfl := Option.some.inj H
   go_enter Tryd.func102, Tryd.ntmps102
   go_wp2_with (first | ((with_reducible refine gate_dst (N := 2) rfl ?_); refine hkBox (N := 2) (cs := #[.bool false, .slice A0_1 l0_1.length c0_1]) (t := 28) ?_; intro gb707 hg w10 hbox hb; have n_ := hkA (hkU HB hb) (hkA (Aside0.mk (hbox)) (hkA (hkG hg (hkS HB)) (hkG hg (hkS HB)))); clear HB; obtain ⟨HB, BK707, GW707, GE707⟩ := n_; clear hb hbox hg) | ((with_reducible refine gate_dst (N := 3) rfl ?_); refine hkBox (N := 3) (cs := #[.bool a1_0, .slice A1_1 l1_1.length c1_1]) (t := 28) ?_; intro gb708 hg w11 hbox hb; have n_ := hkA (hkBb BK707 hb) (hkA (hkU HB hb) (hkA (Aside0.mk (hbox)) (hkA (hkG hg (hkS HB)) (hkA (hkG hg (hkS HB)) (hkA (hkN hg BK707) (hkM hg BK707)))))); clear BK707 HB; obtain ⟨BK707, HB, BK708, GW708, GE708, NB707_708, NB708_707⟩ := n_; clear hb hbox hg; have hnb12 := NB707_708.out; have hnc12 := NB708_707.out; obtain ⟨hcz13_0, hfz13_0, hcz13_1, hfz13_1⟩ := hkc2 BK707; obtain ⟨hcz14_0, hfz14_0, hcz14_1, hfz14_1⟩ := hkc2 BK708))
   go_ret
   exact ⟨hkE, hkS HB⟩
 ·rw [if_neg c3] at H
  have c3b0 : (a0_0 != a1_0) = false := by simpa using c3
  (try (have c3b1 : decide (a0_0 = a1_0) = true := by simpa using c3))
  (try (have c3b2 : (a0_0 == a1_0) = true := by simpa using c3))
  clear c3
  by_cases c15 : a0_0 = true
  ·subst c15
   have H1 : ((spec_l2cmp.f k l1_1 l0_1).bind fun t709 => (some t709)) = some r := by rw [if_pos rfl] at H; exact H
   clear H
   have H := H1
   clear H1
   replace H := hBi H
   obtain ⟨t709, A160, H⟩ := H
   replace H : (some t709) = some r := H
   have A16 := Aside0.mk A160
   clear A160
   obtain rfl := Option.some.inj H
   go_enter Tryd.func102, Tryd.ntmps102
   go_wp2_with (first | ((with_reducible refine gate_dst (N := 2) rfl ?_); refine hkBox (N := 2) (cs := #[.bool true, .slice A0_1 l0_1.length c0_1]) (t := 28) ?_; intro gb707 hg w17 hbox hb; have n_ := hkA (hkU HB hb) (hkA (Aside0.mk (hbox)) (hkA (hkG hg (hkS HB)) (hkG hg (hkS HB)))); clear HB; obtain ⟨HB, BK707, GW707, GE707⟩ := n_; clear hb hbox hg) | ((with_reducible refine gate_dst (N := 3) rfl ?_); refine hkBox (N := 3) (cs := #[.bool a1_0, .slice A1_1 l1_1.length c1_1]) (t := 28) ?_; intro gb708 hg w18 hbox hb; have n_ := hkA (hkBb BK707 hb) (hkA (hkU HB hb) (hkA (Aside0.mk (hbox)) (hkA (hkG hg (hkS HB)) (hkA (hkG hg (hkS HB)) (hkA (hkN hg BK707) (hkM hg BK707)))))); clear BK707 HB; obtain ⟨BK707, HB, BK708, GW708, GE708, NB707_708, NB708_707⟩ := n_; clear hb hbox hg; have hnb19 := NB707_708.out; have hnc19 := NB708_707.out; obtain ⟨hcz20_0, hfz20_0, hcz20_1, hfz20_1⟩ := hkc2 BK707; obtain ⟨hcz21_0, hfz21_0, hcz21_1, hfz21_1⟩ := hkc2 BK708) | ((with_reducible refine gate_callee (f := 124) rfl ?_); refine hkGo (N := some 18) Tryd.func124 #[.agg #[.slice A1_1 l1_1.length c1_1], .agg #[.slice A0_1 l0_1.length c0_1]] ?_; (with_reducible refine (spec_l2cmp.calls k _ _ l1_1 _ _ l0_1 t709 _ ?side1 ?side2 ?side3 ?side4 A16.out).mono ?_); (case side1 => exact hkC ((Kd.C_below HR1_1.out HB.out))); (case side2 => exact HC1_1.out); (case side3 => exact hkC ((Kd.C_below HR0_1.out HB.out))); (case side4 => exact HC0_1.out); rintro e w22 ⟨rfl, hb⟩; refine ⟨_, rfl, ?_⟩; have n_ := hkA (hkBb BK707 hb) (hkA (hkBb BK708 hb) (hkU HB hb)); clear BK707 BK708 HB; obtain ⟨BK707, BK708, HB⟩ := n_; (try clear hb)))
   go_ret
   exact ⟨hkE, hkS HB⟩
  ·replace c15 := Bool.eq_false_iff.mpr c15
   subst c15
   have H1 : ((spec_l2cmp.f k l0_1 l1_1).bind fun t710 => (some t710)) = some r := by rw [if_neg (show ¬ (false = true) by decide)] at H; exact H
   clear H
   have H := H1
   clear H1
   replace H := hBi H
   obtain ⟨t710, A230, H⟩ := H
   replace H : (some t710) = some r := H
   have A23 := Aside0.mk A230
   clear A230
   obtain rfl := Option.some.inj H
   go_enter Tryd.func102, Tryd.ntmps102
   go_wp2_with (first | ((with_reducible refine gate_dst (N := 2) rfl ?_); refine hkBox (N := 2) (cs := #[.bool false, .slice A0_1 l0_1.length c0_1]) (t := 28) ?_; intro gb707 hg w24 hbox hb; have n_ := hkA (hkU HB hb) (hkA (Aside0.mk (hbox)) (hkA (hkG hg (hkS HB)) (hkG hg (hkS HB)))); clear HB; obtain ⟨HB, BK707, GW707, GE707⟩ := n_; clear hb hbox hg) | ((with_reducible refine gate_dst (N := 3) rfl ?_); refine hkBox (N := 3) (cs := #[.bool a1_0, .slice A1_1 l1_1.length c1_1]) (t := 28) ?_; intro gb708 hg w25 hbox hb; have n_ := hkA (hkBb BK707 hb) (hkA (hkU HB hb) (hkA (Aside0.mk (hbox)) (hkA (hkG hg (hkS HB)) (hkA (hkG hg (hkS HB)) (hkA (hkN hg BK707) (hkM hg BK707)))))); clear BK707 HB; obtain ⟨BK707, HB, BK708, GW708, GE708, NB707_708, NB708_707⟩ := n_; clear hb hbox hg; have hnb26 := NB707_708.out; have hnc26 := NB708_707.out; obtain ⟨hcz27_0, hfz27_0, hcz27_1, hfz27_1⟩ := hkc2 BK707; obtain ⟨hcz28_0, hfz28_0, hcz28_1, hfz28_1⟩ := hkc2 BK708) | ((with_reducible refine gate_callee (f := 124) rfl ?_); refine hkGo (N := some 23) Tryd.func124 #[.agg #[.slice A0_1 l0_1.length c0_1], .agg #[.slice A1_1 l1_1.length c1_1]] ?_; (with_reducible refine (spec_l2cmp.calls k _ _ l0_1 _ _ l1_1 t710 _ ?side1 ?side2 ?side3 ?side4 A23.out).mono ?_); (case side1 => exact hkC ((Kd.C_below HR0_1.out HB.out))); (case side2 => exact HC0_1.out); (case side3 => exact hkC ((Kd.C_below HR1_1.out HB.out))); (case side4 => exact HC1_1.out); rintro e w29 ⟨rfl, hb⟩; refine ⟨_, rfl, ?_⟩; have n_ := hkA (hkBb BK707 hb) (hkA (hkBb BK708 hb) (hkU HB hb)); clear BK707 BK708 HB; obtain ⟨BK707, BK708, HB⟩ := n_; (try clear hb)))
   go_ret
   exact ⟨hkE, hkS HB⟩

end Go.Proofs.YtgjpahofopoflaaDoor.PFnFlOrder
