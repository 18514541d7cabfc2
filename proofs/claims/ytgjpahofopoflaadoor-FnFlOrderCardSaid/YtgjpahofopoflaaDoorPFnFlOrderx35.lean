-- Written by our own driver (wip/hand/hprint.py) over the seat's translation.
import Derived.Test.YtgjpahofopoflaaDoorPFnFlOrderx0
import Derived.Test.YtgjpahofopoflaaDoorPFnFlOrderx9
import Derived.Test.YtgjpahofopoflaaDoorPFnFlOrderx16
namespace Go.Proofs.YtgjpahofopoflaaDoor.PFnFlOrder
open Go.RowKit Go.Proofs.YtgjpahofopoflaaDoorW.PrintWords Go.Proofs.YtgjpahofopoflaaDoorW.PrintLast Go.Proofs.YtgjpahofopoflaaDoorW.PrintMore
attribute [local go_sem] max2_int min2_int max_two min_two max_three min_three max_four min_four   -- for this text's walks alone
set_option linter.unusedVariables false
set_option linter.unusedSimpArgs false

/-! ### spec_l4align: function 101 -/
def spec_l4align.f (k : Nat) (a0_0 : Bool) (l0_1 : List Int) (a0_2 : Int) (a1_0 : Bool) (l1_1 : List Int) (a1_2 : Int) : Option (Bool × List Int × Bool × List Int × Int) := if (l0_1.length : Int) = 0 then (some (a0_0, l0_1, a1_0, l1_1, a1_2)) else (if (l1_1.length : Int) = 0 then (some (a0_0, l0_1, a1_0, l1_1, a0_2)) else (if a0_2 ≤ a1_2 then ((spec_l2shl.f k l1_1 (wrap64 (a1_2 - a0_2))).bind fun t687 => ((spec_l3make.f k a1_0 t687).bind fun bt690 => (some (a0_0, l0_1, bt690.1, bt690.2, a0_2)))) else ((spec_l2shl.f k l0_1 (wrap64 (a0_2 - a1_2))).bind fun t694 => ((spec_l3make.f k a0_0 t694).bind fun bt697 => (some (bt697.1, bt697.2, a1_0, l1_1, a1_2))))))
theorem spec_l4align.mono : ∀ a0 a1 a2 a3 a4 a5 k, LeO (spec_l4align.f k a0 a1 a2 a3 a4 a5) (spec_l4align.f (k + 1) a0 a1 a2 a3 a4 a5) := by
 intro a0 a1 a2 a3 a4 a5 k
 unfold spec_l4align.f
 repeat' first
   | (with_reducible exact spec_l2shl.mono _ _ _)
   | (with_reducible exact spec_l3make.mono _ _ _)
   | (with_reducible exact LeO.refl _)
   | (with_reducible exact LeO.none _)
   | (with_reducible refine LeO.ite ?_ ?_)
   | (with_reducible refine LeO.bind ?_ (fun _ => ?_))
   | exact spec_l2shl.mono _ _ _
   | exact spec_l3make.mono _ _ _
   | exact LeO.none _
   | refine LeO.ite ?_ ?_
   | refine LeO.bind ?_ (fun _ => ?_)
def spec_l4align.T2 : Bool × List (List Nat × List Nat) := (true, [([], []), ([0], [0]), ([], []), ([2], [2]), ([], []), ([4], [4]), ([1, 0, 1], [1]), ([3, 6, 0, 1, 2, 3, 6], [3]), ([5, 7, 0, 1, 2, 3, 4, 5, 6, 7], [5])])
def spec_l4align.B2 : List Nat := [0, 1, 0, 4, 0, 16, 3, 79, 255]
theorem spec_l4align.tab2 : rtab .any (opsOf Tryd.f101 2) = spec_l4align.T2 := by kernel_rfl
theorem spec_l4align.bits2 : waitsOk spec_l4align.T2.2 spec_l4align.B2 = true := by kernel_rfl
def spec_l4align.T4 : Bool × List (List Nat × List Nat) := (true, [([], []), ([0], [0]), ([], []), ([2], [2]), ([], []), ([4], [4]), ([1, 0, 1], [1]), ([3, 6, 0, 1, 2, 3, 6], [3]), ([5, 7, 0, 1, 2, 3, 4, 5, 6, 7], [5])])
def spec_l4align.B4 : List Nat := [0, 1, 0, 4, 0, 16, 3, 79, 255]
theorem spec_l4align.tab4 : rtab .any (opsOf Tryd.f101 4) = spec_l4align.T4 := by kernel_rfl
theorem spec_l4align.bits4 : waitsOk spec_l4align.T4.2 spec_l4align.B4 = true := by kernel_rfl
def spec_l4align.T6 : Bool × List (List Nat × List Nat) := (true, [([], []), ([0], [0]), ([], []), ([2], [2]), ([3], [3]), ([], []), ([5], [5]), ([6], [6]), ([], []), ([8], [8]), ([], []), ([10], [10]), ([9, 11], [9, 11]), ([7, 12], [7, 12]), ([4, 13, 13], [4, 13]), ([], []), ([15], [15]), ([1, 14, 0, 1], [1]), ([14, 17, 0, 1, 2, 3, 4, 5, 6, 7, 8, 9, 10, 11, 12, 13, 14, 17], [14]), ([16, 18, 0, 1, 2, 3, 4, 5, 6, 7, 8, 9, 10, 11, 12, 13, 14, 15, 16, 17, 18], [16])])
def spec_l4align.B6 : List Nat := [0, 1, 0, 4, 12, 0, 32, 96, 0, 256, 0, 1024, 3840, 8160, 16380, 0, 32768, 32767, 163839, 524287]
theorem spec_l4align.tab6 : rtab .any (opsOf Tryd.f101 6) = spec_l4align.T6 := by kernel_rfl
theorem spec_l4align.bits6 : waitsOk spec_l4align.T6.2 spec_l4align.B6 = true := by kernel_rfl
def spec_l4align.T7 : Bool × List (List Nat × List Nat) := (true, [([], []), ([0], [0]), ([1], [1]), ([], []), ([3], [3]), ([4], [4]), ([], []), ([6], [6]), ([], []), ([8], [8]), ([7, 9], [7, 9]), ([5, 10], [5, 10]), ([2, 11, 11], [2, 11]), ([], []), ([13], [13]), ([], []), ([15], [15]), ([12, 12, 0, 1, 2, 3, 4, 5, 6, 7, 8, 9, 10, 11, 12], [12]), ([14, 17, 0, 1, 2, 3, 4, 5, 6, 7, 8, 9, 10, 11, 12, 13, 14, 17], [14]), ([16, 18, 0, 1, 2, 3, 4, 5, 6, 7, 8, 9, 10, 11, 12, 13, 14, 15, 16, 17, 18], [16])])
def spec_l4align.B7 : List Nat := [0, 1, 3, 0, 8, 24, 0, 64, 0, 256, 960, 2040, 4095, 0, 8192, 0, 32768, 8191, 163839, 524287]
theorem spec_l4align.tab7 : rtab .any (opsOf Tryd.f101 7) = spec_l4align.T7 := by kernel_rfl
theorem spec_l4align.bits7 : waitsOk spec_l4align.T7.2 spec_l4align.B7 = true := by kernel_rfl
set_option maxHeartbeats 8000000 in
set_option maxRecDepth 100000 in
theorem spec_l4align.calls (k : Nat) (a0_0 : Bool) (P0_1_ : Nat → Prop) (A0_1 : Option Addr) (c0_1 : Nat) (l0_1 : List Int) (a0_2 : Int) (a1_0 : Bool) (P1_1_ : Nat → Prop) (A1_1 : Option Addr) (c1_1 : Nat) (l1_1 : List Int) (a1_2 : Int) (r1 : Bool) (r2 : List Int) (r3 : Bool) (r4 : List Int) (r5 : Int) (w : World) (hs0_1 : Kd.V (Kd.int .i64) 3 w w.heap.size (fun k_ => P0_1_ k_) (.slice A0_1 l0_1.length c0_1) l0_1) (hs1_1 : Kd.V (Kd.int .i64) 3 w w.heap.size (fun k_ => P1_1_ k_) (.slice A1_1 l1_1.length c1_1) l1_1) (h : spec_l4align.f k a0_0 l0_1 a0_2 a1_0 l1_1 a1_2 = some (r1, r2, r3, r4, r5)) :
  Calls Tryd.prog 101 #[.agg #[.bool a0_0, .slice A0_1 l0_1.length c0_1, .int .i64 a0_2], .agg #[.bool a1_0, .slice A1_1 l1_1.length c1_1, .int .i64 a1_2]] w fun e w' => ∃ v1_ v3_ : Value, e = .returned (.tuple #[.agg #[.bool r1, v1_], .agg #[.bool r3, v3_], .int .i64 r5]) ∧ Kd.V (Kd.int .i64) 3 w' w.heap.size (fun k_ => ((P0_1_ k_ ∨ P1_1_ k_) ∨ w.heap.size ≤ k_)) v1_ r2 ∧ Kd.V (Kd.int .i64) 3 w' w.heap.size (fun k_ => ((P0_1_ k_ ∨ P1_1_ k_) ∨ w.heap.size ≤ k_)) v3_ r4 ∧ Below w.heap.size w w' := by
 have hu30 := Tryd.underlying30
 have hu28 := Tryd.underlying28
 have hu26 := Tryd.underlying26
 have HO0_1 := Aside0.mk (show Kd.V (Kd.int .i64) 3 w w.heap.size (fun k_ => ((P0_1_ k_ ∨ P1_1_ k_) ∨ w.heap.size ≤ k_)) (.slice A0_1 l0_1.length c0_1) l0_1 from Kd.V_mono hs0_1 (fun k_ hk => .inl (.inl hk)))
 have HO1_1 := Aside0.mk (show Kd.V (Kd.int .i64) 3 w w.heap.size (fun k_ => ((P0_1_ k_ ∨ P1_1_ k_) ∨ w.heap.size ≤ k_)) (.slice A1_1 l1_1.length c1_1) l1_1 from Kd.V_mono hs1_1 (fun k_ hk => .inl (.inr hk)))
 have HB := Aside0.mk (Below.refl w.heap.size w)
 have H : (if (l0_1.length : Int) = 0 then (some (a0_0, l0_1, a1_0, l1_1, a1_2)) else (if (l1_1.length : Int) = 0 then (some (a0_0, l0_1, a1_0, l1_1, a0_2)) else (if a0_2 ≤ a1_2 then ((spec_l2shl.f k l1_1 (wrap64 (a1_2 - a0_2))).bind fun t687 => ((spec_l3make.f k a1_0 t687).bind fun bt690 => (some (a0_0, l0_1, bt690.1, bt690.2, a0_2)))) else ((spec_l2shl.f k l0_1 (wrap64 (a0_2 - a1_2))).bind fun t694 => ((spec_l3make.f k a0_0 t694).bind fun bt697 => (some (bt697.1, bt697.2, a1_0, l1_1, a1_2))))))) = some (r1, r2, r3, r4, r5) := h
 clear h
 by_cases c3 : (l0_1.length : Int) = 0
 ·rw [if_pos c3] at H
  have c3b0 : ((l0_1.length : Int) == 0) = true := beq_iff_eq.mpr c3
  have c3b1 : ((l0_1.length : Int) != 0) = false := bne_eq_false_iff_eq.mpr c3
  clear c3
  simp only [Option.some.injEq, Prod.mk.injEq] at H
  obtain ⟨rfl, rfl, rfl, rfl, rfl⟩ := H
  go_enter Tryd.func101, Tryd.ntmps101
  try go_wp2_with (first | ((with_reducible refine gate_dst (N := 2) rfl ?_); refine hkBox (N := 2) (cs := #[.bool a0_0, .slice A0_1 l0_1.length c0_1, .int .i64 a0_2]) (t := 30) ?_; intro gb683 hg w4 hbox hb; have n_ := hkA (Aside0.mk (Kd.V_below (Kd.V_elderB (by (with_reducible repeat (first | apply Kd.V_alloc | apply Kd.V_drewN | apply Kd.V_drew)); exact HO0_1.out) gb683 (Nat.le_of_eq hg.symm)) hb)) (hkA (Aside0.mk (Kd.V_below (Kd.V_elderB (by (with_reducible repeat (first | apply Kd.V_alloc | apply Kd.V_drewN | apply Kd.V_drew)); exact HO1_1.out) gb683 (Nat.le_of_eq hg.symm)) hb)) (hkA (hkU HB hb) (hkA (Aside0.mk (hbox)) (hkA (hkG hg (hkS HB)) (hkG hg (hkS HB)))))); clear HO0_1 HO1_1 HB; obtain ⟨HO0_1, HO1_1, HB, BK683, GW683, GE683⟩ := n_; clear hb hbox hg) | ((with_reducible refine gate_dst (N := 3) rfl ?_); refine hkBox (N := 3) (cs := #[.bool a1_0, .slice A1_1 l1_1.length c1_1, .int .i64 a1_2]) (t := 30) ?_; intro gb684 hg w5 hbox hb; have n_ := hkA (Aside0.mk (Kd.V_below (Kd.V_elderB (by (with_reducible repeat (first | apply Kd.V_alloc | apply Kd.V_drewN | apply Kd.V_drew)); exact HO0_1.out) gb684 (Nat.le_of_eq hg.symm)) hb)) (hkA (Aside0.mk (Kd.V_below (Kd.V_elderB (by (with_reducible repeat (first | apply Kd.V_alloc | apply Kd.V_drewN | apply Kd.V_drew)); exact HO1_1.out) gb684 (Nat.le_of_eq hg.symm)) hb)) (hkA (hkBb BK683 hb) (hkA (hkU HB hb) (hkA (Aside0.mk (hbox)) (hkA (hkG hg (hkS HB)) (hkA (hkG hg (hkS HB)) (hkA (hkN hg BK683) (hkM hg BK683)))))))); clear HO0_1 HO1_1 BK683 HB; obtain ⟨HO0_1, HO1_1, BK683, HB, BK684, GW684, GE684, NB683_684, NB684_683⟩ := n_; clear hb hbox hg) | ((with_reducible refine gate_dst (N := 4) rfl ?_); refine hkBox (N := 4) (cs := #[.bool false, .slice none 0 0]) (t := 28) ?_; intro gb685 hg w6 hbox hb; have n_ := hkA (Aside0.mk (Kd.V_below (Kd.V_elderB (by (with_reducible repeat (first | apply Kd.V_alloc | apply Kd.V_drewN | apply Kd.V_drew)); exact HO0_1.out) gb685 (Nat.le_of_eq hg.symm)) hb)) (hkA (Aside0.mk (Kd.V_below (Kd.V_elderB (by (with_reducible repeat (first | apply Kd.V_alloc | apply Kd.V_drewN | apply Kd.V_drew)); exact HO1_1.out) gb685 (Nat.le_of_eq hg.symm)) hb)) (hkA (hkBb BK683 hb) (hkA (hkBb BK684 hb) (hkA (hkU HB hb) (hkA (Aside0.mk (hbox)) (hkA (hkG hg (hkS HB)) (hkA (hkG hg (hkS HB)) (hkA (hkN hg BK683) (hkA (hkM hg BK683) (hkA (hkN hg BK684) (hkM hg BK684))))))))))); clear HO0_1 HO1_1 BK683 BK684 HB; obtain ⟨HO0_1, HO1_1, BK683, BK684, HB, BK685, GW685, GE685, NB683_685, NB685_683, NB684_685, NB685_684⟩ := n_; clear hb hbox hg) | ((with_reducible refine gate_dst (N := 5) rfl ?_); refine hkBox (N := 5) (cs := #[.bool false, .slice none 0 0]) (t := 28) ?_; intro gb686 hg w7 hbox hb; have n_ := hkA (Aside0.mk (Kd.V_below (Kd.V_elderB (by (with_reducible repeat (first | apply Kd.V_alloc | apply Kd.V_drewN | apply Kd.V_drew)); exact HO0_1.out) gb686 (Nat.le_of_eq hg.symm)) hb)) (hkA (Aside0.mk (Kd.V_below (Kd.V_elderB (by (with_reducible repeat (first | apply Kd.V_alloc | apply Kd.V_drewN | apply Kd.V_drew)); exact HO1_1.out) gb686 (Nat.le_of_eq hg.symm)) hb)) (hkA (hkBb BK683 hb) (hkA (hkBb BK684 hb) (hkA (hkBb BK685 hb) (hkA (hkU HB hb) (hkA (Aside0.mk (hbox)) (hkA (hkG hg (hkS HB)) (hkA (hkG hg (hkS HB)) (hkA (hkN hg BK683) (hkA (hkM hg BK683) (hkA (hkN hg BK684) (hkA (hkM hg BK684) (hkA (hkN hg BK685) (hkM hg BK685)))))))))))))); clear HO0_1 HO1_1 BK683 BK684 BK685 HB; obtain ⟨HO0_1, HO1_1, BK683, BK684, BK685, HB, BK686, GW686, GE686, NB683_686, NB686_683, NB684_686, NB686_684, NB685_686, NB686_685⟩ := n_; clear hb hbox hg; have hnb8 := NB683_684.out; have hnc8 := NB684_683.out; have hnb9 := NB683_685.out; have hnc9 := NB685_683.out; have hnb10 := NB683_686.out; have hnc10 := NB686_683.out; obtain ⟨hcz11_0, hfz11_0, hcz11_1, hfz11_1, hcz11_2, hfz11_2⟩ := hkc3 BK683))
  have n_ := hkA (Aside0.mk (Kd.V_drew HO0_1.out)) (hkA (Aside0.mk (Kd.V_drew HO1_1.out)) (hkA (Aside0.mk (blk_drew BK683.out)) (hkA (Aside0.mk (blk_drew BK684.out)) (hkA (Aside0.mk (blk_drew BK685.out)) (hkA (Aside0.mk (blk_drew BK686.out)) (Aside0.mk (below_drew1 HB.out)))))))
  clear HO0_1 HO1_1 BK683 BK684 BK685 BK686 HB
  obtain ⟨HO0_1, HO1_1, BK683, BK684, BK685, BK686, HB⟩ := n_
  refine start_ (n := 9) (S := fun w' => w'.cell? ⟨gb683, 0, none⟩ = some (.bool a0_0) ∧ w'.cell? ⟨gb683, 1, none⟩ = some (.slice A0_1 l0_1.length c0_1) ∧ w'.cell? ⟨gb683, 2, none⟩ = some (.int .i64 a0_2) ∧ w'.cell? ⟨gb684, 0, none⟩ = some (.bool a1_0) ∧ w'.cell? ⟨gb684, 1, none⟩ = some (.slice A1_1 l1_1.length c1_1) ∧ w'.cell? ⟨gb684, 2, none⟩ = some (.int .i64 a1_2)) (ds := []) #[false, false, false, false, false, false, false, false, false] (by kernel_rfl) rfl rfl ⟨(blk_cell BK683.out 0).trans rfl, (blk_cell BK683.out 1).trans rfl, (blk_cell BK683.out 2).trans rfl, (blk_cell BK684.out 0).trans rfl, (blk_cell BK684.out 1).trans rfl, (blk_cell BK684.out 2).trans rfl⟩ (fun hHeld => ?_); refine with_tabW spec_l4align.tab2 spec_l4align.bits2 (fun HT_ HW_ => ?_)
  generalize w7.drew = w12 at HO0_1 HO1_1 BK683 BK684 BK685 BK686 HB hHeld ⊢
  refine hkPt (i := 0) (N := some 13) HT_ ?_
  refine hkPt (i := 2) (N := some 15) HT_ ?_
  refine hkPt (i := 4) (N := some 17) HT_ ?_
  refine hkTt (i := 1) (N := some 14) HT_ HW_ hHeld ?_ (hy := by rintro w' ⟨s0, s1, s2, s3, s4, s5⟩; go_simp; with_reducible rfl)
  refine hkTt (i := 3) (N := some 16) HT_ HW_ hHeld ?_ (hy := by rintro w' ⟨s0, s1, s2, s3, s4, s5⟩; go_simp; with_reducible rfl)
  refine hkTt (i := 5) (N := some 18) HT_ HW_ hHeld ?_ (hy := by rintro w' ⟨s0, s1, s2, s3, s4, s5⟩; go_simp; with_reducible rfl)
  refine one_ (i := 6) (N := none) #[true, true, true, true, true, true, true, false, false] rfl rfl (one_of HT_.out (by kernel_rfl)) (by decide) (fun K hK => ?_)
  have hs13 : w12.cell? ⟨gb685, 0, none⟩ = some (.bool false) := (blk_cell BK685.out 0).trans rfl
  have hfs13 := blk_frozen BK685.out 0
  have hns13_0 := NB683_685.out
  have hns13_1 := NB684_685.out
  have hns13_3 := NB686_685.out
  have hms13_0 := NB685_683.out
  have hms13_1 := NB685_684.out
  have hms13_3 := NB685_686.out
  have hs14 : w12.cell? ⟨gb685, 1, none⟩ = some (.slice none 0 0) := (blk_cell BK685.out 1).trans rfl
  have hfs14 := blk_frozen BK685.out 1
  have hns14_0 := NB683_685.out
  have hns14_1 := NB684_685.out
  have hns14_3 := NB686_685.out
  have hms14_0 := NB685_683.out
  have hms14_1 := NB685_684.out
  have hms14_3 := NB685_686.out
  refine skip_ (w1 := ?_) (by rfl) rfl ?_ ?_
  rotate_left
  ·go_simp
   rfl
  refine hK.out _ _ ⟨((cell_far (p := ⟨gb685, _, none⟩) NB683_685.out _).trans (((cell_far (p := ⟨gb685, _, none⟩) NB683_685.out _).trans (hHeld.1)))), ((cell_far (p := ⟨gb685, _, none⟩) NB683_685.out _).trans (((cell_far (p := ⟨gb685, _, none⟩) NB683_685.out _).trans (hHeld.2.1)))), ((cell_far (p := ⟨gb685, _, none⟩) NB683_685.out _).trans (((cell_far (p := ⟨gb685, _, none⟩) NB683_685.out _).trans (hHeld.2.2.1)))), ((cell_far (p := ⟨gb685, _, none⟩) NB684_685.out _).trans (((cell_far (p := ⟨gb685, _, none⟩) NB684_685.out _).trans (hHeld.2.2.2.1)))), ((cell_far (p := ⟨gb685, _, none⟩) NB684_685.out _).trans (((cell_far (p := ⟨gb685, _, none⟩) NB684_685.out _).trans (hHeld.2.2.2.2.1)))), ((cell_far (p := ⟨gb685, _, none⟩) NB684_685.out _).trans (((cell_far (p := ⟨gb685, _, none⟩) NB684_685.out _).trans (hHeld.2.2.2.2.2))))⟩ (fun hHeld => ?_)
  clear hK K
  refine one_ (i := 7) (N := none) #[true, true, true, true, true, true, true, true, false] rfl rfl (one_of HT_.out (by kernel_rfl)) (by decide) (fun K hK => ?_)
  have hs15 : w12.cell? ⟨gb686, 0, none⟩ = some (.bool false) := (blk_cell BK686.out 0).trans rfl
  have hfs15 := blk_frozen BK686.out 0
  have hns15_0 := NB683_686.out
  have hns15_1 := NB684_686.out
  have hns15_2 := NB685_686.out
  have hms15_0 := NB686_683.out
  have hms15_1 := NB686_684.out
  have hms15_2 := NB686_685.out
  have hs16 : w12.cell? ⟨gb686, 1, none⟩ = some (.slice none 0 0) := (blk_cell BK686.out 1).trans rfl
  have hfs16 := blk_frozen BK686.out 1
  have hns16_0 := NB683_686.out
  have hns16_1 := NB684_686.out
  have hns16_2 := NB685_686.out
  have hms16_0 := NB686_683.out
  have hms16_1 := NB686_684.out
  have hms16_2 := NB686_685.out
  refine skip_ (w1 := ?_) (by rfl) rfl ?_ ?_
  rotate_left
  ·go_simp
   rfl
  refine hK.out _ _ ⟨((cell_far (p := ⟨gb686, _, none⟩) NB683_686.out _).trans (((cell_far (p := ⟨gb686, _, none⟩) NB683_686.out _).trans (hHeld.1)))), ((cell_far (p := ⟨gb686, _, none⟩) NB683_686.out _).trans (((cell_far (p := ⟨gb686, _, none⟩) NB683_686.out _).trans (hHeld.2.1)))), ((cell_far (p := ⟨gb686, _, none⟩) NB683_686.out _).trans (((cell_far (p := ⟨gb686, _, none⟩) NB683_686.out _).trans (hHeld.2.2.1)))), ((cell_far (p := ⟨gb686, _, none⟩) NB684_686.out _).trans (((cell_far (p := ⟨gb686, _, none⟩) NB684_686.out _).trans (hHeld.2.2.2.1)))), ((cell_far (p := ⟨gb686, _, none⟩) NB684_686.out _).trans (((cell_far (p := ⟨gb686, _, none⟩) NB684_686.out _).trans (hHeld.2.2.2.2.1)))), ((cell_far (p := ⟨gb686, _, none⟩) NB684_686.out _).trans (((cell_far (p := ⟨gb686, _, none⟩) NB684_686.out _).trans (hHeld.2.2.2.2.2))))⟩ (fun hHeld => ?_)
  clear hK K
  refine hkPt (i := 8) (N := some 6) HT_ ?_
  refine done_ (done_of HT_.out (by kernel_rfl)) ?_
  try go_wp2
  refine bodyPost_ret (results_list (rs := [.cell 4 28, .cell 5 28, .tmp 6]) rfl (by simp) (.cell gb685 28 #[.bool a0_0, .slice A0_1 l0_1.length c0_1] (0, 0) _ rfl hkPp Tryd.underlying28 rfl (by kernel_rfl) (.cell gb686 28 #[.bool a1_0, .slice A1_1 l1_1.length c1_1] (0, 0) _ rfl hkPp Tryd.underlying28 rfl (by kernel_rfl) (.tmp .nil)))) rfl ?_
  exact ⟨_, _, hkE, by (with_reducible repeat (first | apply Kd.V_alloc | apply Kd.V_drewN | apply Kd.V_drew)); exact Kd.V_mono (Kd.V_far (p := ⟨gb686, 1, none⟩) (Kd.V_far (p := ⟨gb686, 0, none⟩) (Kd.V_far (p := ⟨gb685, 1, none⟩) (Kd.V_far (p := ⟨gb685, 0, none⟩) (Kd.V_mono (Kd.V_mono HO0_1.out (fun k_ hk => (⟨hk, hk.1.2⟩ : _ ∧ k_ ≠ gb685))) (fun k_ hk => (⟨hk, hk.1.2⟩ : _ ∧ k_ ≠ gb686))) (fun _ hk => hk.1.2) (.bool a0_0)) (fun _ hk => hk.1.2) (.slice A0_1 l0_1.length c0_1)) (fun _ hk => hk.2) (.bool a1_0)) (fun _ hk => hk.2) (.slice A1_1 l1_1.length c1_1)) (fun _ hk => hk.1.1.1.1.1.1), by (with_reducible repeat (first | apply Kd.V_alloc | apply Kd.V_drewN | apply Kd.V_drew)); exact Kd.V_mono (Kd.V_far (p := ⟨gb686, 1, none⟩) (Kd.V_far (p := ⟨gb686, 0, none⟩) (Kd.V_far (p := ⟨gb685, 1, none⟩) (Kd.V_far (p := ⟨gb685, 0, none⟩) (Kd.V_mono (Kd.V_mono HO1_1.out (fun k_ hk => (⟨hk, hk.1.2⟩ : _ ∧ k_ ≠ gb685))) (fun k_ hk => (⟨hk, hk.1.2⟩ : _ ∧ k_ ≠ gb686))) (fun _ hk => hk.1.2) (.bool a0_0)) (fun _ hk => hk.1.2) (.slice A0_1 l0_1.length c0_1)) (fun _ hk => hk.2) (.bool a1_0)) (fun _ hk => hk.2) (.slice A1_1 l1_1.length c1_1)) (fun _ hk => hk.1.1.1.1.1.1), hkS HB⟩
 ·rw [if_neg c3] at H
  have c3b0 : ((l0_1.length : Int) == 0) = false := beq_eq_false_iff_ne.mpr c3
  have c3b1 : ((l0_1.length : Int) != 0) = true := bne_iff_ne.mpr c3
  have c3b2 : ¬ (l0_1 = []) := fun h_ => c3 (by rw [h_]; rfl)
  by_cases c17 : (l1_1.length : Int) = 0
  ·rw [if_pos c17] at H
   have c17b0 : ((l1_1.length : Int) == 0) = true := beq_iff_eq.mpr c17
   have c17b1 : ((l1_1.length : Int) != 0) = false := bne_eq_false_iff_eq.mpr c17
   clear c17
   simp only [Option.some.injEq, Prod.mk.injEq] at H
   obtain ⟨rfl, rfl, rfl, rfl, rfl⟩ := H
   go_enter Tryd.func101, Tryd.ntmps101
   try go_wp2_with (first | ((with_reducible refine gate_dst (N := 2) rfl ?_); refine hkBox (N := 2) (cs := #[.bool a0_0, .slice A0_1 l0_1.length c0_1, .int .i64 a0_2]) (t := 30) ?_; intro gb683 hg w18 hbox hb; have n_ := hkA (Aside0.mk (Kd.V_below (Kd.V_elderB (by (with_reducible repeat (first | apply Kd.V_alloc | apply Kd.V_drewN | apply Kd.V_drew)); exact HO0_1.out) gb683 (Nat.le_of_eq hg.symm)) hb)) (hkA (Aside0.mk (Kd.V_below (Kd.V_elderB (by (with_reducible repeat (first | apply Kd.V_alloc | apply Kd.V_drewN | apply Kd.V_drew)); exact HO1_1.out) gb683 (Nat.le_of_eq hg.symm)) hb)) (hkA (hkU HB hb) (hkA (Aside0.mk (hbox)) (hkA (hkG hg (hkS HB)) (hkG hg (hkS HB)))))); clear HO0_1 HO1_1 HB; obtain ⟨HO0_1, HO1_1, HB, BK683, GW683, GE683⟩ := n_; clear hb hbox hg) | ((with_reducible refine gate_dst (N := 3) rfl ?_); refine hkBox (N := 3) (cs := #[.bool a1_0, .slice A1_1 l1_1.length c1_1, .int .i64 a1_2]) (t := 30) ?_; intro gb684 hg w19 hbox hb; have n_ := hkA (Aside0.mk (Kd.V_below (Kd.V_elderB (by (with_reducible repeat (first | apply Kd.V_alloc | apply Kd.V_drewN | apply Kd.V_drew)); exact HO0_1.out) gb684 (Nat.le_of_eq hg.symm)) hb)) (hkA (Aside0.mk (Kd.V_below (Kd.V_elderB (by (with_reducible repeat (first | apply Kd.V_alloc | apply Kd.V_drewN | apply Kd.V_drew)); exact HO1_1.out) gb684 (Nat.le_of_eq hg.symm)) hb)) (hkA (hkBb BK683 hb) (hkA (hkU HB hb) (hkA (Aside0.mk (hbox)) (hkA (hkG hg (hkS HB)) (hkA (hkG hg (hkS HB)) (hkA (hkN hg BK683) (hkM hg BK683)))))))); clear HO0_1 HO1_1 BK683 HB; obtain ⟨HO0_1, HO1_1, BK683, HB, BK684, GW684, GE684, NB683_684, NB684_683⟩ := n_; clear hb hbox hg) | ((with_reducible refine gate_dst (N := 4) rfl ?_); refine hkBox (N := 4) (cs := #[.bool false, .slice none 0 0]) (t := 28) ?_; intro gb685 hg w20 hbox hb; have n_ := hkA (Aside0.mk (Kd.V_below (Kd.V_elderB (by (with_reducible repeat (first | apply Kd.V_alloc | apply Kd.V_drewN | apply Kd.V_drew)); exact HO0_1.out) gb685 (Nat.le_of_eq hg.symm)) hb)) (hkA (Aside0.mk (Kd.V_below (Kd.V_elderB (by (with_reducible repeat (first | apply Kd.V_alloc | apply Kd.V_drewN | apply Kd.V_drew)); exact HO1_1.out) gb685 (Nat.le_of_eq hg.symm)) hb)) (hkA (hkBb BK683 hb) (hkA (hkBb BK684 hb) (hkA (hkU HB hb) (hkA (Aside0.mk (hbox)) (hkA (hkG hg (hkS HB)) (hkA (hkG hg (hkS HB)) (hkA (hkN hg BK683) (hkA (hkM hg BK683) (hkA (hkN hg BK684) (hkM hg BK684))))))))))); clear HO0_1 HO1_1 BK683 BK684 HB; obtain ⟨HO0_1, HO1_1, BK683, BK684, HB, BK685, GW685, GE685, NB683_685, NB685_683, NB684_685, NB685_684⟩ := n_; clear hb hbox hg) | ((with_reducible refine gate_dst (N := 5) rfl ?_); refine hkBox (N := 5) (cs := #[.bool false, .slice none 0 0]) (t := 28) ?_; intro gb686 hg w21 hbox hb; have n_ := hkA (Aside0.mk (Kd.V_below (Kd.V_elderB (by (with_reducible repeat (first | apply Kd.V_alloc | apply Kd.V_drewN | apply Kd.V_drew)); exact HO0_1.out) gb686 (Nat.le_of_eq hg.symm)) hb)) (hkA (Aside0.mk (Kd.V_below (Kd.V_elderB (by (with_reducible repeat (first | apply Kd.V_alloc | apply Kd.V_drewN | apply Kd.V_drew)); exact HO1_1.out) gb686 (Nat.le_of_eq hg.symm)) hb)) (hkA (hkBb BK683 hb) (hkA (hkBb BK684 hb) (hkA (hkBb BK685 hb) (hkA (hkU HB hb) (hkA (Aside0.mk (hbox)) (hkA (hkG hg (hkS HB)) (hkA (hkG hg (hkS HB)) (hkA (hkN hg BK683) (hkA (hkM hg BK683) (hkA (hkN hg BK684) (hkA (hkM hg BK684) (hkA (hkN hg BK685) (hkM hg BK685)))))))))))))); clear HO0_1 HO1_1 BK683 BK684 BK685 HB; obtain ⟨HO0_1, HO1_1, BK683, BK684, BK685, HB, BK686, GW686, GE686, NB683_686, NB686_683, NB684_686, NB686_684, NB685_686, NB686_685⟩ := n_; clear hb hbox hg; have hnb22 := NB683_684.out; have hnc22 := NB684_683.out; have hnb23 := NB683_685.out; have hnc23 := NB685_683.out; have hnb24 := NB683_686.out; have hnc24 := NB686_683.out; obtain ⟨hcz25_0, hfz25_0, hcz25_1, hfz25_1, hcz25_2, hfz25_2⟩ := hkc3 BK683; have hnb26 := NB684_685.out; have hnc26 := NB685_684.out; have hnb27 := NB684_686.out; have hnc27 := NB686_684.out; obtain ⟨hcz28_0, hfz28_0, hcz28_1, hfz28_1, hcz28_2, hfz28_2⟩ := hkc3 BK684))
   have n_ := hkA (Aside0.mk (Kd.V_drew HO0_1.out)) (hkA (Aside0.mk (Kd.V_drew HO1_1.out)) (hkA (Aside0.mk (blk_drew BK683.out)) (hkA (Aside0.mk (blk_drew BK684.out)) (hkA (Aside0.mk (blk_drew BK685.out)) (hkA (Aside0.mk (blk_drew BK686.out)) (Aside0.mk (below_drew1 HB.out)))))))
   clear HO0_1 HO1_1 BK683 BK684 BK685 BK686 HB
   obtain ⟨HO0_1, HO1_1, BK683, BK684, BK685, BK686, HB⟩ := n_
   refine start_ (n := 9) (S := fun w' => w'.cell? ⟨gb683, 0, none⟩ = some (.bool a0_0) ∧ w'.cell? ⟨gb683, 1, none⟩ = some (.slice A0_1 l0_1.length c0_1) ∧ w'.cell? ⟨gb683, 2, none⟩ = some (.int .i64 a0_2) ∧ w'.cell? ⟨gb684, 0, none⟩ = some (.bool a1_0) ∧ w'.cell? ⟨gb684, 1, none⟩ = some (.slice A1_1 l1_1.length c1_1) ∧ w'.cell? ⟨gb684, 2, none⟩ = some (.int .i64 a1_2)) (ds := []) #[false, false, false, false, false, false, false, false, false] (by kernel_rfl) rfl rfl ⟨(blk_cell BK683.out 0).trans rfl, (blk_cell BK683.out 1).trans rfl, (blk_cell BK683.out 2).trans rfl, (blk_cell BK684.out 0).trans rfl, (blk_cell BK684.out 1).trans rfl, (blk_cell BK684.out 2).trans rfl⟩ (fun hHeld => ?_); refine with_tabW spec_l4align.tab4 spec_l4align.bits4 (fun HT_ HW_ => ?_)
   generalize w21.drew = w29 at HO0_1 HO1_1 BK683 BK684 BK685 BK686 HB hHeld ⊢
   refine hkPt (i := 0) (N := some 25) HT_ ?_
   refine hkPt (i := 2) (N := some 27) HT_ ?_
   refine hkPt (i := 4) (N := some 29) HT_ ?_
   refine hkTt (i := 1) (N := some 26) HT_ HW_ hHeld ?_ (hy := by rintro w' ⟨s0, s1, s2, s3, s4, s5⟩; go_simp; with_reducible rfl)
   refine hkTt (i := 3) (N := some 28) HT_ HW_ hHeld ?_ (hy := by rintro w' ⟨s0, s1, s2, s3, s4, s5⟩; go_simp; with_reducible rfl)
   refine hkTt (i := 5) (N := some 30) HT_ HW_ hHeld ?_ (hy := by rintro w' ⟨s0, s1, s2, s3, s4, s5⟩; go_simp; with_reducible rfl)
   refine one_ (i := 6) (N := none) #[true, true, true, true, true, true, true, false, false] rfl rfl (one_of HT_.out (by kernel_rfl)) (by decide) (fun K hK => ?_)
   have hs30 : w29.cell? ⟨gb685, 0, none⟩ = some (.bool false) := (blk_cell BK685.out 0).trans rfl
   have hfs30 := blk_frozen BK685.out 0
   have hns30_0 := NB683_685.out
   have hns30_1 := NB684_685.out
   have hns30_3 := NB686_685.out
   have hms30_0 := NB685_683.out
   have hms30_1 := NB685_684.out
   have hms30_3 := NB685_686.out
   have hs31 : w29.cell? ⟨gb685, 1, none⟩ = some (.slice none 0 0) := (blk_cell BK685.out 1).trans rfl
   have hfs31 := blk_frozen BK685.out 1
   have hns31_0 := NB683_685.out
   have hns31_1 := NB684_685.out
   have hns31_3 := NB686_685.out
   have hms31_0 := NB685_683.out
   have hms31_1 := NB685_684.out
   have hms31_3 := NB685_686.out
   refine skip_ (w1 := ?_) (by rfl) rfl ?_ ?_
   rotate_left
   ·go_simp
    rfl
   refine hK.out _ _ ⟨((cell_far (p := ⟨gb685, _, none⟩) NB683_685.out _).trans (((cell_far (p := ⟨gb685, _, none⟩) NB683_685.out _).trans (hHeld.1)))), ((cell_far (p := ⟨gb685, _, none⟩) NB683_685.out _).trans (((cell_far (p := ⟨gb685, _, none⟩) NB683_685.out _).trans (hHeld.2.1)))), ((cell_far (p := ⟨gb685, _, none⟩) NB683_685.out _).trans (((cell_far (p := ⟨gb685, _, none⟩) NB683_685.out _).trans (hHeld.2.2.1)))), ((cell_far (p := ⟨gb685, _, none⟩) NB684_685.out _).trans (((cell_far (p := ⟨gb685, _, none⟩) NB684_685.out _).trans (hHeld.2.2.2.1)))), ((cell_far (p := ⟨gb685, _, none⟩) NB684_685.out _).trans (((cell_far (p := ⟨gb685, _, none⟩) NB684_685.out _).trans (hHeld.2.2.2.2.1)))), ((cell_far (p := ⟨gb685, _, none⟩) NB684_685.out _).trans (((cell_far (p := ⟨gb685, _, none⟩) NB684_685.out _).trans (hHeld.2.2.2.2.2))))⟩ (fun hHeld => ?_)
   clear hK K
   refine one_ (i := 7) (N := none) #[true, true, true, true, true, true, true, true, false] rfl rfl (one_of HT_.out (by kernel_rfl)) (by decide) (fun K hK => ?_)
   have hs32 : w29.cell? ⟨gb686, 0, none⟩ = some (.bool false) := (blk_cell BK686.out 0).trans rfl
   have hfs32 := blk_frozen BK686.out 0
   have hns32_0 := NB683_686.out
   have hns32_1 := NB684_686.out
   have hns32_2 := NB685_686.out
   have hms32_0 := NB686_683.out
   have hms32_1 := NB686_684.out
   have hms32_2 := NB686_685.out
   have hs33 : w29.cell? ⟨gb686, 1, none⟩ = some (.slice none 0 0) := (blk_cell BK686.out 1).trans rfl
   have hfs33 := blk_frozen BK686.out 1
   have hns33_0 := NB683_686.out
   have hns33_1 := NB684_686.out
   have hns33_2 := NB685_686.out
   have hms33_0 := NB686_683.out
   have hms33_1 := NB686_684.out
   have hms33_2 := NB686_685.out
   refine skip_ (w1 := ?_) (by rfl) rfl ?_ ?_
   rotate_left
   ·go_simp
    rfl
   refine hK.out _ _ ⟨((cell_far (p := ⟨gb686, _, none⟩) NB683_686.out _).trans (((cell_far (p := ⟨gb686, _, none⟩) NB683_686.out _).trans (hHeld.1)))), ((cell_far (p := ⟨gb686, _, none⟩) NB683_686.out _).trans (((cell_far (p := ⟨gb686, _, none⟩) NB683_686.out _).trans (hHeld.2.1)))), ((cell_far (p := ⟨gb686, _, none⟩) NB683_686.out _).trans (((cell_far (p := ⟨gb686, _, none⟩) NB683_686.out _).trans (hHeld.2.2.1)))), ((cell_far (p := ⟨gb686, _, none⟩) NB684_686.out _).trans (((cell_far (p := ⟨gb686, _, none⟩) NB684_686.out _).trans (hHeld.2.2.2.1)))), ((cell_far (p := ⟨gb686, _, none⟩) NB684_686.out _).trans (((cell_far (p := ⟨gb686, _, none⟩) NB684_686.out _).trans (hHeld.2.2.2.2.1)))), ((cell_far (p := ⟨gb686, _, none⟩) NB684_686.out _).trans (((cell_far (p := ⟨gb686, _, none⟩) NB684_686.out _).trans (hHeld.2.2.2.2.2))))⟩ (fun hHeld => ?_)
   clear hK K
   refine hkPt (i := 8) (N := some 6) HT_ ?_
   refine done_ (done_of HT_.out (by kernel_rfl)) ?_
   try go_wp2
   refine bodyPost_ret (results_list (rs := [.cell 4 28, .cell 5 28, .tmp 6]) rfl (by simp) (.cell gb685 28 #[.bool a0_0, .slice A0_1 l0_1.length c0_1] (0, 0) _ rfl hkPp Tryd.underlying28 rfl (by kernel_rfl) (.cell gb686 28 #[.bool a1_0, .slice A1_1 l1_1.length c1_1] (0, 0) _ rfl hkPp Tryd.underlying28 rfl (by kernel_rfl) (.tmp .nil)))) rfl ?_
   exact ⟨_, _, hkE, by (with_reducible repeat (first | apply Kd.V_alloc | apply Kd.V_drewN | apply Kd.V_drew)); exact Kd.V_mono (Kd.V_far (p := ⟨gb686, 1, none⟩) (Kd.V_far (p := ⟨gb686, 0, none⟩) (Kd.V_far (p := ⟨gb685, 1, none⟩) (Kd.V_far (p := ⟨gb685, 0, none⟩) (Kd.V_mono (Kd.V_mono HO0_1.out (fun k_ hk => (⟨hk, hk.1.2⟩ : _ ∧ k_ ≠ gb685))) (fun k_ hk => (⟨hk, hk.1.2⟩ : _ ∧ k_ ≠ gb686))) (fun _ hk => hk.1.2) (.bool a0_0)) (fun _ hk => hk.1.2) (.slice A0_1 l0_1.length c0_1)) (fun _ hk => hk.2) (.bool a1_0)) (fun _ hk => hk.2) (.slice A1_1 l1_1.length c1_1)) (fun _ hk => hk.1.1.1.1.1.1), by (with_reducible repeat (first | apply Kd.V_alloc | apply Kd.V_drewN | apply Kd.V_drew)); exact Kd.V_mono (Kd.V_far (p := ⟨gb686, 1, none⟩) (Kd.V_far (p := ⟨gb686, 0, none⟩) (Kd.V_far (p := ⟨gb685, 1, none⟩) (Kd.V_far (p := ⟨gb685, 0, none⟩) (Kd.V_mono (Kd.V_mono HO1_1.out (fun k_ hk => (⟨hk, hk.1.2⟩ : _ ∧ k_ ≠ gb685))) (fun k_ hk => (⟨hk, hk.1.2⟩ : _ ∧ k_ ≠ gb686))) (fun _ hk => hk.1.2) (.bool a0_0)) (fun _ hk => hk.1.2) (.slice A0_1 l0_1.length c0_1)) (fun _ hk => hk.2) (.bool a1_0)) (fun _ hk => hk.2) (.slice A1_1 l1_1.length c1_1)) (fun _ hk => hk.1.1.1.1.1.1), hkS HB⟩
  ·rw [if_neg c17] at H
   have c17b0 : ((l1_1.length : Int) == 0) = false := beq_eq_false_iff_ne.mpr c17
   have c17b1 : ((l1_1.length : Int) != 0) = true := bne_iff_ne.mpr c17
   have c17b2 : ¬ (l1_1 = []) := fun h_ => c17 (by rw [h_]; rfl)
   by_cases c34 : a0_2 ≤ a1_2
   ·rw [if_pos c34] at H
    have c34b0 : decide (a0_2 ≤ a1_2) = true := decide_eq_true c34
    clear c34
    replace H := hBi H
    obtain ⟨t687, A350, H⟩ := H
    replace H : ((spec_l3make.f k a1_0 t687).bind fun bt690 => (some (a0_0, l0_1, bt690.1, bt690.2, a0_2))) = some (r1, r2, r3, r4, r5) := H
    have A35 := Aside0.mk A350
    clear A350
    replace H := hBi H
    obtain ⟨⟨t690, t691⟩, A360, H⟩ := H
    replace H : (some (a0_0, l0_1, t690, t691, a0_2)) = some (r1, r2, r3, r4, r5) := H
    have A36 := Aside0.mk A360
    clear A360
    simp only [Option.some.injEq, Prod.mk.injEq] at H
    obtain ⟨rfl, rfl, rfl, rfl, rfl⟩ := H
    go_enter Tryd.func101, Tryd.ntmps101
    try go_wp2_with (first | ((with_reducible refine gate_dst (N := 2) rfl ?_); refine hkBox (N := 2) (cs := #[.bool a0_0, .slice A0_1 l0_1.length c0_1, .int .i64 a0_2]) (t := 30) ?_; intro gb683 hg w37 hbox hb; have n_ := hkA (Aside0.mk (Kd.V_below (Kd.V_elderB (by (with_reducible repeat (first | apply Kd.V_alloc | apply Kd.V_drewN | apply Kd.V_drew)); exact HO0_1.out) gb683 (Nat.le_of_eq hg.symm)) hb)) (hkA (Aside0.mk (Kd.V_below (Kd.V_elderB (by (with_reducible repeat (first | apply Kd.V_alloc | apply Kd.V_drewN | apply Kd.V_drew)); exact HO1_1.out) gb683 (Nat.le_of_eq hg.symm)) hb)) (hkA (hkU HB hb) (hkA (Aside0.mk (hbox)) (hkA (hkG hg (hkS HB)) (hkG hg (hkS HB)))))); clear HO0_1 HO1_1 HB; obtain ⟨HO0_1, HO1_1, HB, BK683, GW683, GE683⟩ := n_; clear hb hbox hg) | ((with_reducible refine gate_dst (N := 3) rfl ?_); refine hkBox (N := 3) (cs := #[.bool a1_0, .slice A1_1 l1_1.length c1_1, .int .i64 a1_2]) (t := 30) ?_; intro gb684 hg w38 hbox hb; have n_ := hkA (Aside0.mk (Kd.V_below (Kd.V_elderB (by (with_reducible repeat (first | apply Kd.V_alloc | apply Kd.V_drewN | apply Kd.V_drew)); exact HO0_1.out) gb684 (Nat.le_of_eq hg.symm)) hb)) (hkA (Aside0.mk (Kd.V_below (Kd.V_elderB (by (with_reducible repeat (first | apply Kd.V_alloc | apply Kd.V_drewN | apply Kd.V_drew)); exact HO1_1.out) gb684 (Nat.le_of_eq hg.symm)) hb)) (hkA (hkBb BK683 hb) (hkA (hkU HB hb) (hkA (Aside0.mk (hbox)) (hkA (hkG hg (hkS HB)) (hkA (hkG hg (hkS HB)) (hkA (hkN hg BK683) (hkM hg BK683)))))))); clear HO0_1 HO1_1 BK683 HB; obtain ⟨HO0_1, HO1_1, BK683, HB, BK684, GW684, GE684, NB683_684, NB684_683⟩ := n_; clear hb hbox hg) | ((with_reducible refine gate_dst (N := 4) rfl ?_); refine hkBox (N := 4) (cs := #[.bool false, .slice none 0 0]) (t := 28) ?_; intro gb685 hg w39 hbox hb; have n_ := hkA (Aside0.mk (Kd.V_below (Kd.V_elderB (by (with_reducible repeat (first | apply Kd.V_alloc | apply Kd.V_drewN | apply Kd.V_drew)); exact HO0_1.out) gb685 (Nat.le_of_eq hg.symm)) hb)) (hkA (Aside0.mk (Kd.V_below (Kd.V_elderB (by (with_reducible repeat (first | apply Kd.V_alloc | apply Kd.V_drewN | apply Kd.V_drew)); exact HO1_1.out) gb685 (Nat.le_of_eq hg.symm)) hb)) (hkA (hkBb BK683 hb) (hkA (hkBb BK684 hb) (hkA (hkU HB hb) (hkA (Aside0.mk (hbox)) (hkA (hkG hg (hkS HB)) (hkA (hkG hg (hkS HB)) (hkA (hkN hg BK683) (hkA (hkM hg BK683) (hkA (hkN hg BK684) (hkM hg BK684))))))))))); clear HO0_1 HO1_1 BK683 BK684 HB; obtain ⟨HO0_1, HO1_1, BK683, BK684, HB, BK685, GW685, GE685, NB683_685, NB685_683, NB684_685, NB685_684⟩ := n_; clear hb hbox hg) | ((with_reducible refine gate_dst (N := 5) rfl ?_); refine hkBox (N := 5) (cs := #[.bool false, .slice none 0 0]) (t := 28) ?_; intro gb686 hg w40 hbox hb; have n_ := hkA (Aside0.mk (Kd.V_below (Kd.V_elderB (by (with_reducible repeat (first | apply Kd.V_alloc | apply Kd.V_drewN | apply Kd.V_drew)); exact HO0_1.out) gb686 (Nat.le_of_eq hg.symm)) hb)) (hkA (Aside0.mk (Kd.V_below (Kd.V_elderB (by (with_reducible repeat (first | apply Kd.V_alloc | apply Kd.V_drewN | apply Kd.V_drew)); exact HO1_1.out) gb686 (Nat.le_of_eq hg.symm)) hb)) (hkA (hkBb BK683 hb) (hkA (hkBb BK684 hb) (hkA (hkBb BK685 hb) (hkA (hkU HB hb) (hkA (Aside0.mk (hbox)) (hkA (hkG hg (hkS HB)) (hkA (hkG hg (hkS HB)) (hkA (hkN hg BK683) (hkA (hkM hg BK683) (hkA (hkN hg BK684) (hkA (hkM hg BK684) (hkA (hkN hg BK685) (hkM hg BK685)))))))))))))); clear HO0_1 HO1_1 BK683 BK684 BK685 HB; obtain ⟨HO0_1, HO1_1, BK683, BK684, BK685, HB, BK686, GW686, GE686, NB683_686, NB686_683, NB684_686, NB686_684, NB685_686, NB686_685⟩ := n_; clear hb hbox hg; have hnb41 := NB683_684.out; have hnc41 := NB684_683.out; have hnb42 := NB683_685.out; have hnc42 := NB685_683.out; have hnb43 := NB683_686.out; have hnc43 := NB686_683.out; obtain ⟨hcz44_0, hfz44_0, hcz44_1, hfz44_1, hcz44_2, hfz44_2⟩ := hkc3 BK683; have hnb45 := NB684_685.out; have hnc45 := NB685_684.out; have hnb46 := NB684_686.out; have hnc46 := NB686_684.out; obtain ⟨hcz47_0, hfz47_0, hcz47_1, hfz47_1, hcz47_2, hfz47_2⟩ := hkc3 BK684))
    have n_ := hkA (Aside0.mk (Kd.V_drew HO0_1.out)) (hkA (Aside0.mk (Kd.V_drew HO1_1.out)) (hkA (Aside0.mk (blk_drew BK683.out)) (hkA (Aside0.mk (blk_drew BK684.out)) (hkA (Aside0.mk (blk_drew BK685.out)) (hkA (Aside0.mk (blk_drew BK686.out)) (Aside0.mk (below_drew1 HB.out)))))))
    clear HO0_1 HO1_1 BK683 BK684 BK685 BK686 HB
    obtain ⟨HO0_1, HO1_1, BK683, BK684, BK685, BK686, HB⟩ := n_
    refine start_ (n := 20) (S := fun w' => w'.cell? ⟨gb683, 0, none⟩ = some (.bool a0_0) ∧ w'.cell? ⟨gb683, 1, none⟩ = some (.slice A0_1 l0_1.length c0_1) ∧ w'.cell? ⟨gb683, 2, none⟩ = some (.int .i64 a0_2) ∧ w'.cell? ⟨gb684, 0, none⟩ = some (.bool a1_0) ∧ w'.cell? ⟨gb684, 1, none⟩ = some (.slice A1_1 l1_1.length c1_1) ∧ w'.cell? ⟨gb684, 2, none⟩ = some (.int .i64 a1_2)) (ds := []) #[false, false, false, false, false, false, false, false, false, false, false, false, false, false, false, false, false, false, false, false] (by kernel_rfl) rfl rfl ⟨(blk_cell BK683.out 0).trans rfl, (blk_cell BK683.out 1).trans rfl, (blk_cell BK683.out 2).trans rfl, (blk_cell BK684.out 0).trans rfl, (blk_cell BK684.out 1).trans rfl, (blk_cell BK684.out 2).trans rfl⟩ (fun hHeld => ?_); refine with_tabW spec_l4align.tab6 spec_l4align.bits6 (fun HT_ HW_ => ?_)
    generalize w40.drew = w48 at HO0_1 HO1_1 BK683 BK684 BK685 BK686 HB hHeld ⊢
    refine hkPt (i := 0) (N := some 36) HT_ ?_
    refine hkPt (i := 2) (N := some 38) HT_ ?_
    refine hkPt (i := 3) (N := some 39) HT_ ?_
    refine hkPt (i := 5) (N := some 41) HT_ ?_
    refine hkPt (i := 6) (N := some 42) HT_ ?_
    refine hkPt (i := 8) (N := some 44) HT_ ?_
    refine hkPt (i := 10) (N := some 46) HT_ ?_
    refine hkPt (i := 15) (N := some 51) HT_ ?_
    refine hkTt (i := 1) (N := some 37) HT_ HW_ hHeld ?_ (hy := by rintro w' ⟨s0, s1, s2, s3, s4, s5⟩; go_simp; with_reducible rfl)
    refine hkTt (i := 4) (N := some 40) HT_ HW_ hHeld ?_ (hy := by rintro w' ⟨s0, s1, s2, s3, s4, s5⟩; go_simp; with_reducible rfl)
    refine hkTt (i := 7) (N := some 43) HT_ HW_ hHeld ?_ (hy := by rintro w' ⟨s0, s1, s2, s3, s4, s5⟩; go_simp; with_reducible rfl)
    refine hkTt (i := 9) (N := some 45) HT_ HW_ hHeld ?_ (hy := by rintro w' ⟨s0, s1, s2, s3, s4, s5⟩; go_simp; with_reducible rfl)
    refine hkTt (i := 11) (N := some 47) HT_ HW_ hHeld ?_ (hy := by rintro w' ⟨s0, s1, s2, s3, s4, s5⟩; go_simp; with_reducible rfl)
    refine hkPt (i := 12) (N := some 48) HT_ ?_
    refine hkTt (i := 16) (N := some 52) HT_ HW_ hHeld ?_ (hy := by rintro w' ⟨s0, s1, s2, s3, s4, s5⟩; go_simp; with_reducible rfl)
    refine one_ (i := 13) (N := some 49) #[true, true, true, true, true, true, true, true, true, true, true, true, true, true, false, true, true, false, false, false] rfl rfl (one_of HT_.out (by kernel_rfl)) (by decide) (fun K hK => ?_)
    refine goes_ Tryd.func123 (by kernel_rfl) rfl #[.agg #[.slice A1_1 l1_1.length c1_1], .int .i64 (wrap64 (a1_2 - a0_2))] (by rfl) rfl rfl hkL ?_
    with_reducible refine (spec_l2shl.calls k _ _ l1_1 (wrap64 (a1_2 - a0_2)) t687 _ ?side1 ?side2 A35.out).mono ?_
    (case side1 => exact hkC ((Kd.V_reads' HO1_1.out).2.2))
    (case side2 => exact (Kd.V_reads' HO1_1.out).2.1)
    rintro e w49 ⟨v688, rfl, ho0, hb⟩
    refine ⟨_, rfl, ?_⟩
    have n_ := hkA (Aside0.mk (Kd.V_elder' (by (with_reducible repeat (first | apply Kd.V_alloc | apply Kd.V_drewN | apply Kd.V_drew)); exact HO0_1.out) (Kd.R_base ho0) hb)) (hkA (Aside0.mk (Kd.V_elder' (by (with_reducible repeat (first | apply Kd.V_alloc | apply Kd.V_drewN | apply Kd.V_drew)); exact HO1_1.out) (Kd.R_base ho0) hb)) (hkA (Aside0.mk (Kd.R_lower (Kd.R_newM (M := fun k_ => (w.heap.size ≤ k_)) ho0 (below_size (hkS HB)) (fun k_ h_ => h_)) (below_size (hkS HB)))) (hkA (hkBb BK683 hb) (hkA (hkBb BK684 hb) (hkA (hkBb BK685 hb) (hkA (hkBb BK686 hb) (hkU HB hb)))))))
    clear HO0_1 HO1_1 BK683 BK684 BK685 BK686 HB
    obtain ⟨HO0_1, HO1_1, HO689, BK683, BK684, BK685, BK686, HB⟩ := n_
    (try clear hb); (try clear ho0)
    obtain ⟨Ao50, co50, eo50⟩ := Kd.R_slice HO689.out
    (first | subst eo50 | (injection eo50 with f1_ f2_ f3_; have f4_ := f1_.symm; have f5_ := f3_.symm; clear f1_ f2_ f3_; subst f4_; subst f5_))
    refine hK.out _ _ ⟨(blk_cell BK683.out 0).trans rfl, (blk_cell BK683.out 1).trans rfl, (blk_cell BK683.out 2).trans rfl, (blk_cell BK684.out 0).trans rfl, (blk_cell BK684.out 1).trans rfl, (blk_cell BK684.out 2).trans rfl⟩ (fun hHeld => ?_)
    clear hK K
    refine hkNo (N := some 49) ?_
    refine one_ (i := 14) (N := some 50) #[true, true, true, true, true, true, true, true, true, true, true, true, true, true, true, true, true, false, false, false] rfl rfl (one_of HT_.out (by kernel_rfl)) (by decide) (fun K hK => ?_)
    refine goes_ Tryd.func46 (by kernel_rfl) rfl #[.bool a1_0, .agg #[.slice Ao50 t687.length co50]] (by rfl) rfl rfl hkL ?_
    with_reducible refine (spec_l3make.calls k a1_0 _ _ t687 t690 t691 _ ?side1 ?side2 A36.out).mono ?_
    (case side1 => exact hkC ((Kd.R_reads' HO689.out).2.2))
    (case side2 => exact (Kd.R_reads' HO689.out).2.1)
    rintro e w51 ⟨v692, rfl, ho0, hb⟩
    refine ⟨_, rfl, ?_⟩
    have n_ := hkA (Aside0.mk (Kd.V_elder' (by (with_reducible repeat (first | apply Kd.V_alloc | apply Kd.V_drewN | apply Kd.V_drew)); exact HO0_1.out) (Kd.R_base ho0) hb)) (hkA (Aside0.mk (Kd.V_elder' (by (with_reducible repeat (first | apply Kd.V_alloc | apply Kd.V_drewN | apply Kd.V_drew)); exact HO1_1.out) (Kd.R_base ho0) hb)) (hkA (Aside0.mk (Kd.R_elder' (hkR HO689) (Kd.R_base ho0) hb)) (hkA (Aside0.mk (Kd.R_lower (Kd.R_new' (Kd.R_newM (M := fun k_ => (w.heap.size ≤ k_)) ho0 (below_size (hkS HB)) (fun k_ h_ => h_)) (Kd.R_lt (hkR HO689))) (below_size (hkS HB)))) (hkA (hkBb BK683 hb) (hkA (hkBb BK684 hb) (hkA (hkBb BK685 hb) (hkA (hkBb BK686 hb) (hkU HB hb))))))))
    clear HO0_1 HO1_1 HO689 BK683 BK684 BK685 BK686 HB
    obtain ⟨HO0_1, HO1_1, HO689, HO693, BK683, BK684, BK685, BK686, HB⟩ := n_
    (try clear hb); (try clear ho0)
    obtain ⟨Ao55, co55, eo55⟩ := Kd.R_slice HO693.out
    (first | subst eo55 | (injection eo55 with f1_ f2_ f3_; have f4_ := f1_.symm; have f5_ := f3_.symm; clear f1_ f2_ f3_; subst f4_; subst f5_))
    refine hK.out _ _ ⟨(blk_cell BK683.out 0).trans rfl, (blk_cell BK683.out 1).trans rfl, (blk_cell BK683.out 2).trans rfl, (blk_cell BK684.out 0).trans rfl, (blk_cell BK684.out 1).trans rfl, (blk_cell BK684.out 2).trans rfl⟩ (fun hHeld => ?_)
    clear hK K
    refine hkNo (N := some 50) ?_
    refine one_ (i := 17) (N := none) #[true, true, true, true, true, true, true, true, true, true, true, true, true, true, true, true, true, true, false, false] rfl rfl (one_of HT_.out (by kernel_rfl)) (by decide) (fun K hK => ?_)
    have hs52 : w51.cell? ⟨gb685, 0, none⟩ = some (.bool false) := (blk_cell BK685.out 0).trans rfl
    have hfs52 := blk_frozen BK685.out 0
    have hns52_0 := NB683_685.out
    have hns52_1 := NB684_685.out
    have hns52_3 := NB686_685.out
    have hms52_0 := NB685_683.out
    have hms52_1 := NB685_684.out
    have hms52_3 := NB685_686.out
    have hs53 : w51.cell? ⟨gb685, 1, none⟩ = some (.slice none 0 0) := (blk_cell BK685.out 1).trans rfl
    have hfs53 := blk_frozen BK685.out 1
    have hns53_0 := NB683_685.out
    have hns53_1 := NB684_685.out
    have hns53_3 := NB686_685.out
    have hms53_0 := NB685_683.out
    have hms53_1 := NB685_684.out
    have hms53_3 := NB685_686.out
    refine skip_ (w1 := ?_) (by rfl) rfl ?_ ?_
    rotate_left
    ·go_simp
     rfl
    refine hK.out _ _ ⟨((cell_far (p := ⟨gb685, _, none⟩) NB683_685.out _).trans (((cell_far (p := ⟨gb685, _, none⟩) NB683_685.out _).trans (hHeld.1)))), ((cell_far (p := ⟨gb685, _, none⟩) NB683_685.out _).trans (((cell_far (p := ⟨gb685, _, none⟩) NB683_685.out _).trans (hHeld.2.1)))), ((cell_far (p := ⟨gb685, _, none⟩) NB683_685.out _).trans (((cell_far (p := ⟨gb685, _, none⟩) NB683_685.out _).trans (hHeld.2.2.1)))), ((cell_far (p := ⟨gb685, _, none⟩) NB684_685.out _).trans (((cell_far (p := ⟨gb685, _, none⟩) NB684_685.out _).trans (hHeld.2.2.2.1)))), ((cell_far (p := ⟨gb685, _, none⟩) NB684_685.out _).trans (((cell_far (p := ⟨gb685, _, none⟩) NB684_685.out _).trans (hHeld.2.2.2.2.1)))), ((cell_far (p := ⟨gb685, _, none⟩) NB684_685.out _).trans (((cell_far (p := ⟨gb685, _, none⟩) NB684_685.out _).trans (hHeld.2.2.2.2.2))))⟩ (fun hHeld => ?_)
    clear hK K
    refine one_ (i := 18) (N := none) #[true, true, true, true, true, true, true, true, true, true, true, true, true, true, true, true, true, true, true, false] rfl rfl (one_of HT_.out (by kernel_rfl)) (by decide) (fun K hK => ?_)
    have hs54 : w51.cell? ⟨gb686, 0, none⟩ = some (.bool false) := (blk_cell BK686.out 0).trans rfl
    have hfs54 := blk_frozen BK686.out 0
    have hns54_0 := NB683_686.out
    have hns54_1 := NB684_686.out
    have hns54_2 := NB685_686.out
    have hms54_0 := NB686_683.out
    have hms54_1 := NB686_684.out
    have hms54_2 := NB686_685.out
    have hs56 : w51.cell? ⟨gb686, 1, none⟩ = some (.slice none 0 0) := (blk_cell BK686.out 1).trans rfl
    have hfs56 := blk_frozen BK686.out 1
    have hns56_0 := NB683_686.out
    have hns56_1 := NB684_686.out
    have hns56_2 := NB685_686.out
    have hms56_0 := NB686_683.out
    have hms56_1 := NB686_684.out
    have hms56_2 := NB686_685.out
    refine skip_ (w1 := ?_) (by rfl) rfl ?_ ?_
    rotate_left
    ·go_simp
     rfl
    refine hK.out _ _ ⟨((cell_far (p := ⟨gb686, _, none⟩) NB683_686.out _).trans (((cell_far (p := ⟨gb686, _, none⟩) NB683_686.out _).trans (hHeld.1)))), ((cell_far (p := ⟨gb686, _, none⟩) NB683_686.out _).trans (((cell_far (p := ⟨gb686, _, none⟩) NB683_686.out _).trans (hHeld.2.1)))), ((cell_far (p := ⟨gb686, _, none⟩) NB683_686.out _).trans (((cell_far (p := ⟨gb686, _, none⟩) NB683_686.out _).trans (hHeld.2.2.1)))), ((cell_far (p := ⟨gb686, _, none⟩) NB684_686.out _).trans (((cell_far (p := ⟨gb686, _, none⟩) NB684_686.out _).trans (hHeld.2.2.2.1)))), ((cell_far (p := ⟨gb686, _, none⟩) NB684_686.out _).trans (((cell_far (p := ⟨gb686, _, none⟩) NB684_686.out _).trans (hHeld.2.2.2.2.1)))), ((cell_far (p := ⟨gb686, _, none⟩) NB684_686.out _).trans (((cell_far (p := ⟨gb686, _, none⟩) NB684_686.out _).trans (hHeld.2.2.2.2.2))))⟩ (fun hHeld => ?_)
    clear hK K
    refine hkPt (i := 19) (N := some 6) HT_ ?_
    refine done_ (done_of HT_.out (by kernel_rfl)) ?_
    try go_wp2
    refine bodyPost_ret (results_list (rs := [.cell 4 28, .cell 5 28, .tmp 6]) rfl (by simp) (.cell gb685 28 #[.bool a0_0, .slice A0_1 l0_1.length c0_1] (0, 0) _ rfl hkPp Tryd.underlying28 rfl (by kernel_rfl) (.cell gb686 28 #[.bool t690, .slice Ao55 t691.length co55] (0, 0) _ rfl hkPp Tryd.underlying28 rfl (by kernel_rfl) (.tmp .nil)))) rfl ?_
    exact ⟨_, _, hkE, by (with_reducible repeat (first | apply Kd.V_alloc | apply Kd.V_drewN | apply Kd.V_drew)); exact Kd.V_mono (Kd.V_far (p := ⟨gb686, 1, none⟩) (Kd.V_far (p := ⟨gb686, 0, none⟩) (Kd.V_far (p := ⟨gb685, 1, none⟩) (Kd.V_far (p := ⟨gb685, 0, none⟩) (Kd.V_mono (Kd.V_mono HO0_1.out (fun k_ hk => (⟨hk, hk.1.1.1.2⟩ : _ ∧ k_ ≠ gb685))) (fun k_ hk => (⟨hk, hk.1.1.1.2⟩ : _ ∧ k_ ≠ gb686))) (fun _ hk => hk.1.2) (.bool a0_0)) (fun _ hk => hk.1.2) (.slice A0_1 l0_1.length c0_1)) (fun _ hk => hk.2) (.bool t690)) (fun _ hk => hk.2) (.slice Ao55 t691.length co55)) (fun _ hk => hk.1.1.1.1.1.1.1.1), Kd.V_mono (Kd.R_V (by (with_reducible repeat (first | apply Kd.R_alloc | apply Kd.R_drewN | apply Kd.R_drew)); exact Kd.R_mono (Kd.R_far (p := ⟨gb686, 1, none⟩) (Kd.R_far (p := ⟨gb686, 0, none⟩) (Kd.R_far (p := ⟨gb685, 1, none⟩) (Kd.R_far (p := ⟨gb685, 0, none⟩) (Kd.R_types (Kd.R_types HO693.out BK685.out (by decide)) BK686.out (by decide)) (fun _ hk => hk.1.2) (.bool a0_0)) (fun _ hk => hk.1.2) (.slice A0_1 l0_1.length c0_1)) (fun _ hk => hk.2) (.bool t690)) (fun _ hk => hk.2) (.slice Ao55 t691.length co55)) (fun _ hk => hk.1.1.1.1))) (fun k_ hk => by first | exact ⟨(.inr (hk.1)), hk.2⟩ | exact (.inr (hk))), hkS HB⟩
   ·rw [if_neg c34] at H
    have c34b0 : decide (a0_2 ≤ a1_2) = false := decide_eq_false c34
    clear c34
    replace H := hBi H
    obtain ⟨t694, A570, H⟩ := H
    replace H : ((spec_l3make.f k a0_0 t694).bind fun bt697 => (some (bt697.1, bt697.2, a1_0, l1_1, a1_2))) = some (r1, r2, r3, r4, r5) := H
    have A57 := Aside0.mk A570
    clear A570
    replace H := hBi H
    obtain ⟨⟨t697, t698⟩, A580, H⟩ := H
    replace H : (some (t697, t698, a1_0, l1_1, a1_2)) = some (r1, r2, r3, r4, r5) := H
    have A58 := Aside0.mk A580
    clear A580
    simp only [Option.some.injEq, Prod.mk.injEq] at H
    obtain ⟨rfl, rfl, rfl, rfl, rfl⟩ := H
    go_enter Tryd.func101, Tryd.ntmps101
    try go_wp2_with (first | ((with_reducible refine gate_dst (N := 2) rfl ?_); refine hkBox (N := 2) (cs := #[.bool a0_0, .slice A0_1 l0_1.length c0_1, .int .i64 a0_2]) (t := 30) ?_; intro gb683 hg w59 hbox hb; have n_ := hkA (Aside0.mk (Kd.V_below (Kd.V_elderB (by (with_reducible repeat (first | apply Kd.V_alloc | apply Kd.V_drewN | apply Kd.V_drew)); exact HO0_1.out) gb683 (Nat.le_of_eq hg.symm)) hb)) (hkA (Aside0.mk (Kd.V_below (Kd.V_elderB (by (with_reducible repeat (first | apply Kd.V_alloc | apply Kd.V_drewN | apply Kd.V_drew)); exact HO1_1.out) gb683 (Nat.le_of_eq hg.symm)) hb)) (hkA (hkU HB hb) (hkA (Aside0.mk (hbox)) (hkA (hkG hg (hkS HB)) (hkG hg (hkS HB)))))); clear HO0_1 HO1_1 HB; obtain ⟨HO0_1, HO1_1, HB, BK683, GW683, GE683⟩ := n_; clear hb hbox hg) | ((with_reducible refine gate_dst (N := 3) rfl ?_); refine hkBox (N := 3) (cs := #[.bool a1_0, .slice A1_1 l1_1.length c1_1, .int .i64 a1_2]) (t := 30) ?_; intro gb684 hg w60 hbox hb; have n_ := hkA (Aside0.mk (Kd.V_below (Kd.V_elderB (by (with_reducible repeat (first | apply Kd.V_alloc | apply Kd.V_drewN | apply Kd.V_drew)); exact HO0_1.out) gb684 (Nat.le_of_eq hg.symm)) hb)) (hkA (Aside0.mk (Kd.V_below (Kd.V_elderB (by (with_reducible repeat (first | apply Kd.V_alloc | apply Kd.V_drewN | apply Kd.V_drew)); exact HO1_1.out) gb684 (Nat.le_of_eq hg.symm)) hb)) (hkA (hkBb BK683 hb) (hkA (hkU HB hb) (hkA (Aside0.mk (hbox)) (hkA (hkG hg (hkS HB)) (hkA (hkG hg (hkS HB)) (hkA (hkN hg BK683) (hkM hg BK683)))))))); clear HO0_1 HO1_1 BK683 HB; obtain ⟨HO0_1, HO1_1, BK683, HB, BK684, GW684, GE684, NB683_684, NB684_683⟩ := n_; clear hb hbox hg) | ((with_reducible refine gate_dst (N := 4) rfl ?_); refine hkBox (N := 4) (cs := #[.bool false, .slice none 0 0]) (t := 28) ?_; intro gb685 hg w61 hbox hb; have n_ := hkA (Aside0.mk (Kd.V_below (Kd.V_elderB (by (with_reducible repeat (first | apply Kd.V_alloc | apply Kd.V_drewN | apply Kd.V_drew)); exact HO0_1.out) gb685 (Nat.le_of_eq hg.symm)) hb)) (hkA (Aside0.mk (Kd.V_below (Kd.V_elderB (by (with_reducible repeat (first | apply Kd.V_alloc | apply Kd.V_drewN | apply Kd.V_drew)); exact HO1_1.out) gb685 (Nat.le_of_eq hg.symm)) hb)) (hkA (hkBb BK683 hb) (hkA (hkBb BK684 hb) (hkA (hkU HB hb) (hkA (Aside0.mk (hbox)) (hkA (hkG hg (hkS HB)) (hkA (hkG hg (hkS HB)) (hkA (hkN hg BK683) (hkA (hkM hg BK683) (hkA (hkN hg BK684) (hkM hg BK684))))))))))); clear HO0_1 HO1_1 BK683 BK684 HB; obtain ⟨HO0_1, HO1_1, BK683, BK684, HB, BK685, GW685, GE685, NB683_685, NB685_683, NB684_685, NB685_684⟩ := n_; clear hb hbox hg) | ((with_reducible refine gate_dst (N := 5) rfl ?_); refine hkBox (N := 5) (cs := #[.bool false, .slice none 0 0]) (t := 28) ?_; intro gb686 hg w62 hbox hb; have n_ := hkA (Aside0.mk (Kd.V_below (Kd.V_elderB (by (with_reducible repeat (first | apply Kd.V_alloc | apply Kd.V_drewN | apply Kd.V_drew)); exact HO0_1.out) gb686 (Nat.le_of_eq hg.symm)) hb)) (hkA (Aside0.mk (Kd.V_below (Kd.V_elderB (by (with_reducible repeat (first | apply Kd.V_alloc | apply Kd.V_drewN | apply Kd.V_drew)); exact HO1_1.out) gb686 (Nat.le_of_eq hg.symm)) hb)) (hkA (hkBb BK683 hb) (hkA (hkBb BK684 hb) (hkA (hkBb BK685 hb) (hkA (hkU HB hb) (hkA (Aside0.mk (hbox)) (hkA (hkG hg (hkS HB)) (hkA (hkG hg (hkS HB)) (hkA (hkN hg BK683) (hkA (hkM hg BK683) (hkA (hkN hg BK684) (hkA (hkM hg BK684) (hkA (hkN hg BK685) (hkM hg BK685)))))))))))))); clear HO0_1 HO1_1 BK683 BK684 BK685 HB; obtain ⟨HO0_1, HO1_1, BK683, BK684, BK685, HB, BK686, GW686, GE686, NB683_686, NB686_683, NB684_686, NB686_684, NB685_686, NB686_685⟩ := n_; clear hb hbox hg; have hnb63 := NB683_684.out; have hnc63 := NB684_683.out; have hnb64 := NB683_685.out; have hnc64 := NB685_683.out; have hnb65 := NB683_686.out; have hnc65 := NB686_683.out; obtain ⟨hcz66_0, hfz66_0, hcz66_1, hfz66_1, hcz66_2, hfz66_2⟩ := hkc3 BK683; have hnb67 := NB684_685.out; have hnc67 := NB685_684.out; have hnb68 := NB684_686.out; have hnc68 := NB686_684.out; obtain ⟨hcz69_0, hfz69_0, hcz69_1, hfz69_1, hcz69_2, hfz69_2⟩ := hkc3 BK684))
    have n_ := hkA (Aside0.mk (Kd.V_drew HO0_1.out)) (hkA (Aside0.mk (Kd.V_drew HO1_1.out)) (hkA (Aside0.mk (blk_drew BK683.out)) (hkA (Aside0.mk (blk_drew BK684.out)) (hkA (Aside0.mk (blk_drew BK685.out)) (hkA (Aside0.mk (blk_drew BK686.out)) (Aside0.mk (below_drew1 HB.out)))))))
    clear HO0_1 HO1_1 BK683 BK684 BK685 BK686 HB
    obtain ⟨HO0_1, HO1_1, BK683, BK684, BK685, BK686, HB⟩ := n_
    refine start_ (n := 20) (S := fun w' => w'.cell? ⟨gb683, 0, none⟩ = some (.bool a0_0) ∧ w'.cell? ⟨gb683, 1, none⟩ = some (.slice A0_1 l0_1.length c0_1) ∧ w'.cell? ⟨gb683, 2, none⟩ = some (.int .i64 a0_2) ∧ w'.cell? ⟨gb684, 0, none⟩ = some (.bool a1_0) ∧ w'.cell? ⟨gb684, 1, none⟩ = some (.slice A1_1 l1_1.length c1_1) ∧ w'.cell? ⟨gb684, 2, none⟩ = some (.int .i64 a1_2)) (ds := []) #[false, false, false, false, false, false, false, false, false, false, false, false, false, false, false, false, false, false, false, false] (by kernel_rfl) rfl rfl ⟨(blk_cell BK683.out 0).trans rfl, (blk_cell BK683.out 1).trans rfl, (blk_cell BK683.out 2).trans rfl, (blk_cell BK684.out 0).trans rfl, (blk_cell BK684.out 1).trans rfl, (blk_cell BK684.out 2).trans rfl⟩ (fun hHeld => ?_); refine with_tabW spec_l4align.tab7 spec_l4align.bits7 (fun HT_ HW_ => ?_)
    generalize w62.drew = w70 at HO0_1 HO1_1 BK683 BK684 BK685 BK686 HB hHeld ⊢
    refine hkPt (i := 0) (N := some 53) HT_ ?_
    refine hkPt (i := 1) (N := some 54) HT_ ?_
    refine hkPt (i := 3) (N := some 56) HT_ ?_
    refine hkPt (i := 4) (N := some 57) HT_ ?_
    refine hkPt (i := 6) (N := some 59) HT_ ?_
    refine hkPt (i := 8) (N := some 61) HT_ ?_
    refine hkPt (i := 13) (N := some 66) HT_ ?_
    refine hkPt (i := 15) (N := some 68) HT_ ?_
    refine hkTt (i := 2) (N := some 55) HT_ HW_ hHeld ?_ (hy := by rintro w' ⟨s0, s1, s2, s3, s4, s5⟩; go_simp; with_reducible rfl)
    refine hkTt (i := 5) (N := some 58) HT_ HW_ hHeld ?_ (hy := by rintro w' ⟨s0, s1, s2, s3, s4, s5⟩; go_simp; with_reducible rfl)
    refine hkTt (i := 7) (N := some 60) HT_ HW_ hHeld ?_ (hy := by rintro w' ⟨s0, s1, s2, s3, s4, s5⟩; go_simp; with_reducible rfl)
    refine hkTt (i := 9) (N := some 62) HT_ HW_ hHeld ?_ (hy := by rintro w' ⟨s0, s1, s2, s3, s4, s5⟩; go_simp; with_reducible rfl)
    refine hkPt (i := 10) (N := some 63) HT_ ?_
    refine hkTt (i := 14) (N := some 67) HT_ HW_ hHeld ?_ (hy := by rintro w' ⟨s0, s1, s2, s3, s4, s5⟩; go_simp; with_reducible rfl)
    refine hkTt (i := 16) (N := some 69) HT_ HW_ hHeld ?_ (hy := by rintro w' ⟨s0, s1, s2, s3, s4, s5⟩; go_simp; with_reducible rfl)
    refine one_ (i := 11) (N := some 64) #[true, true, true, true, true, true, true, true, true, true, true, true, false, true, true, true, true, false, false, false] rfl rfl (one_of HT_.out (by kernel_rfl)) (by decide) (fun K hK => ?_)
    refine goes_ Tryd.func123 (by kernel_rfl) rfl #[.agg #[.slice A0_1 l0_1.length c0_1], .int .i64 (wrap64 (a0_2 - a1_2))] (by rfl) rfl rfl hkL ?_
    with_reducible refine (spec_l2shl.calls k _ _ l0_1 (wrap64 (a0_2 - a1_2)) t694 _ ?side1 ?side2 A57.out).mono ?_
    (case side1 => exact hkC ((Kd.V_reads' HO0_1.out).2.2))
    (case side2 => exact (Kd.V_reads' HO0_1.out).2.1)
    rintro e w71 ⟨v695, rfl, ho0, hb⟩
    refine ⟨_, rfl, ?_⟩
    have n_ := hkA (Aside0.mk (Kd.V_elder' (by (with_reducible repeat (first | apply Kd.V_alloc | apply Kd.V_drewN | apply Kd.V_drew)); exact HO0_1.out) (Kd.R_base ho0) hb)) (hkA (Aside0.mk (Kd.V_elder' (by (with_reducible repeat (first | apply Kd.V_alloc | apply Kd.V_drewN | apply Kd.V_drew)); exact HO1_1.out) (Kd.R_base ho0) hb)) (hkA (Aside0.mk (Kd.R_lower (Kd.R_newM (M := fun k_ => (w.heap.size ≤ k_)) ho0 (below_size (hkS HB)) (fun k_ h_ => h_)) (below_size (hkS HB)))) (hkA (hkBb BK683 hb) (hkA (hkBb BK684 hb) (hkA (hkBb BK685 hb) (hkA (hkBb BK686 hb) (hkU HB hb)))))))
    clear HO0_1 HO1_1 BK683 BK684 BK685 BK686 HB
    obtain ⟨HO0_1, HO1_1, HO696, BK683, BK684, BK685, BK686, HB⟩ := n_
    (try clear hb); (try clear ho0)
    obtain ⟨Ao72, co72, eo72⟩ := Kd.R_slice HO696.out
    (first | subst eo72 | (injection eo72 with f1_ f2_ f3_; have f4_ := f1_.symm; have f5_ := f3_.symm; clear f1_ f2_ f3_; subst f4_; subst f5_))
    refine hK.out _ _ ⟨(blk_cell BK683.out 0).trans rfl, (blk_cell BK683.out 1).trans rfl, (blk_cell BK683.out 2).trans rfl, (blk_cell BK684.out 0).trans rfl, (blk_cell BK684.out 1).trans rfl, (blk_cell BK684.out 2).trans rfl⟩ (fun hHeld => ?_)
    clear hK K
    refine hkNo (N := some 64) ?_
    refine one_ (i := 12) (N := some 65) #[true, true, true, true, true, true, true, true, true, true, true, true, true, true, true, true, true, false, false, false] rfl rfl (one_of HT_.out (by kernel_rfl)) (by decide) (fun K hK => ?_)
    refine goes_ Tryd.func46 (by kernel_rfl) rfl #[.bool a0_0, .agg #[.slice Ao72 t694.length co72]] (by rfl) rfl rfl hkL ?_
    with_reducible refine (spec_l3make.calls k a0_0 _ _ t694 t697 t698 _ ?side1 ?side2 A58.out).mono ?_
    (case side1 => exact hkC ((Kd.R_reads' HO696.out).2.2))
    (case side2 => exact (Kd.R_reads' HO696.out).2.1)
    rintro e w73 ⟨v699, rfl, ho0, hb⟩
    refine ⟨_, rfl, ?_⟩
    have n_ := hkA (Aside0.mk (Kd.V_elder' (by (with_reducible repeat (first | apply Kd.V_alloc | apply Kd.V_drewN | apply Kd.V_drew)); exact HO0_1.out) (Kd.R_base ho0) hb)) (hkA (Aside0.mk (Kd.V_elder' (by (with_reducible repeat (first | apply Kd.V_alloc | apply Kd.V_drewN | apply Kd.V_drew)); exact HO1_1.out) (Kd.R_base ho0) hb)) (hkA (Aside0.mk (Kd.R_elder' (hkR HO696) (Kd.R_base ho0) hb)) (hkA (Aside0.mk (Kd.R_lower (Kd.R_new' (Kd.R_newM (M := fun k_ => (w.heap.size ≤ k_)) ho0 (below_size (hkS HB)) (fun k_ h_ => h_)) (Kd.R_lt (hkR HO696))) (below_size (hkS HB)))) (hkA (hkBb BK683 hb) (hkA (hkBb BK684 hb) (hkA (hkBb BK685 hb) (hkA (hkBb BK686 hb) (hkU HB hb))))))))
    clear HO0_1 HO1_1 HO696 BK683 BK684 BK685 BK686 HB
    obtain ⟨HO0_1, HO1_1, HO696, HO700, BK683, BK684, BK685, BK686, HB⟩ := n_
    (try clear hb); (try clear ho0)
    obtain ⟨Ao75, co75, eo75⟩ := Kd.R_slice HO700.out
    (first | subst eo75 | (injection eo75 with f1_ f2_ f3_; have f4_ := f1_.symm; have f5_ := f3_.symm; clear f1_ f2_ f3_; subst f4_; subst f5_))
    refine hK.out _ _ ⟨(blk_cell BK683.out 0).trans rfl, (blk_cell BK683.out 1).trans rfl, (blk_cell BK683.out 2).trans rfl, (blk_cell BK684.out 0).trans rfl, (blk_cell BK684.out 1).trans rfl, (blk_cell BK684.out 2).trans rfl⟩ (fun hHeld => ?_)
    clear hK K
    refine hkNo (N := some 65) ?_
    refine one_ (i := 17) (N := none) #[true, true, true, true, true, true, true, true, true, true, true, true, true, true, true, true, true, true, false, false] rfl rfl (one_of HT_.out (by kernel_rfl)) (by decide) (fun K hK => ?_)
    have hs74 : w73.cell? ⟨gb685, 0, none⟩ = some (.bool false) := (blk_cell BK685.out 0).trans rfl
    have hfs74 := blk_frozen BK685.out 0
    have hns74_0 := NB683_685.out
    have hns74_1 := NB684_685.out
    have hns74_3 := NB686_685.out
    have hms74_0 := NB685_683.out
    have hms74_1 := NB685_684.out
    have hms74_3 := NB685_686.out
    have hs76 : w73.cell? ⟨gb685, 1, none⟩ = some (.slice none 0 0) := (blk_cell BK685.out 1).trans rfl
    have hfs76 := blk_frozen BK685.out 1
    have hns76_0 := NB683_685.out
    have hns76_1 := NB684_685.out
    have hns76_3 := NB686_685.out
    have hms76_0 := NB685_683.out
    have hms76_1 := NB685_684.out
    have hms76_3 := NB685_686.out
    refine skip_ (w1 := ?_) (by rfl) rfl ?_ ?_
    rotate_left
    ·go_simp
     rfl
    refine hK.out _ _ ⟨((cell_far (p := ⟨gb685, _, none⟩) NB683_685.out _).trans (((cell_far (p := ⟨gb685, _, none⟩) NB683_685.out _).trans (hHeld.1)))), ((cell_far (p := ⟨gb685, _, none⟩) NB683_685.out _).trans (((cell_far (p := ⟨gb685, _, none⟩) NB683_685.out _).trans (hHeld.2.1)))), ((cell_far (p := ⟨gb685, _, none⟩) NB683_685.out _).trans (((cell_far (p := ⟨gb685, _, none⟩) NB683_685.out _).trans (hHeld.2.2.1)))), ((cell_far (p := ⟨gb685, _, none⟩) NB684_685.out _).trans (((cell_far (p := ⟨gb685, _, none⟩) NB684_685.out _).trans (hHeld.2.2.2.1)))), ((cell_far (p := ⟨gb685, _, none⟩) NB684_685.out _).trans (((cell_far (p := ⟨gb685, _, none⟩) NB684_685.out _).trans (hHeld.2.2.2.2.1)))), ((cell_far (p := ⟨gb685, _, none⟩) NB684_685.out _).trans (((cell_far (p := ⟨gb685, _, none⟩) NB684_685.out _).trans (hHeld.2.2.2.2.2))))⟩ (fun hHeld => ?_)
    clear hK K
    refine one_ (i := 18) (N := none) #[true, true, true, true, true, true, true, true, true, true, true, true, true, true, true, true, true, true, true, false] rfl rfl (one_of HT_.out (by kernel_rfl)) (by decide) (fun K hK => ?_)
    have hs77 : w73.cell? ⟨gb686, 0, none⟩ = some (.bool false) := (blk_cell BK686.out 0).trans rfl
    have hfs77 := blk_frozen BK686.out 0
    have hns77_0 := NB683_686.out
    have hns77_1 := NB684_686.out
    have hns77_2 := NB685_686.out
    have hms77_0 := NB686_683.out
    have hms77_1 := NB686_684.out
    have hms77_2 := NB686_685.out
    have hs78 : w73.cell? ⟨gb686, 1, none⟩ = some (.slice none 0 0) := (blk_cell BK686.out 1).trans rfl
    have hfs78 := blk_frozen BK686.out 1
    have hns78_0 := NB683_686.out
    have hns78_1 := NB684_686.out
    have hns78_2 := NB685_686.out
    have hms78_0 := NB686_683.out
    have hms78_1 := NB686_684.out
    have hms78_2 := NB686_685.out
    refine skip_ (w1 := ?_) (by rfl) rfl ?_ ?_
    rotate_left
    ·go_simp
     rfl
    refine hK.out _ _ ⟨((cell_far (p := ⟨gb686, _, none⟩) NB683_686.out _).trans (((cell_far (p := ⟨gb686, _, none⟩) NB683_686.out _).trans (hHeld.1)))), ((cell_far (p := ⟨gb686, _, none⟩) NB683_686.out _).trans (((cell_far (p := ⟨gb686, _, none⟩) NB683_686.out _).trans (hHeld.2.1)))), ((cell_far (p := ⟨gb686, _, none⟩) NB683_686.out _).trans (((cell_far (p := ⟨gb686, _, none⟩) NB683_686.out _).trans (hHeld.2.2.1)))), ((cell_far (p := ⟨gb686, _, none⟩) NB684_686.out _).trans (((cell_far (p := ⟨gb686, _, none⟩) NB684_686.out _).trans (hHeld.2.2.2.1)))), ((cell_far (p := ⟨gb686, _, none⟩) NB684_686.out _).trans (((cell_far (p := ⟨gb686, _, none⟩) NB684_686.out _).trans (hHeld.2.2.2.2.1)))), ((cell_far (p := ⟨gb686, _, none⟩) NB684_686.out _).trans (((cell_far (p := ⟨gb686, _, none⟩) NB684_686.out _).trans (hHeld.2.2.2.2.2))))⟩ (fun hHeld => ?_)
    clear hK K
    refine hkPt (i := 19) (N := some 6) HT_ ?_
    refine done_ (done_of HT_.out (by kernel_rfl)) ?_
    try go_wp2
    refine bodyPost_ret (results_list (rs := [.cell 4 28, .cell 5 28, .tmp 6]) rfl (by simp) (.cell gb685 28 #[.bool t697, .slice Ao75 t698.length co75] (0, 0) _ rfl hkPp Tryd.underlying28 rfl (by kernel_rfl) (.cell gb686 28 #[.bool a1_0, .slice A1_1 l1_1.length c1_1] (0, 0) _ rfl hkPp Tryd.underlying28 rfl (by kernel_rfl) (.tmp .nil)))) rfl ?_
    exact ⟨_, _, hkE, Kd.V_mono (Kd.R_V (by (with_reducible repeat (first | apply Kd.R_alloc | apply Kd.R_drewN | apply Kd.R_drew)); exact Kd.R_mono (Kd.R_far (p := ⟨gb686, 1, none⟩) (Kd.R_far (p := ⟨gb686, 0, none⟩) (Kd.R_far (p := ⟨gb685, 1, none⟩) (Kd.R_far (p := ⟨gb685, 0, none⟩) (Kd.R_types (Kd.R_types HO700.out BK685.out (by decide)) BK686.out (by decide)) (fun _ hk => hk.1.2) (.bool t697)) (fun _ hk => hk.1.2) (.slice Ao75 t698.length co75)) (fun _ hk => hk.2) (.bool a1_0)) (fun _ hk => hk.2) (.slice A1_1 l1_1.length c1_1)) (fun _ hk => hk.1.1.1.1))) (fun k_ hk => by first | exact ⟨(.inr (hk.1)), hk.2⟩ | exact (.inr (hk))), by (with_reducible repeat (first | apply Kd.V_alloc | apply Kd.V_drewN | apply Kd.V_drew)); exact Kd.V_mono (Kd.V_far (p := ⟨gb686, 1, none⟩) (Kd.V_far (p := ⟨gb686, 0, none⟩) (Kd.V_far (p := ⟨gb685, 1, none⟩) (Kd.V_far (p := ⟨gb685, 0, none⟩) (Kd.V_mono (Kd.V_mono HO1_1.out (fun k_ hk => (⟨hk, hk.1.1.1.2⟩ : _ ∧ k_ ≠ gb685))) (fun k_ hk => (⟨hk, hk.1.1.1.2⟩ : _ ∧ k_ ≠ gb686))) (fun _ hk => hk.1.2) (.bool t697)) (fun _ hk => hk.1.2) (.slice Ao75 t698.length co75)) (fun _ hk => hk.2) (.bool a1_0)) (fun _ hk => hk.2) (.slice A1_1 l1_1.length c1_1)) (fun _ hk => hk.1.1.1.1.1.1.1.1), hkS HB⟩

end Go.Proofs.YtgjpahofopoflaaDoor.PFnFlOrder
