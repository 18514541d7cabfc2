-- Written by our own driver (wip/hand/hprint.py) over the seat's translation.
import Derived.Test.YtgjpahofopoflaaDoorPFnFlOrderx0
import Derived.Test.YtgjpahofopoflaaDoorPFnFlOrderx2
import Derived.Test.YtgjpahofopoflaaDoorPFnFlOrderx27
import Derived.Test.YtgjpahofopoflaaDoorPFnFlOrderx28
import Derived.Test.YtgjpahofopoflaaDoorPFnFlOrderx31
namespace Go.Proofs.YtgjpahofopoflaaDoor.PFnFlOrder
open Go.RowKit Go.Proofs.YtgjpahofopoflaaDoorW.PrintWords Go.Proofs.YtgjpahofopoflaaDoorW.PrintLast Go.Proofs.YtgjpahofopoflaaDoorW.PrintMore
attribute [local go_sem] max2_int min2_int max_two min_two max_three min_three max_four min_four   -- for this text's walks alone
set_option linter.unusedVariables false
set_option linter.unusedSimpArgs false

/-! ### impl_compareFloats: function 66 -/
def impl_compareFloats.j0 : Nat → Int → Bool → Int → Bool → Int → Int → Int → Bool → Int → Int → Option (Int)
 | 0, _, _, _, _, _, _, _, _, _, _ => none
 | k + 1, x6, x21, x652000, x652001, x652002, x652003, x653000, x653001, x653002, x653003 => if x21 = true then (some x6) else ((impl_Fl_exact.f k x652000 x652001 x652002 x652003).bind fun bt657 => ((impl_Fl_exact.f k x653000 x653001 x653002 x653003).bind fun bt662 => ((impl_exact_compare.f k bt657.1 bt657.2.1 bt657.2.2 bt662.1 bt662.2.1 bt662.2.2).bind fun t667 => (some t667))))
def impl_compareFloats.f (k : Nat) (a0_0 : Int) (a0_1 : Bool) (a0_2 : Int) (a0_3 : Int) (a1_0 : Int) (a1_1 : Bool) (a1_2 : Int) (a1_3 : Int) : Option (Int) := (impl_compareFloats_1.f a0_0 a0_1 a0_2 a0_3).bind fun t653 => ((impl_compareFloats_1.f a1_0 a1_1 a1_2 a1_3).bind fun t654 => ((cmp_Compare_int.f t653 t654).bind fun t655 => (if t655 = 0 then ((impl_compareFloats_1.f a0_0 a0_1 a0_2 a0_3).bind fun t656 => (impl_compareFloats.j0 k t655 (t656 != 0) a0_0 a0_1 a0_2 a0_3 a1_0 a1_1 a1_2 a1_3)) else (impl_compareFloats.j0 k t655 true a0_0 a0_1 a0_2 a0_3 a1_0 a1_1 a1_2 a1_3))))
theorem impl_compareFloats.mono_l : ∀ k, (∀ y0 y1 y2 y3 y4 y5 y6 y7 y8 y9, LeO (impl_compareFloats.j0 k y0 y1 y2 y3 y4 y5 y6 y7 y8 y9) (impl_compareFloats.j0 (k + 1) y0 y1 y2 y3 y4 y5 y6 y7 y8 y9))
 | 0 => fun _ _ _ _ _ _ _ _ _ _ r h => by simp [impl_compareFloats.j0] at h
 | k + 1 => by
  have ih0 := impl_compareFloats.mono_l k
  ·intro y0 y1 y2 y3 y4 y5 y6 y7 y8 y9
   unfold impl_compareFloats.j0
   repeat' first
   | (with_reducible exact ih0 _ _ _ _ _ _ _ _ _ _)
   | (with_reducible exact impl_Fl_exact.mono _ _ _ _ _)
   | (with_reducible exact impl_exact_compare.mono _ _ _ _ _ _ _)
   | (with_reducible exact LeO.refl _)
   | (with_reducible exact LeO.none _)
   | (with_reducible refine LeO.ite ?_ ?_)
   | (with_reducible refine LeO.bind ?_ (fun _ => ?_))
   | exact ih0 _ _ _ _ _ _ _ _ _ _
   | exact impl_Fl_exact.mono _ _ _ _ _
   | exact impl_exact_compare.mono _ _ _ _ _ _ _
   | exact LeO.none _
   | refine LeO.ite ?_ ?_
   | refine LeO.bind ?_ (fun _ => ?_)
theorem impl_compareFloats.mono : ∀ a0 a1 a2 a3 a4 a5 a6 a7 k, LeO (impl_compareFloats.f k a0 a1 a2 a3 a4 a5 a6 a7) (impl_compareFloats.f (k + 1) a0 a1 a2 a3 a4 a5 a6 a7) := by
 intro a0 a1 a2 a3 a4 a5 a6 a7 k
 have ih0 := impl_compareFloats.mono_l k
 unfold impl_compareFloats.f
 repeat' first
   | (with_reducible exact ih0 _ _ _ _ _ _ _ _ _ _)
   | (with_reducible exact impl_Fl_exact.mono _ _ _ _ _)
   | (with_reducible exact impl_exact_compare.mono _ _ _ _ _ _ _)
   | (with_reducible exact LeO.refl _)
   | (with_reducible exact LeO.none _)
   | (with_reducible refine LeO.ite ?_ ?_)
   | (with_reducible refine LeO.bind ?_ (fun _ => ?_))
   | exact ih0 _ _ _ _ _ _ _ _ _ _
   | exact impl_Fl_exact.mono _ _ _ _ _
   | exact impl_exact_compare.mono _ _ _ _ _ _ _
   | exact LeO.none _
   | refine LeO.ite ?_ ?_
   | refine LeO.bind ?_ (fun _ => ?_)
def impl_compareFloats.T2 : Bool × List (List Nat × List Nat) := (true, [([], []), ([], []), ([0, 1], [0, 1]), ([], []), ([], []), ([3, 4, 2], [3, 4]), ([2, 5, 5], [2, 5]), ([6, 6, 0, 1, 2, 3, 4, 5, 6], [6])])
def impl_compareFloats.B2 : List Nat := [0, 0, 3, 0, 0, 31, 63, 127]
theorem impl_compareFloats.tab2 : rtab .any (opsOf Tryd.f66 2) = impl_compareFloats.T2 := by kernel_rfl
theorem impl_compareFloats.bits2 : waitsOk impl_compareFloats.T2.2 impl_compareFloats.B2 = true := by kernel_rfl
set_option maxHeartbeats 8000000 in
set_option maxRecDepth 100000 in
theorem impl_compareFloats.calls (k : Nat) (a0_0 : Int) (a0_1 : Bool) (a0_2 : Int) (a0_3 : Int) (a1_0 : Int) (a1_1 : Bool) (a1_2 : Int) (a1_3 : Int) (r : Int) (w : World) (h : impl_compareFloats.f k a0_0 a0_1 a0_2 a0_3 a1_0 a1_1 a1_2 a1_3 = some r) :
  Calls Tryd.prog 66 #[.agg #[.int .i64 a0_0, .bool a0_1, .int .i64 a0_2, .int .i64 a0_3], .agg #[.int .i64 a1_0, .bool a1_1, .int .i64 a1_2, .int .i64 a1_3]] w fun e w' => e = .returned (.int .i64 r) ∧ Below w.heap.size w w' := by
 have hu33 := Tryd.underlying33
 have HB := Aside0.mk (Below.refl w.heap.size w)
 have eg : ∀ args w, (callFunc 98 args).run Tryd.prog w = .ok (.enter 98 args) w := enters_of Tryd.func98 (by kernel_rfl) rfl
 have H : ((impl_compareFloats_1.f a0_0 a0_1 a0_2 a0_3).bind fun t653 => ((impl_compareFloats_1.f a1_0 a1_1 a1_2 a1_3).bind fun t654 => ((cmp_Compare_int.f t653 t654).bind fun t655 => (if t655 = 0 then ((impl_compareFloats_1.f a0_0 a0_1 a0_2 a0_3).bind fun t656 => (impl_compareFloats.j0 k t655 (t656 != 0) a0_0 a0_1 a0_2 a0_3 a1_0 a1_1 a1_2 a1_3)) else (impl_compareFloats.j0 k t655 true a0_0 a0_1 a0_2 a0_3 a1_0 a1_1 a1_2 a1_3))))) = some r := h
 clear h
 replace H := hBi H
 obtain ⟨t653, A30, H⟩ := H
 replace H : ((impl_compareFloats_1.f a1_0 a1_1 a1_2 a1_3).bind fun t654 => ((cmp_Compare_int.f t653 t654).bind fun t655 => (if t655 = 0 then ((impl_compareFloats_1.f a0_0 a0_1 a0_2 a0_3).bind fun t656 => (impl_compareFloats.j0 k t655 (t656 != 0) a0_0 a0_1 a0_2 a0_3 a1_0 a1_1 a1_2 a1_3)) else (impl_compareFloats.j0 k t655 true a0_0 a0_1 a0_2 a0_3 a1_0 a1_1 a1_2 a1_3)))) = some r := H
 have A3 := Aside0.mk A30
 clear A30
 replace H := hBi H
 obtain ⟨t654, A40, H⟩ := H
 replace H : ((cmp_Compare_int.f t653 t654).bind fun t655 => (if t655 = 0 then ((impl_compareFloats_1.f a0_0 a0_1 a0_2 a0_3).bind fun t656 => (impl_compareFloats.j0 k t655 (t656 != 0) a0_0 a0_1 a0_2 a0_3 a1_0 a1_1 a1_2 a1_3)) else (impl_compareFloats.j0 k t655 true a0_0 a0_1 a0_2 a0_3 a1_0 a1_1 a1_2 a1_3))) = some r := H
 have A4 := Aside0.mk A40
 clear A40
 replace H := hBi H
 obtain ⟨t655, A50, H⟩ := H
 replace H : (if t655 = 0 then ((impl_compareFloats_1.f a0_0 a0_1 a0_2 a0_3).bind fun t656 => (impl_compareFloats.j0 k t655 (t656 != 0) a0_0 a0_1 a0_2 a0_3 a1_0 a1_1 a1_2 a1_3)) else (impl_compareFloats.j0 k t655 true a0_0 a0_1 a0_2 a0_3 a1_0 a1_1 a1_2 a1_3)) = some r := H
 have A5 := Aside0.mk A50
 clear A50
 have HC6 := Aside0.mk H
 clear H
 go_enter Tryd.func66, Tryd.ntmps66
 try go_wp2_with (first | ((with_reducible refine gate_dst (N := 2) rfl ?_); refine hkBox (N := 2) (cs := #[.int .i64 a0_0, .bool a0_1, .int .i64 a0_2, .int .i64 a0_3]) (t := 33) ?_; intro gb651 hg w7 hbox hb; have n_ := hkA (hkU HB hb) (hkA (Aside0.mk (hbox)) (hkA (hkG hg (hkS HB)) (hkG hg (hkS HB)))); clear HB; obtain ⟨HB, BK651, GW651, GE651⟩ := n_; clear hb hbox hg) | ((with_reducible refine gate_dst (N := 3) rfl ?_); refine hkBox (N := 3) (cs := #[.int .i64 a1_0, .bool a1_1, .int .i64 a1_2, .int .i64 a1_3]) (t := 33) ?_; intro gb652 hg w8 hbox hb; have n_ := hkA (hkBb BK651 hb) (hkA (hkU HB hb) (hkA (Aside0.mk (hbox)) (hkA (hkG hg (hkS HB)) (hkA (hkG hg (hkS HB)) (hkA (hkN hg BK651) (hkM hg BK651)))))); clear BK651 HB; obtain ⟨BK651, HB, BK652, GW652, GE652, NB651_652, NB652_651⟩ := n_; clear hb hbox hg))
 have n_ := hkA (Aside0.mk (blk_drew BK651.out)) (hkA (Aside0.mk (blk_drew BK652.out)) (Aside0.mk (below_drew1 HB.out)))
 clear BK651 BK652 HB
 obtain ⟨BK651, BK652, HB⟩ := n_
 refine start_ (n := 8) (S := fun w' => w'.cell? ⟨gb651, 0, none⟩ = some (.int .i64 a0_0) ∧ w'.cell? ⟨gb651, 1, none⟩ = some (.bool a0_1) ∧ w'.cell? ⟨gb651, 2, none⟩ = some (.int .i64 a0_2) ∧ w'.cell? ⟨gb651, 3, none⟩ = some (.int .i64 a0_3) ∧ w'.cell? ⟨gb652, 0, none⟩ = some (.int .i64 a1_0) ∧ w'.cell? ⟨gb652, 1, none⟩ = some (.bool a1_1) ∧ w'.cell? ⟨gb652, 2, none⟩ = some (.int .i64 a1_2) ∧ w'.cell? ⟨gb652, 3, none⟩ = some (.int .i64 a1_3)) (ds := []) #[false, false, false, false, false, false, false, false] (by kernel_rfl) rfl rfl ⟨(blk_cell BK651.out 0).trans rfl, (blk_cell BK651.out 1).trans rfl, (blk_cell BK651.out 2).trans rfl, (blk_cell BK651.out 3).trans rfl, (blk_cell BK652.out 0).trans rfl, (blk_cell BK652.out 1).trans rfl, (blk_cell BK652.out 2).trans rfl, (blk_cell BK652.out 3).trans rfl⟩ (fun hHeld => ?_); refine with_tabW impl_compareFloats.tab2 impl_compareFloats.bits2 (fun HT_ HW_ => ?_)
 generalize w8.drew = w9 at BK651 BK652 HB hHeld ⊢
 refine hkPt (i := 0) (N := some 7) HT_ ?_
 refine hkPt (i := 3) (N := some 10) HT_ ?_
 refine hkTt (i := 1) (N := some 8) HT_ HW_ hHeld ?_ (hy := by rintro w' ⟨s0, s1, s2, s3, s4, s5, s6, s7⟩; go_simp; with_reducible rfl)
 refine hkTt (i := 4) (N := some 11) HT_ HW_ hHeld ?_ (hy := by rintro w' ⟨s0, s1, s2, s3, s4, s5, s6, s7⟩; go_simp; with_reducible rfl)
 refine one_ (i := 2) (N := some 9) #[true, true, true, true, true, false, false, false] rfl rfl (one_of HT_.out (by kernel_rfl)) (by decide) (fun K hK => ?_)
 refine hgoesT_ Tryd.func98 (by kernel_rfl) rfl #[.agg #[.int .i64 a0_0, .bool a0_1, .int .i64 a0_2, .int .i64 a0_3]] (by rfl) rfl rfl (by rfl) hkL ?_
 with_reducible refine (impl_compareFloats_1.calls a0_0 a0_1 a0_2 a0_3 t653 _ A3.out).mono ?_
 rintro e w10 ⟨rfl, hb⟩
 refine ⟨_, rfl, ?_⟩
 have n_ := hkA (hkBb BK651 hb) (hkA (hkBb BK652 hb) (hkU HB hb))
 clear BK651 BK652 HB
 obtain ⟨BK651, BK652, HB⟩ := n_
 (try clear hb)
 refine hK.out _ _ ⟨(blk_cell BK651.out 0).trans rfl, (blk_cell BK651.out 1).trans rfl, (blk_cell BK651.out 2).trans rfl, (blk_cell BK651.out 3).trans rfl, (blk_cell BK652.out 0).trans rfl, (blk_cell BK652.out 1).trans rfl, (blk_cell BK652.out 2).trans rfl, (blk_cell BK652.out 3).trans rfl⟩ (fun hHeld => ?_)
 clear hK K
 refine hkNo (N := some 9) ?_
 refine one_ (i := 5) (N := some 12) #[true, true, true, true, true, true, false, false] rfl rfl (one_of HT_.out (by kernel_rfl)) (by decide) (fun K hK => ?_)
 refine hgoesT_ Tryd.func98 (by kernel_rfl) rfl #[.agg #[.int .i64 a1_0, .bool a1_1, .int .i64 a1_2, .int .i64 a1_3]] (by rfl) rfl rfl (by rfl) hkL ?_
 with_reducible refine (impl_compareFloats_1.calls a1_0 a1_1 a1_2 a1_3 t654 _ A4.out).mono ?_
 rintro e w11 ⟨rfl, hb⟩
 refine ⟨_, rfl, ?_⟩
 have n_ := hkA (hkBb BK651 hb) (hkA (hkBb BK652 hb) (hkU HB hb))
 clear BK651 BK652 HB
 obtain ⟨BK651, BK652, HB⟩ := n_
 (try clear hb)
 refine hK.out _ _ ⟨(blk_cell BK651.out 0).trans rfl, (blk_cell BK651.out 1).trans rfl, (blk_cell BK651.out 2).trans rfl, (blk_cell BK651.out 3).trans rfl, (blk_cell BK652.out 0).trans rfl, (blk_cell BK652.out 1).trans rfl, (blk_cell BK652.out 2).trans rfl, (blk_cell BK652.out 3).trans rfl⟩ (fun hHeld => ?_)
 clear hK K
 refine hkNo (N := some 12) ?_
 refine one_ (i := 6) (N := some 13) #[true, true, true, true, true, true, true, false] rfl rfl (one_of HT_.out (by kernel_rfl)) (by decide) (fun K hK => ?_)
 refine goes_ Tryd.func99 (by kernel_rfl) rfl #[.int .i64 t653, .int .i64 t654] (by rfl) rfl rfl hkL ?_
 with_reducible refine (cmp_Compare_int.calls t653 t654 t655 _ A5.out).mono ?_
 rintro e w' ⟨rfl, ⟨nd, rfl⟩⟩
 refine ⟨_, rfl, ?_⟩
 refine hK.out _ _ ⟨(blk_cell BK651.out 0).trans rfl, (blk_cell BK651.out 1).trans rfl, (blk_cell BK651.out 2).trans rfl, (blk_cell BK651.out 3).trans rfl, (blk_cell BK652.out 0).trans rfl, (blk_cell BK652.out 1).trans rfl, (blk_cell BK652.out 2).trans rfl, (blk_cell BK652.out 3).trans rfl⟩ (fun hHeld => ?_)
 clear hK K
 refine hkNo (N := some 13) ?_
 refine hkPt (i := 7) (N := some 6) HT_ ?_
 refine done_ (done_of HT_.out (by kernel_rfl)) ?_
 go_upto_region 3 with (fail)
 go_cut [21] (fun v21 wc => ∃ (kq : Nat) (x21_5 : Bool), v21 = .bool x21_5 ∧ Aside0 (impl_compareFloats.j0 kq t655 x21_5 a0_0 a0_1 a0_2 a0_3 a1_0 a1_1 a1_2 a1_3 = some r) ∧ Aside0 (kq ≤ k) ∧ Aside0 (wc.heap[gb651]? = some (.cells #[.int .i64 a0_0, .bool a0_1, .int .i64 a0_2, .int .i64 a0_3] 33 (0, 0))) ∧ Aside0 (wc.heap[gb652]? = some (.cells #[.int .i64 a1_0, .bool a1_1, .int .i64 a1_2, .int .i64 a1_3] 33 (0, 0))) ∧ Aside0 (Below w.heap.size w wc))
 case first =>
  have H := HC6.out
  clear HC6
  by_cases c12 : t655 = 0
  ·rw [if_pos c12] at H
   have c12b0 : (t655 == 0) = true := beq_iff_eq.mpr c12
   have c12b1 : (t655 != 0) = false := bne_eq_false_iff_eq.mpr c12
   clear c12
   (first | rw [c12b0] | (simp only [i64_w, i32_w]; rw [c12b0]) | skip)
   replace H := hBi H
   obtain ⟨t656, A130, H⟩ := H
   replace H : (impl_compareFloats.j0 k t655 (t656 != 0) a0_0 a0_1 a0_2 a0_3 a1_0 a1_1 a1_2 a1_3) = some r := H
   have A13 := Aside0.mk A130
   clear A130
   have H' := Aside0.mk H
   clear H
   have hnb14 := NB651_652.out
   have hnc14 := NB652_651.out
   obtain ⟨hcz15_0, hfz15_0, hcz15_1, hfz15_1, hcz15_2, hfz15_2, hcz15_3, hfz15_3⟩ := hkc4 BK651
   go_wp2_with (first | (go_at_fn 98; (with_reducible refine (impl_compareFloats_1.calls a0_0 a0_1 a0_2 a0_3 t656 _ A13.out).mono ?_); rintro e w16 ⟨rfl, hb⟩; have n_ := hkA (hkBb BK651 hb) (hkA (hkBb BK652 hb) (hkU HB hb)); clear BK651 BK652 HB; obtain ⟨BK651, BK652, HB⟩ := n_; (try clear hb)))
   go_meet
   case rel => exact ⟨_, ((t656 != 0)), (by first | rfl | (simp; done) | (simp [*]; done)), H', ⟨by first | omega | exact Nat.le_refl _⟩, ⟨by refine hkz ?_; exact BK651.out⟩, ⟨by refine hkz ?_; exact BK652.out⟩, ⟨hkS HB⟩⟩
  ·rw [if_neg c12] at H
   have c12b0 : (t655 == 0) = false := beq_eq_false_iff_ne.mpr c12
   have c12b1 : (t655 != 0) = true := bne_iff_ne.mpr c12
   (first | rw [c12b0] | (simp only [i64_w, i32_w]; rw [c12b0]) | skip)
   have H' := Aside0.mk H
   clear H
   go_wp2
   go_meet
   case rel => exact ⟨_, (true), (by first | rfl | (simp; done) | (simp [*]; done)), H', ⟨by first | omega | exact Nat.le_refl _⟩, ⟨by refine hkz ?_; exact BK651.out⟩, ⟨by refine hkz ?_; exact BK652.out⟩, ⟨hkS HB⟩⟩
 case rest =>
  clear HC6
  try clear c1
  try clear p2
  try clear c6
  try clear c9
  try clear c12
  try clear c12b0
  try clear c12b1
  try clear c14
  try clear hcz15_0 hcz15_1 hcz15_2 hcz15_3 hfz15_0 hfz15_1 hfz15_2 hfz15_3
  obtain ⟨kq, x21_5, rfl, HA, HJ5, BK651, BK652, HB⟩ := hcut
  cases kq with
  | zero => exact absurd HA.out (by simp [impl_compareFloats.j0])
  | succ kj5 =>
   have H := HA.out
   clear HA
   simp only [impl_compareFloats.j0] at H
   by_cases c17 : x21_5 = true
   ·subst c17
    have H1 : (some t655) = some r := by rw [if_pos rfl] at H; exact H
    clear H
    have H := H1
    clear H1
    obtain rfl := Option.some.inj H
    go_wp2
    go_ret
    exact ⟨hkE, hkS HB⟩
   ·replace c17 := Bool.eq_false_iff.mpr c17
    subst c17
    have H1 : ((impl_Fl_exact.f kj5 a0_0 a0_1 a0_2 a0_3).bind fun bt657 => ((impl_Fl_exact.f kj5 a1_0 a1_1 a1_2 a1_3).bind fun bt662 => ((impl_exact_compare.f kj5 bt657.1 bt657.2.1 bt657.2.2 bt662.1 bt662.2.1 bt662.2.2).bind fun t667 => (some t667)))) = some r := by rw [if_neg (show ¬ (false = true) by decide)] at H; exact H
    clear H
    have H := H1
    clear H1
    replace H := hBi H
    obtain ⟨⟨t657, t658, t661⟩, A180, H⟩ := H
    replace H : ((impl_Fl_exact.f kj5 a1_0 a1_1 a1_2 a1_3).bind fun bt662 => ((impl_exact_compare.f kj5 t657 t658 t661 bt662.1 bt662.2.1 bt662.2.2).bind fun t667 => (some t667))) = some r := H
    have A18 := Aside0.mk A180
    clear A180
    replace H := hBi H
    obtain ⟨⟨t662, t663, t666⟩, A190, H⟩ := H
    replace H : ((impl_exact_compare.f kj5 t657 t658 t661 t662 t663 t666).bind fun t667 => (some t667)) = some r := H
    have A19 := Aside0.mk A190
    clear A190
    replace H := hBi H
    obtain ⟨t667, A200, H⟩ := H
    replace H : (some t667) = some r := H
    have A20 := Aside0.mk A200
    clear A200
    obtain rfl := Option.some.inj H
    try go_wp2
    have n_ := hkA (Aside0.mk (blk_drew BK651.out)) (hkA (Aside0.mk (blk_drew BK652.out)) (Aside0.mk (below_drew1 HB.out)))
    clear BK651 BK652 HB
    obtain ⟨BK651, BK652, HB⟩ := n_
    refine start_ (n := 6) (S := fun w' => w'.cell? ⟨gb651, 0, none⟩ = some (.int .i64 a0_0) ∧ w'.cell? ⟨gb651, 1, none⟩ = some (.bool a0_1) ∧ w'.cell? ⟨gb651, 2, none⟩ = some (.int .i64 a0_2) ∧ w'.cell? ⟨gb651, 3, none⟩ = some (.int .i64 a0_3) ∧ w'.cell? ⟨gb652, 0, none⟩ = some (.int .i64 a1_0) ∧ w'.cell? ⟨gb652, 1, none⟩ = some (.bool a1_1) ∧ w'.cell? ⟨gb652, 2, none⟩ = some (.int .i64 a1_2) ∧ w'.cell? ⟨gb652, 3, none⟩ = some (.int .i64 a1_3)) (ds := []) #[false, false, false, false, false, false] (by kernel_rfl) rfl rfl ⟨(blk_cell BK651.out 0).trans rfl, (blk_cell BK651.out 1).trans rfl, (blk_cell BK651.out 2).trans rfl, (blk_cell BK651.out 3).trans rfl, (blk_cell BK652.out 0).trans rfl, (blk_cell BK652.out 1).trans rfl, (blk_cell BK652.out 2).trans rfl, (blk_cell BK652.out 3).trans rfl⟩ (fun hHeld => ?_)
    generalize wc.drew = w21 at BK651 BK652 HB hHeld ⊢
    refine hkTk (i := 0) (N := some 23) hHeld ?_ (hy := by rintro w' ⟨s0, s1, s2, s3, s4, s5, s6, s7⟩; go_simp; with_reducible rfl)
    refine hkTk (i := 2) (N := some 25) hHeld ?_ (hy := by rintro w' ⟨s0, s1, s2, s3, s4, s5, s6, s7⟩; go_simp; with_reducible rfl)
    refine one_ (i := 1) (N := some 24) #[true, true, true, false, false, false] rfl rfl (by kernel_rfl) (by decide) (fun K hK => ?_)
    refine goes_ Tryd.func40 (by kernel_rfl) rfl #[.agg #[.int .i64 a0_0, .bool a0_1, .int .i64 a0_2, .int .i64 a0_3]] (by rfl) rfl rfl hkL ?_
    with_reducible refine (impl_Fl_exact.calls kj5 a0_0 a0_1 a0_2 a0_3 t657 t658 t661 _ A18.out).mono ?_
    rintro e w22 ⟨v659, rfl, ho0, hb⟩
    refine ⟨_, rfl, ?_⟩
    have n_ := hkA (Aside0.mk (Kd.R_lower ho0 (below_size (hkS HB)))) (hkA (hkBb BK651 hb) (hkA (hkBb BK652 hb) (hkU HB hb)))
    clear BK651 BK652 HB
    obtain ⟨HO660, BK651, BK652, HB⟩ := n_
    (try clear hb); (try clear ho0)
    refine hK.out _ _ ⟨(blk_cell BK651.out 0).trans rfl, (blk_cell BK651.out 1).trans rfl, (blk_cell BK651.out 2).trans rfl, (blk_cell BK651.out 3).trans rfl, (blk_cell BK652.out 0).trans rfl, (blk_cell BK652.out 1).trans rfl, (blk_cell BK652.out 2).trans rfl, (blk_cell BK652.out 3).trans rfl⟩ (fun hHeld => ?_)
    clear hK K
    refine hkNo (N := some 24) ?_
    refine one_ (i := 3) (N := some 26) #[true, true, true, true, false, false] rfl rfl (by kernel_rfl) (by decide) (fun K hK => ?_)
    refine goes_ Tryd.func40 (by kernel_rfl) rfl #[.agg #[.int .i64 a1_0, .bool a1_1, .int .i64 a1_2, .int .i64 a1_3]] (by rfl) rfl rfl hkL ?_
    with_reducible refine (impl_Fl_exact.calls kj5 a1_0 a1_1 a1_2 a1_3 t662 t663 t666 _ A19.out).mono ?_
    rintro e w23 ⟨v664, rfl, ho0, hb⟩
    refine ⟨_, rfl, ?_⟩
    have n_ := hkA (Aside0.mk (Kd.R_elder' (hkR HO660) (Kd.R_base ho0) hb)) (hkA (Aside0.mk (Kd.R_lower (Kd.R_new' ho0 (Kd.R_lt (hkR HO660))) (below_size (hkS HB)))) (hkA (hkBb BK651 hb) (hkA (hkBb BK652 hb) (hkU HB hb))))
    clear HO660 BK651 BK652 HB
    obtain ⟨HO660, HO665, BK651, BK652, HB⟩ := n_
    (try clear hb); (try clear ho0)
    obtain ⟨Ao24, co24, eo24⟩ := Kd.R_slice HO660.out
    (first | subst eo24 | (injection eo24 with f1_ f2_ f3_; have f4_ := f1_.symm; have f5_ := f3_.symm; clear f1_ f2_ f3_; subst f4_; subst f5_))
    obtain ⟨Ao25, co25, eo25⟩ := Kd.R_slice HO665.out
    (first | subst eo25 | (injection eo25 with f1_ f2_ f3_; have f4_ := f1_.symm; have f5_ := f3_.symm; clear f1_ f2_ f3_; subst f4_; subst f5_))
    refine hK.out _ _ ⟨(blk_cell BK651.out 0).trans rfl, (blk_cell BK651.out 1).trans rfl, (blk_cell BK651.out 2).trans rfl, (blk_cell BK651.out 3).trans rfl, (blk_cell BK652.out 0).trans rfl, (blk_cell BK652.out 1).trans rfl, (blk_cell BK652.out 2).trans rfl, (blk_cell BK652.out 3).trans rfl⟩ (fun hHeld => ?_)
    clear hK K
    refine hkNo (N := some 26) ?_
    refine one_ (i := 4) (N := some 27) #[true, true, true, true, true, false] rfl rfl (by kernel_rfl) (by decide) (fun K hK => ?_)
    refine goes_ Tryd.func100 (by kernel_rfl) rfl #[.agg #[.bool t657, .slice Ao24 t658.length co24, .int .i64 t661], .agg #[.bool t662, .slice Ao25 t663.length co25, .int .i64 t666]] (by rfl) rfl rfl hkL ?_
    with_reducible refine (impl_exact_compare.calls kj5 t657 _ _ t658 t661 t662 _ _ t663 t666 t667 _ ?side1 ?side2 ?side3 ?side4 A20.out).mono ?_
    (case side1 => exact hkC ((Kd.R_reads' HO660.out).2.2))
    (case side2 => exact (Kd.R_reads' HO660.out).2.1)
    (case side3 => exact hkC ((Kd.R_reads' HO665.out).2.2))
    (case side4 => exact (Kd.R_reads' HO665.out).2.1)
    rintro e w26 ⟨rfl, hb⟩
    refine ⟨_, rfl, ?_⟩
    have n_ := hkA (hkRb HO660 hb) (hkA (hkRb HO665 hb) (hkA (hkBb BK651 hb) (hkA (hkBb BK652 hb) (hkU HB hb))))
    clear HO660 HO665 BK651 BK652 HB
    obtain ⟨HO660, HO665, BK651, BK652, HB⟩ := n_
    (try clear hb)
    refine hK.out _ _ ⟨(blk_cell BK651.out 0).trans rfl, (blk_cell BK651.out 1).trans rfl, (blk_cell BK651.out 2).trans rfl, (blk_cell BK651.out 3).trans rfl, (blk_cell BK652.out 0).trans rfl, (blk_cell BK652.out 1).trans rfl, (blk_cell BK652.out 2).trans rfl, (blk_cell BK652.out 3).trans rfl⟩ (fun hHeld => ?_)
    clear hK K
    refine hkNo (N := some 27) ?_
    refine hkPu (i := 5) (N := some 4) ?_
    refine done_ (by kernel_rfl) ?_
    try go_wp2
    go_ret
    exact ⟨hkE, hkS HB⟩

end Go.Proofs.YtgjpahofopoflaaDoor.PFnFlOrder
