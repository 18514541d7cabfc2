-- Written by our own driver (wip/hand/hprint.py) over the seat's translation.
import Derived.Test.YtgjpahofopoflaaDoorPFnFlOrderx0
import Derived.Test.YtgjpahofopoflaaDoorPFnFlOrderx28
namespace Go.Proofs.YtgjpahofopoflaaDoor.PFnFlOrder
open Go.RowKit Go.Proofs.YtgjpahofopoflaaDoorW.PrintWords Go.Proofs.YtgjpahofopoflaaDoorW.PrintLast Go.Proofs.YtgjpahofopoflaaDoorW.PrintMore
attribute [local go_sem] max2_int min2_int max_two min_two max_three min_three max_four min_four   -- for this text's walks alone
set_option linter.unusedVariables false
set_option linter.unusedSimpArgs false

/-! ### impl_aligned: function 121 -/
def impl_aligned.j0 : Nat → Int → Bool → List Int → Int → Bool → List Int → Int → Option (List Int × List Int × Int)
 | 0, _, _, _, _, _, _, _ => none
 | k + 1, x7, x620000, x620001, x620002, x621000, x621001, x621002 => if (x621001.length : Int) = 0 then ((impl_up.f k x620001 (mx (wrap64 (x620002 - x620002)) 0)).bind fun t621 => ((impl_up.f k x621001 (mx (wrap64 (x621002 - x620002)) 0)).bind fun t624 => (some (t621, t624, x620002)))) else ((impl_up.f k x620001 (mx (wrap64 (x620002 - x7)) 0)).bind fun t627 => ((impl_up.f k x621001 (mx (wrap64 (x621002 - x7)) 0)).bind fun t630 => (some (t627, t630, x7))))
def impl_aligned.f (k : Nat) (a0_0 : Bool) (l0_1 : List Int) (a0_2 : Int) (a1_0 : Bool) (l1_1 : List Int) (a1_2 : Int) : Option (List Int × List Int × Int) := if (l0_1.length : Int) = 0 then (impl_aligned.j0 k a1_2 a0_0 l0_1 a0_2 a1_0 l1_1 a1_2) else (impl_aligned.j0 k (mn a0_2 a1_2) a0_0 l0_1 a0_2 a1_0 l1_1 a1_2)
theorem impl_aligned.mono_l : ∀ k, (∀ y0 y1 y2 y3 y4 y5 y6, LeO (impl_aligned.j0 k y0 y1 y2 y3 y4 y5 y6) (impl_aligned.j0 (k + 1) y0 y1 y2 y3 y4 y5 y6))
 | 0 => fun _ _ _ _ _ _ _ r h => by simp [impl_aligned.j0] at h
 | k + 1 => by
  have ih0 := impl_aligned.mono_l k
  ·intro y0 y1 y2 y3 y4 y5 y6
   unfold impl_aligned.j0
   repeat' first
   | (with_reducible exact ih0 _ _ _ _ _ _ _)
   | (with_reducible exact impl_up.mono _ _ _)
   | (with_reducible exact LeO.refl _)
   | (with_reducible exact LeO.none _)
   | (with_reducible refine LeO.ite ?_ ?_)
   | (with_reducible refine LeO.bind ?_ (fun _ => ?_))
   | exact ih0 _ _ _ _ _ _ _
   | exact impl_up.mono _ _ _
   | exact LeO.none _
   | refine LeO.ite ?_ ?_
   | refine LeO.bind ?_ (fun _ => ?_)
theorem impl_aligned.mono : ∀ a0 a1 a2 a3 a4 a5 k, LeO (impl_aligned.f k a0 a1 a2 a3 a4 a5) (impl_aligned.f (k + 1) a0 a1 a2 a3 a4 a5) := by
 intro a0 a1 a2 a3 a4 a5 k
 have ih0 := impl_aligned.mono_l k
 unfold impl_aligned.f
 repeat' first
   | (with_reducible exact ih0 _ _ _ _ _ _ _)
   | (with_reducible exact impl_up.mono _ _ _)
   | (with_reducible exact LeO.refl _)
   | (with_reducible exact LeO.none _)
   | (with_reducible refine LeO.ite ?_ ?_)
   | (with_reducible refine LeO.bind ?_ (fun _ => ?_))
   | exact ih0 _ _ _ _ _ _ _
   | exact impl_up.mono _ _ _
   | exact LeO.none _
   | refine LeO.ite ?_ ?_
   | refine LeO.bind ?_ (fun _ => ?_)
def impl_aligned.T6 : Bool × List (List Nat × List Nat) := (true, [([], []), ([0], [0]), ([], []), ([2], [2]), ([], []), ([3, 4], [3, 4]), ([5], [5]), ([1, 6], [1, 6]), ([], []), ([8], [8]), ([], []), ([10], [10]), ([], []), ([11, 12], [11, 12]), ([13], [13]), ([9, 14, 7], [9, 14]), ([], []), ([7, 15, 0, 1, 2, 3, 4, 5, 6, 7], [7]), ([15, 17, 0, 1, 2, 3, 4, 5, 6, 7, 8, 9, 10, 11, 12, 13, 14, 15, 17], [15]), ([16, 18, 0, 1, 2, 3, 4, 5, 6, 7, 8, 9, 10, 11, 12, 13, 14, 15, 16, 17, 18], [16])])
def impl_aligned.B6 : List Nat := [0, 1, 0, 4, 0, 28, 60, 127, 0, 256, 0, 1024, 0, 7168, 15360, 32767, 0, 65535, 196607, 524287]
theorem impl_aligned.tab6 : rtab .any (opsOf Tryd.f121 6) = impl_aligned.T6 := by kernel_rfl
theorem impl_aligned.bits6 : waitsOk impl_aligned.T6.2 impl_aligned.B6 = true := by kernel_rfl
set_option maxHeartbeats 8000000 in
set_option maxRecDepth 100000 in
theorem impl_aligned.calls (k : Nat) (a0_0 : Bool) (A0_1 : Option Addr) (c0_1 : Nat) (l0_1 : List Int) (a0_2 : Int) (a1_0 : Bool) (A1_1 : Option Addr) (c1_1 : Nat) (l1_1 : List Int) (a1_2 : Int) (r1 : List Int) (r2 : List Int) (r3 : Int) (w : World) (hr0_1 : Kd.C (Kd.int .i64) w A0_1 l0_1.length l0_1) (hc0_1 : l0_1.length ≤ c0_1) (hr1_1 : Kd.C (Kd.int .i64) w A1_1 l1_1.length l1_1) (hc1_1 : l1_1.length ≤ c1_1) (h : impl_aligned.f k a0_0 l0_1 a0_2 a1_0 l1_1 a1_2 = some (r1, r2, r3)) :
  Calls Tryd.prog 121 #[.agg #[.bool a0_0, .slice A0_1 l0_1.length c0_1, .int .i64 a0_2], .agg #[.bool a1_0, .slice A1_1 l1_1.length c1_1, .int .i64 a1_2]] w fun e w' => ∃ v0_ v1_ : Value, e = .returned (.tuple #[v0_, v1_, .int .i64 r3]) ∧ Kd.R (Kd.int .i64) 3 w' w.heap.size (fun k_ => some k_ ≠ (v1_ : Value).ownBlock) v0_ r1 ∧ Kd.R (Kd.int .i64) 3 w' w.heap.size (fun k_ => some k_ ≠ (v0_ : Value).ownBlock) v1_ r2 ∧ Below w.heap.size w w' := by
 have hu76 := Tryd.underlying76
 have HR0_1 := Aside0.mk hr0_1
 have HC0_1 := Aside0.mk hc0_1
 clear hr0_1 hc0_1
 have HR1_1 := Aside0.mk hr1_1
 have HC1_1 := Aside0.mk hc1_1
 clear hr1_1 hc1_1
 have HB := Aside0.mk (Below.refl w.heap.size w)
 have H : (if (l0_1.length : Int) = 0 then (impl_aligned.j0 k a1_2 a0_0 l0_1 a0_2 a1_0 l1_1 a1_2) else (impl_aligned.j0 k (mn a0_2 a1_2) a0_0 l0_1 a0_2 a1_0 l1_1 a1_2)) = some (r1, r2, r3) := h
 clear h
 obtain ⟨ji3, hji3⟩ : ∃ j_ : Int, (mn a0_2 a1_2) = j_ := ⟨_, rfl⟩
 replace H : (if (l0_1.length : Int) = 0 then (impl_aligned.j0 k a1_2 a0_0 l0_1 a0_2 a1_0 l1_1 a1_2) else (impl_aligned.j0 k ji3 a0_0 l0_1 a0_2 a1_0 l1_1 a1_2)) = some (r1, r2, r3) := by first | (rw [hji3] at H; exact H) | (simp only [hji3] at H ⊢; exact H)
 have hji3_ : (if a1_2 < a0_2 then a1_2 else a0_2) = ji3 := hji3
 have HC4 := Aside0.mk H
 clear H
 go_enter Tryd.func121, Tryd.ntmps121
 go_upto_if 16 with (first | ((with_reducible refine gate_dst (N := 2) rfl ?_); refine hkBox (N := 2) (cs := #[.bool a0_0, .slice A0_1 l0_1.length c0_1, .int .i64 a0_2]) (t := 76) ?_; intro gb619 hg w5 hbox hb; have n_ := hkA (hkU HB hb) (hkA (Aside0.mk (hbox)) (hkA (hkG hg (hkS HB)) (hkG hg (hkS HB)))); clear HB; obtain ⟨HB, BK619, GW619, GE619⟩ := n_; clear hb hbox hg) | ((with_reducible refine gate_dst (N := 3) rfl ?_); refine hkBox (N := 3) (cs := #[.bool a1_0, .slice A1_1 l1_1.length c1_1, .int .i64 a1_2]) (t := 76) ?_; intro gb620 hg w6 hbox hb; have n_ := hkA (hkBb BK619 hb) (hkA (hkU HB hb) (hkA (Aside0.mk (hbox)) (hkA (hkG hg (hkS HB)) (hkA (hkG hg (hkS HB)) (hkA (hkN hg BK619) (hkM hg BK619)))))); clear BK619 HB; obtain ⟨BK619, HB, BK620, GW620, GE620, NB619_620, NB620_619⟩ := n_; clear hb hbox hg; have hnb7 := NB619_620.out; have hnc7 := NB620_619.out; obtain ⟨hcz8_0, hfz8_0, hcz8_1, hfz8_1, hcz8_2, hfz8_2⟩ := hkc3 BK619; obtain ⟨hcz9_0, hfz9_0, hcz9_1, hfz9_1, hcz9_2, hfz9_2⟩ := hkc3 BK620))
 (try simp only [Act.put, List.setIfInBounds_toArray, List.set_cons_zero, List.set_cons_succ])
 go_cut [7] (fun v7 wc => ∃ (kq : Nat) (x7_3 : Int), v7 = .int .i64 x7_3 ∧ Aside0 (impl_aligned.j0 kq x7_3 a0_0 l0_1 a0_2 a1_0 l1_1 a1_2 = some (r1, r2, r3)) ∧ Aside0 (kq ≤ k) ∧ Aside0 (wc.heap[gb619]? = some (.cells #[.bool a0_0, (.slice A0_1 l0_1.length c0_1), .int .i64 a0_2] 76 (0, 0))) ∧ Aside0 (wc.heap[gb620]? = some (.cells #[.bool a1_0, (.slice A1_1 l1_1.length c1_1), .int .i64 a1_2] 76 (0, 0))) ∧ Aside0 (Below w.heap.size w wc))
 case first =>
  have H := HC4.out
  clear HC4
  by_cases c10 : (l0_1.length : Int) = 0
  ·rw [if_pos c10] at H
   have c10b0 : ((l0_1.length : Int) == 0) = true := beq_iff_eq.mpr c10
   have c10b1 : ((l0_1.length : Int) != 0) = false := bne_eq_false_iff_eq.mpr c10
   clear c10
   (first | rw [c10b0] | (simp only [i64_w, i32_w]; rw [c10b0]) | skip)
   have H' := Aside0.mk H
   clear H
   have hnb11 := NB620_619.out
   have hnc11 := NB619_620.out
   obtain ⟨hcz12_0, hfz12_0, hcz12_1, hfz12_1, hcz12_2, hfz12_2⟩ := hkc3 BK620
   go_wp2
   go_meet
   case rel => exact ⟨_, (a1_2), (by first | rfl | (simp; done) | (simp [*]; done)), H', ⟨by first | omega | exact Nat.le_refl _⟩, ⟨by refine hkz ?_; exact BK619.out⟩, ⟨by refine hkz ?_; exact BK620.out⟩, ⟨hkS HB⟩⟩
  ·rw [if_neg c10] at H
   have c10b0 : ((l0_1.length : Int) == 0) = false := beq_eq_false_iff_ne.mpr c10
   have c10b1 : ((l0_1.length : Int) != 0) = true := bne_iff_ne.mpr c10
   have c10b2 : ¬ (l0_1 = []) := fun h_ => c10 (by rw [h_]; rfl)
   (first | rw [c10b0] | (simp only [i64_w, i32_w]; rw [c10b0]) | skip)
   have H' := Aside0.mk H
   clear H
   go_wp2
   go_meet
   case rel => exact ⟨_, (ji3), (by first | rfl | (simp; done) | (simp only [← hji3] <;> (first | rfl | simp)) | (simp [*]; done)), H', ⟨by first | omega | exact Nat.le_refl _⟩, ⟨by refine hkz ?_; exact BK619.out⟩, ⟨by refine hkz ?_; exact BK620.out⟩, ⟨hkS HB⟩⟩
 case rest =>
  clear HC4
  try clear c1
  try clear p2
  try clear c7
  try clear c10
  try clear c10b0
  try clear c10b1
  try clear c10b2
  try clear c11
  try clear c12
  try clear hcz12_0 hcz12_1 hcz12_2 hcz8_0 hcz8_1 hcz8_2 hcz9_0 hcz9_1 hcz9_2 hfz12_0 hfz12_1 hfz12_2 hfz8_0 hfz8_1 hfz8_2 hfz9_0 hfz9_1 hfz9_2
  obtain ⟨kq, x7_3, rfl, HA, HJ3, BK619, BK620, HB⟩ := hcut
  cases kq with
  | zero => exact absurd HA.out (by simp [impl_aligned.j0])
  | succ kj3 =>
   have H := HA.out
   clear HA
   simp only [impl_aligned.j0] at H
   by_cases c13 : (l1_1.length : Int) = 0
   ·rw [if_pos c13] at H
    have c13b0 : ((l1_1.length : Int) == 0) = true := beq_iff_eq.mpr c13
    have c13b1 : ((l1_1.length : Int) != 0) = false := bne_eq_false_iff_eq.mpr c13
    clear c13
    obtain ⟨ji14, hji14⟩ : ∃ j_ : Int, (mx (wrap64 (a0_2 - a0_2)) 0) = j_ := ⟨_, rfl⟩
    replace H : ((impl_up.f kj3 l0_1 (ji14)).bind fun t621 => ((impl_up.f kj3 l1_1 (mx (wrap64 (a1_2 - a0_2)) 0)).bind fun t624 => (some (t621, t624, a0_2)))) = some (r1, r2, r3) := by first | (rw [hji14] at H; exact H) | (simp only [hji14] at H ⊢; exact H)
    have hji14_ : (if (wrap64 0) < 0 then 0 else (wrap64 0)) = ji14 := by rw [← hji14, Int.sub_self]; rfl
    replace H := hBi H
    obtain ⟨t621, A150, H⟩ := H
    replace H : ((impl_up.f kj3 l1_1 (mx (wrap64 (a1_2 - a0_2)) 0)).bind fun t624 => (some (t621, t624, a0_2))) = some (r1, r2, r3) := H
    have A15 := Aside0.mk A150
    clear A150
    obtain ⟨ji16, hji16⟩ : ∃ j_ : Int, (mx (wrap64 (a1_2 - a0_2)) 0) = j_ := ⟨_, rfl⟩
    replace H : ((impl_up.f kj3 l1_1 (ji16)).bind fun t624 => (some (t621, t624, a0_2))) = some (r1, r2, r3) := by first | (rw [hji16] at H; exact H) | (simp only [hji16] at H ⊢; exact H)
    (try rw [hji16] at A15)
    have hji16_ : (if (wrap64 (a1_2 - a0_2)) < 0 then 0 else (wrap64 (a1_2 - a0_2))) = ji16 := hji16
    replace H := hBi H
    obtain ⟨t624, A170, H⟩ := H
    replace H : (some (t621, t624, a0_2)) = some (r1, r2, r3) := H
    have A17 := Aside0.mk A170
    clear A170
    simp only [Option.some.injEq, Prod.mk.injEq] at H
    obtain ⟨rfl, rfl, rfl⟩ := H
    have hnb18 := NB620_619.out
    have hnc18 := NB619_620.out
    obtain ⟨hcz19_0, hfz19_0, hcz19_1, hfz19_1, hcz19_2, hfz19_2⟩ := hkc3 BK620
    obtain ⟨hcz20_0, hfz20_0, hcz20_1, hfz20_1, hcz20_2, hfz20_2⟩ := hkc3 BK619
    try go_wp2
    have n_ := hkA (Aside0.mk (blk_drew BK619.out)) (hkA (Aside0.mk (blk_drew BK620.out)) (Aside0.mk (below_drew1 HB.out)))
    clear BK619 BK620 HB
    obtain ⟨BK619, BK620, HB⟩ := n_
    refine start_ (n := 20) (S := fun w' => w'.cell? ⟨gb619, 0, none⟩ = some (.bool a0_0) ∧ w'.cell? ⟨gb619, 1, none⟩ = some (.slice A0_1 l0_1.length c0_1) ∧ w'.cell? ⟨gb619, 2, none⟩ = some (.int .i64 a0_2) ∧ w'.cell? ⟨gb620, 0, none⟩ = some (.bool a1_0) ∧ w'.cell? ⟨gb620, 1, none⟩ = some (.slice A1_1 l1_1.length c1_1) ∧ w'.cell? ⟨gb620, 2, none⟩ = some (.int .i64 a1_2)) (ds := []) #[false, false, false, false, false, false, false, false, false, false, false, false, false, false, false, false, false, false, false, false] (by kernel_rfl) rfl rfl ⟨(blk_cell BK619.out 0).trans rfl, (blk_cell BK619.out 1).trans rfl, (blk_cell BK619.out 2).trans rfl, (blk_cell BK620.out 0).trans rfl, (blk_cell BK620.out 1).trans rfl, (blk_cell BK620.out 2).trans rfl⟩ (fun hHeld => ?_); refine with_tabW impl_aligned.tab6 impl_aligned.bits6 (fun HT_ HW_ => ?_)
    generalize wc.drew = w21 at BK619 BK620 HB hHeld ⊢
    refine hkPt (i := 0) (N := some 25) HT_ ?_
    refine hkPt (i := 2) (N := some 27) HT_ ?_
    refine hkPt (i := 4) (N := some 29) HT_ ?_
    refine hkPt (i := 8) (N := some 33) HT_ ?_
    refine hkPt (i := 10) (N := some 35) HT_ ?_
    refine hkPt (i := 12) (N := some 37) HT_ ?_
    refine hkPt (i := 16) (N := some 41) HT_ ?_
    refine hkTt (i := 1) (N := some 26) HT_ HW_ hHeld ?_ (hy := by rintro w' ⟨s0, s1, s2, s3, s4, s5⟩; go_simp; with_reducible rfl)
    refine hkTt (i := 3) (N := some 28) HT_ HW_ hHeld ?_ (hy := by rintro w' ⟨s0, s1, s2, s3, s4, s5⟩; go_simp; with_reducible rfl)
    refine hkPt (i := 5) (N := some 30) HT_ ?_
    refine hkPt (i := 6) (N := some 31) HT_ ?_
    refine hkTt (i := 9) (N := some 34) HT_ HW_ hHeld ?_ (hy := by rintro w' ⟨s0, s1, s2, s3, s4, s5⟩; go_simp; with_reducible rfl)
    refine hkTt (i := 11) (N := some 36) HT_ HW_ hHeld ?_ (hy := by rintro w' ⟨s0, s1, s2, s3, s4, s5⟩; go_simp; with_reducible rfl)
    refine hkPt (i := 13) (N := some 38) HT_ ?_
    refine hkPt (i := 14) (N := some 39) HT_ ?_
    refine one_ (i := 7) (N := some 32) #[true, true, true, true, true, true, true, true, true, true, true, true, true, true, true, false, true, false, false, false] rfl rfl (one_of HT_.out (by kernel_rfl)) (by decide) (fun K hK => ?_)
    refine goes_ Tryd.func133 (by kernel_rfl) rfl #[.slice A0_1 l0_1.length c0_1, .int .i64 ji14] (by rfl) rfl rfl (by (try simp only [List.map_toArray, List.map_cons, List.map_nil]); first | done | (simp only [hji14]; rfl) | rfl | (simp only [List.length_drop, List.length_take]; rfl)) ?_
    with_reducible refine (impl_up.calls kj3 _ _ l0_1 ji14 t621 _ ?side1 ?side2 A15.out).mono ?_
    (case side1 => exact hkC ((Kd.C_below HR0_1.out HB.out)))
    (case side2 => exact HC0_1.out)
    rintro e w22 ⟨v622, rfl, ho0, hb⟩
    refine ⟨_, rfl, ?_⟩
    have n_ := hkA (Aside0.mk (Kd.R_lower ho0 (below_size (hkS HB)))) (hkA (hkBb BK619 hb) (hkA (hkBb BK620 hb) (hkU HB hb)))
    clear BK619 BK620 HB
    obtain ⟨HO623, BK619, BK620, HB⟩ := n_
    (try clear hb); (try clear ho0)
    refine hK.out _ _ ⟨(blk_cell BK619.out 0).trans rfl, (blk_cell BK619.out 1).trans rfl, (blk_cell BK619.out 2).trans rfl, (blk_cell BK620.out 0).trans rfl, (blk_cell BK620.out 1).trans rfl, (blk_cell BK620.out 2).trans rfl⟩ (fun hHeld => ?_)
    clear hK K
    refine hkNo (N := some 32) ?_
    refine one_ (i := 15) (N := some 40) #[true, true, true, true, true, true, true, true, true, true, true, true, true, true, true, true, true, false, false, false] rfl rfl (one_of HT_.out (by kernel_rfl)) (by decide) (fun K hK => ?_)
    refine goes_ Tryd.func133 (by kernel_rfl) rfl #[.slice A1_1 l1_1.length c1_1, .int .i64 ji16] (by rfl) rfl rfl (by (try simp only [List.map_toArray, List.map_cons, List.map_nil]); first | done | (simp only [hji16]; rfl) | rfl | (simp only [List.length_drop, List.length_take]; rfl)) ?_
    with_reducible refine (impl_up.calls kj3 _ _ l1_1 ji16 t624 _ ?side1 ?side2 A17.out).mono ?_
    (case side1 => exact hkC ((Kd.C_below HR1_1.out HB.out)))
    (case side2 => exact HC1_1.out)
    rintro e w23 ⟨v625, rfl, ho0, hb⟩
    refine ⟨_, rfl, ?_⟩
    have n_ := hkA (Aside0.mk (Kd.R_elder' (hkR HO623) (Kd.R_base ho0) hb)) (hkA (Aside0.mk (Kd.R_lower (Kd.R_new' ho0 (Kd.R_lt (hkR HO623))) (below_size (hkS HB)))) (hkA (hkBb BK619 hb) (hkA (hkBb BK620 hb) (hkU HB hb))))
    clear HO623 BK619 BK620 HB
    obtain ⟨HO623, HO626, BK619, BK620, HB⟩ := n_
    (try clear hb); (try clear ho0)
    refine hK.out _ _ ⟨(blk_cell BK619.out 0).trans rfl, (blk_cell BK619.out 1).trans rfl, (blk_cell BK619.out 2).trans rfl, (blk_cell BK620.out 0).trans rfl, (blk_cell BK620.out 1).trans rfl, (blk_cell BK620.out 2).trans rfl⟩ (fun hHeld => ?_)
    clear hK K
    refine hkNo (N := some 40) ?_
    refine hkPt (i := 17) (N := some 4) HT_ ?_
    refine hkPt (i := 18) (N := some 5) HT_ ?_
    refine hkPt (i := 19) (N := some 6) HT_ ?_
    refine done_ (done_of HT_.out (by kernel_rfl)) ?_
    try go_wp2
    go_ret3
    exact ⟨_, _, by first | rfl | (simp [errW_none, errW_some] <;> rfl) | (simp only [← hji3, ← hji14, ← hji16]; first | rfl | (simp [errW_none, errW_some] <;> rfl)) | (simp [*, errW_none, errW_some] <;> rfl), by (with_reducible repeat (first | apply Kd.R_alloc | apply Kd.R_drewN | apply Kd.R_drew)); exact Kd.R_mono HO623.out (fun _ hk => hk.2), by (with_reducible repeat (first | apply Kd.R_alloc | apply Kd.R_drewN | apply Kd.R_drew)); exact Kd.R_mono HO626.out (fun _ hk => hk.2), hkS HB⟩
   ·rw [if_neg c13] at H
    have c13b0 : ((l1_1.length : Int) == 0) = false := beq_eq_false_iff_ne.mpr c13
    have c13b1 : ((l1_1.length : Int) != 0) = true := bne_iff_ne.mpr c13
    have c13b2 : ¬ (l1_1 = []) := fun h_ => c13 (by rw [h_]; rfl)
    obtain ⟨ji24, hji24⟩ : ∃ j_ : Int, (mx (wrap64 (a0_2 - x7_3)) 0) = j_ := ⟨_, rfl⟩
    replace H : ((impl_up.f kj3 l0_1 (ji24)).bind fun t627 => ((impl_up.f kj3 l1_1 (mx (wrap64 (a1_2 - x7_3)) 0)).bind fun t630 => (some (t627, t630, x7_3)))) = some (r1, r2, r3) := by first | (rw [hji24] at H; exact H) | (simp only [hji24] at H ⊢; exact H)
    have hji24_ : (if (wrap64 (a0_2 - x7_3)) < 0 then 0 else (wrap64 (a0_2 - x7_3))) = ji24 := hji24
    replace H := hBi H
    obtain ⟨t627, A250, H⟩ := H
    replace H : ((impl_up.f kj3 l1_1 (mx (wrap64 (a1_2 - x7_3)) 0)).bind fun t630 => (some (t627, t630, x7_3))) = some (r1, r2, r3) := H
    have A25 := Aside0.mk A250
    clear A250
    obtain ⟨ji26, hji26⟩ : ∃ j_ : Int, (mx (wrap64 (a1_2 - x7_3)) 0) = j_ := ⟨_, rfl⟩
    replace H : ((impl_up.f kj3 l1_1 (ji26)).bind fun t630 => (some (t627, t630, x7_3))) = some (r1, r2, r3) := by first | (rw [hji26] at H; exact H) | (simp only [hji26] at H ⊢; exact H)
    (try rw [hji26] at A25)
    have hji26_ : (if (wrap64 (a1_2 - x7_3)) < 0 then 0 else (wrap64 (a1_2 - x7_3))) = ji26 := hji26
    replace H := hBi H
    obtain ⟨t630, A270, H⟩ := H
    replace H : (some (t627, t630, x7_3)) = some (r1, r2, r3) := H
    have A27 := Aside0.mk A270
    clear A270
    simp only [Option.some.injEq, Prod.mk.injEq] at H
    obtain ⟨rfl, rfl, rfl⟩ := H
    have hnb28 := NB620_619.out
    have hnc28 := NB619_620.out
    obtain ⟨hcz29_0, hfz29_0, hcz29_1, hfz29_1, hcz29_2, hfz29_2⟩ := hkc3 BK620
    try go_wp2
    have n_ := hkA (Aside0.mk (blk_drew BK619.out)) (hkA (Aside0.mk (blk_drew BK620.out)) (Aside0.mk (below_drew1 HB.out)))
    clear BK619 BK620 HB
    obtain ⟨BK619, BK620, HB⟩ := n_
    refine start_ (n := 20) (S := fun w' => w'.cell? ⟨gb619, 0, none⟩ = some (.bool a0_0) ∧ w'.cell? ⟨gb619, 1, none⟩ = some (.slice A0_1 l0_1.length c0_1) ∧ w'.cell? ⟨gb619, 2, none⟩ = some (.int .i64 a0_2) ∧ w'.cell? ⟨gb620, 0, none⟩ = some (.bool a1_0) ∧ w'.cell? ⟨gb620, 1, none⟩ = some (.slice A1_1 l1_1.length c1_1) ∧ w'.cell? ⟨gb620, 2, none⟩ = some (.int .i64 a1_2)) (ds := []) #[false, false, false, false, false, false, false, false, false, false, false, false, false, false, false, false, false, false, false, false] (by kernel_rfl) rfl rfl ⟨(blk_cell BK619.out 0).trans rfl, (blk_cell BK619.out 1).trans rfl, (blk_cell BK619.out 2).trans rfl, (blk_cell BK620.out 0).trans rfl, (blk_cell BK620.out 1).trans rfl, (blk_cell BK620.out 2).trans rfl⟩ (fun hHeld => ?_); refine with_tabW impl_aligned.tab6 impl_aligned.bits6 (fun HT_ HW_ => ?_)
    generalize wc.drew = w30 at BK619 BK620 HB hHeld ⊢
    refine hkPt (i := 0) (N := some 25) HT_ ?_
    refine hkPt (i := 2) (N := some 27) HT_ ?_
    refine hkPt (i := 4) (N := some 29) HT_ ?_
    refine hkPt (i := 8) (N := some 33) HT_ ?_
    refine hkPt (i := 10) (N := some 35) HT_ ?_
    refine hkPt (i := 12) (N := some 37) HT_ ?_
    refine hkPt (i := 16) (N := some 41) HT_ ?_
    refine hkTt (i := 1) (N := some 26) HT_ HW_ hHeld ?_ (hy := by rintro w' ⟨s0, s1, s2, s3, s4, s5⟩; go_simp; with_reducible rfl)
    refine hkTt (i := 3) (N := some 28) HT_ HW_ hHeld ?_ (hy := by rintro w' ⟨s0, s1, s2, s3, s4, s5⟩; go_simp; with_reducible rfl)
    refine hkPt (i := 5) (N := some 30) HT_ ?_
    refine hkPt (i := 6) (N := some 31) HT_ ?_
    refine hkTt (i := 9) (N := some 34) HT_ HW_ hHeld ?_ (hy := by rintro w' ⟨s0, s1, s2, s3, s4, s5⟩; go_simp; with_reducible rfl)
    refine hkTt (i := 11) (N := some 36) HT_ HW_ hHeld ?_ (hy := by rintro w' ⟨s0, s1, s2, s3, s4, s5⟩; go_simp; with_reducible rfl)
    refine hkPt (i := 13) (N := some 38) HT_ ?_
    refine hkPt (i := 14) (N := some 39) HT_ ?_
    refine one_ (i := 7) (N := some 32) #[true, true, true, true, true, true, true, true, true, true, true, true, true, true, true, false, true, false, false, false] rfl rfl (one_of HT_.out (by kernel_rfl)) (by decide) (fun K hK => ?_)
    refine goes_ Tryd.func133 (by kernel_rfl) rfl #[.slice A0_1 l0_1.length c0_1, .int .i64 ji24] (by rfl) rfl rfl (by (try simp only [List.map_toArray, List.map_cons, List.map_nil]); first | done | (simp only [hji24]; rfl) | rfl | (simp only [List.length_drop, List.length_take]; rfl)) ?_
    with_reducible refine (impl_up.calls kj3 _ _ l0_1 ji24 t627 _ ?side1 ?side2 A25.out).mono ?_
    (case side1 => exact hkC ((Kd.C_below HR0_1.out HB.out)))
    (case side2 => exact HC0_1.out)
    rintro e w31 ⟨v628, rfl, ho0, hb⟩
    refine ⟨_, rfl, ?_⟩
    have n_ := hkA (Aside0.mk (Kd.R_lower ho0 (below_size (hkS HB)))) (hkA (hkBb BK619 hb) (hkA (hkBb BK620 hb) (hkU HB hb)))
    clear BK619 BK620 HB
    obtain ⟨HO629, BK619, BK620, HB⟩ := n_
    (try clear hb); (try clear ho0)
    refine hK.out _ _ ⟨(blk_cell BK619.out 0).trans rfl, (blk_cell BK619.out 1).trans rfl, (blk_cell BK619.out 2).trans rfl, (blk_cell BK620.out 0).trans rfl, (blk_cell BK620.out 1).trans rfl, (blk_cell BK620.out 2).trans rfl⟩ (fun hHeld => ?_)
    clear hK K
    refine hkNo (N := some 32) ?_
    refine one_ (i := 15) (N := some 40) #[true, true, true, true, true, true, true, true, true, true, true, true, true, true, true, true, true, false, false, false] rfl rfl (one_of HT_.out (by kernel_rfl)) (by decide) (fun K hK => ?_)
    refine goes_ Tryd.func133 (by kernel_rfl) rfl #[.slice A1_1 l1_1.length c1_1, .int .i64 ji26] (by rfl) rfl rfl (by (try simp only [List.map_toArray, List.map_cons, List.map_nil]); first | done | (simp only [hji26]; rfl) | rfl | (simp only [List.length_drop, List.length_take]; rfl)) ?_
    with_reducible refine (impl_up.calls kj3 _ _ l1_1 ji26 t630 _ ?side1 ?side2 A27.out).mono ?_
    (case side1 => exact hkC ((Kd.C_below HR1_1.out HB.out)))
    (case side2 => exact HC1_1.out)
    rintro e w32 ⟨v631, rfl, ho0, hb⟩
    refine ⟨_, rfl, ?_⟩
    have n_ := hkA (Aside0.mk (Kd.R_elder' (hkR HO629) (Kd.R_base ho0) hb)) (hkA (Aside0.mk (Kd.R_lower (Kd.R_new' ho0 (Kd.R_lt (hkR HO629))) (below_size (hkS HB)))) (hkA (hkBb BK619 hb) (hkA (hkBb BK620 hb) (hkU HB hb))))
    clear HO629 BK619 BK620 HB
    obtain ⟨HO629, HO632, BK619, BK620, HB⟩ := n_
    (try clear hb); (try clear ho0)
    refine hK.out _ _ ⟨(blk_cell BK619.out 0).trans rfl, (blk_cell BK619.out 1).trans rfl, (blk_cell BK619.out 2).trans rfl, (blk_cell BK620.out 0).trans rfl, (blk_cell BK620.out 1).trans rfl, (blk_cell BK620.out 2).trans rfl⟩ (fun hHeld => ?_)
    clear hK K
    refine hkNo (N := some 40) ?_
    refine hkPt (i := 17) (N := some 4) HT_ ?_
    refine hkPt (i := 18) (N := some 5) HT_ ?_
    refine hkPt (i := 19) (N := some 6) HT_ ?_
    refine done_ (done_of HT_.out (by kernel_rfl)) ?_
    try go_wp2
    go_ret3
    exact ⟨_, _, by first | rfl | (simp [errW_none, errW_some] <;> rfl) | (simp only [← hji3, ← hji24, ← hji26]; first | rfl | (simp [errW_none, errW_some] <;> rfl)) | (simp [*, errW_none, errW_some] <;> rfl), by (with_reducible repeat (first | apply Kd.R_alloc | apply Kd.R_drewN | apply Kd.R_drew)); exact Kd.R_mono HO629.out (fun _ hk => hk.2), by (with_reducible repeat (first | apply Kd.R_alloc | apply Kd.R_drewN | apply Kd.R_drew)); exact Kd.R_mono HO632.out (fun _ hk => hk.2), hkS HB⟩

end Go.Proofs.YtgjpahofopoflaaDoor.PFnFlOrder
