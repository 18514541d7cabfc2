-- Written by our own driver (wip/hand/hprint.py) over the seat's translation.
import Derived.Test.YtgjpahofopoflaaDoorPFnFlOrderx0
import Derived.Test.YtgjpahofopoflaaDoorPFnFlOrderx7
import Derived.Test.YtgjpahofopoflaaDoorPFnFlOrderx26
namespace Go.Proofs.YtgjpahofopoflaaDoor.PFnFlOrder
open Go.RowKit Go.Proofs.YtgjpahofopoflaaDoorW.PrintWords Go.Proofs.YtgjpahofopoflaaDoorW.PrintLast Go.Proofs.YtgjpahofopoflaaDoorW.PrintMore
attribute [local go_sem] max2_int min2_int max_two min_two max_three min_three max_four min_four   -- for this text's walks alone
set_option linter.unusedVariables false
set_option linter.unusedSimpArgs false

/-! ### spec_DrawFlCmp: function 33 -/
def spec_DrawFlCmp.f (k : Nat) (l0 : List Int) : Option (Int × Bool × Int × Int × Int × Bool × Int × Int) := (spec_l1New.f k l0).bind fun bt582 => ((spec_l5pair.f k bt582.1 bt582.2.1 bt582.2.2).bind fun bt586 => ((spec_l1Once.f bt582.1 bt586.2.2.2.2.2.2.2.2.1 bt586.2.2.2.2.2.2.2.2.2 3).bind fun bt598 => (if bt598.1 = true then (some (bt586.1, bt586.2.1, bt586.2.2.1, bt586.2.2.2.1, bt586.1, bt586.2.1, bt586.2.2.1, bt586.2.2.2.1)) else (some (bt586.1, bt586.2.1, bt586.2.2.1, bt586.2.2.2.1, bt586.2.2.2.2.1, bt586.2.2.2.2.2.1, bt586.2.2.2.2.2.2.1, bt586.2.2.2.2.2.2.2.1)))))
theorem spec_DrawFlCmp.mono : ∀ a0 k, LeO (spec_DrawFlCmp.f k a0) (spec_DrawFlCmp.f (k + 1) a0) := by
 intro a0 k
 unfold spec_DrawFlCmp.f
 repeat' first
   | (with_reducible exact spec_l1New.mono _ _)
   | (with_reducible exact spec_l5pair.mono _ _ _ _)
   | (with_reducible exact LeO.refl _)
   | (with_reducible exact LeO.none _)
   | (with_reducible refine LeO.ite ?_ ?_)
   | (with_reducible refine LeO.bind ?_ (fun _ => ?_))
   | exact spec_l1New.mono _ _
   | exact spec_l5pair.mono _ _ _ _
   | exact LeO.none _
   | refine LeO.ite ?_ ?_
   | refine LeO.bind ?_ (fun _ => ?_)
set_option maxHeartbeats 8000000 in
set_option maxRecDepth 100000 in
theorem spec_DrawFlCmp.calls (k : Nat) (A0 : Option Addr) (c0 : Nat) (l0 : List Int) (r1 : Int) (r2 : Bool) (r3 : Int) (r4 : Int) (r5 : Int) (r6 : Bool) (r7 : Int) (r8 : Int) (w : World) (hr0 : Kd.C (Kd.int .u8) w A0 l0.length l0) (hc0 : l0.length ≤ c0) (h : spec_DrawFlCmp.f k l0 = some (r1, r2, r3, r4, r5, r6, r7, r8)) :
  Calls Tryd.prog 33 #[.slice A0 l0.length c0] w fun e w' => e = .returned (.tuple #[.agg #[.int .i64 r1, .bool r2, .int .i64 r3, .int .i64 r4], .agg #[.int .i64 r5, .bool r6, .int .i64 r7, .int .i64 r8]]) ∧ Below w.heap.size w w' := by
 have hu33 := Tryd.underlying33
 have HR0 := Aside0.mk hr0
 have HC0 := Aside0.mk hc0
 clear hr0 hc0
 have HB := Aside0.mk (Below.refl w.heap.size w)
 have H : ((spec_l1New.f k l0).bind fun bt582 => ((spec_l5pair.f k bt582.1 bt582.2.1 bt582.2.2).bind fun bt586 => ((spec_l1Once.f bt582.1 bt586.2.2.2.2.2.2.2.2.1 bt586.2.2.2.2.2.2.2.2.2 3).bind fun bt598 => (if bt598.1 = true then (some (bt586.1, bt586.2.1, bt586.2.2.1, bt586.2.2.2.1, bt586.1, bt586.2.1, bt586.2.2.1, bt586.2.2.2.1)) else (some (bt586.1, bt586.2.1, bt586.2.2.1, bt586.2.2.2.1, bt586.2.2.2.2.1, bt586.2.2.2.2.2.1, bt586.2.2.2.2.2.2.1, bt586.2.2.2.2.2.2.2.1)))))) = some (r1, r2, r3, r4, r5, r6, r7, r8) := h
 clear h
 replace H := hBi H
 obtain ⟨⟨t582, t583, t584⟩, A20, H⟩ := H
 replace H : ((spec_l5pair.f k t582 t583 t584).bind fun bt586 => ((spec_l1Once.f t582 bt586.2.2.2.2.2.2.2.2.1 bt586.2.2.2.2.2.2.2.2.2 3).bind fun bt598 => (if bt598.1 = true then (some (bt586.1, bt586.2.1, bt586.2.2.1, bt586.2.2.2.1, bt586.1, bt586.2.1, bt586.2.2.1, bt586.2.2.2.1)) else (some (bt586.1, bt586.2.1, bt586.2.2.1, bt586.2.2.2.1, bt586.2.2.2.2.1, bt586.2.2.2.2.2.1, bt586.2.2.2.2.2.2.1, bt586.2.2.2.2.2.2.2.1))))) = some (r1, r2, r3, r4, r5, r6, r7, r8) := H
 have A2 := Aside0.mk A20
 clear A20
 replace H := hBi H
 obtain ⟨⟨t586, t587, t588, t589, t590, t591, t592, t593, t594, t595⟩, A30, H⟩ := H
 replace H : ((spec_l1Once.f t582 t594 t595 3).bind fun bt598 => (if bt598.1 = true then (some (t586, t587, t588, t589, t586, t587, t588, t589)) else (some (t586, t587, t588, t589, t590, t591, t592, t593)))) = some (r1, r2, r3, r4, r5, r6, r7, r8) := H
 have A3 := Aside0.mk A30
 clear A30
 replace H := hBi H
 obtain ⟨⟨t598, t599, t600⟩, A40, H⟩ := H
 replace H : (if t598 = true then (some (t586, t587, t588, t589, t586, t587, t588, t589)) else (some (t586, t587, t588, t589, t590, t591, t592, t593))) = some (r1, r2, r3, r4, r5, r6, r7, r8) := H
 have A4 := Aside0.mk A40
 clear A40
 by_cases c5 : t598 = true
 ·subst c5
  have H1 : (some (t586, t587, t588, t589, t586, t587, t588, t589)) = some (r1, r2, r3, r4, r5, r6, r7, r8) := by rw [if_pos rfl] at H; exact H
  clear H
  have H := H1
  clear H1
  simp only [Option.some.injEq, Prod.mk.injEq] at H
  obtain ⟨rfl, rfl, rfl, rfl, rfl, rfl, rfl, rfl⟩ := H
  go_enter Tryd.func33, Tryd.ntmps33
  try go_wp2_with (first | ((with_reducible refine gate_dst (N := 2) rfl ?_); refine hkBox (N := 2) (cs := #[.int .i64 0, .bool false, .int .i64 0, .int .i64 0]) (t := 33) ?_; intro gb580 hg w6 hbox hb; have n_ := hkA (hkU HB hb) (hkA (Aside0.mk (hbox)) (hkA (hkG hg (hkS HB)) (hkG hg (hkS HB)))); clear HB; obtain ⟨HB, BK580, GW580, GE580⟩ := n_; clear hb hbox hg) | ((with_reducible refine gate_dst (N := 3) rfl ?_); refine hkBox (N := 3) (cs := #[.int .i64 0, .bool false, .int .i64 0, .int .i64 0]) (t := 33) ?_; intro gb581 hg w7 hbox hb; have n_ := hkA (hkBb BK580 hb) (hkA (hkU HB hb) (hkA (Aside0.mk (hbox)) (hkA (hkG hg (hkS HB)) (hkA (hkG hg (hkS HB)) (hkA (hkN hg BK580) (hkM hg BK580)))))); clear BK580 HB; obtain ⟨BK580, HB, BK581, GW581, GE581, NB580_581, NB581_580⟩ := n_; clear hb hbox hg) | ((with_reducible refine gate_callee (f := 62) rfl ?_); refine hkGo (N := some 8) Tryd.func62 #[.slice A0 l0.length c0] ?_; (with_reducible refine (spec_l1New.calls k _ _ l0 t582 t583 t584 w _ ?side1 ?side2 ?side3 A2.out).mono ?_); (case side1 => exact hkS HB); (case side2 => exact HR0.out); (case side3 => exact HC0.out); rintro e w8 ⟨g585, rfl, hi, hb, hb2⟩; refine ⟨_, rfl, ?_⟩; have n_ := hkA (Aside0.mk (blk_below (g := gb580) (o := .cells #[.int .i64 0, .bool false, .int .i64 0, .int .i64 0] 33 (0, 0)) (hkB BK580) hb2)) (hkA (Aside0.mk (blk_below (g := gb581) (o := .cells #[.int .i64 0, .bool false, .int .i64 0, .int .i64 0] 33 (0, 0)) (hkB BK581) hb2)) (hkA (Aside0.mk (hb)) (hkA (Aside0.mk (hi)) (hkA (Aside0.mk (IsS122.ne_blk hi (blk_below (g := gb580) (o := .cells #[.int .i64 0, .bool false, .int .i64 0, .int .i64 0] 33 (0, 0)) (hkB BK580) hb2) (by decide))) (hkA (Aside0.mk (Ne.symm (IsS122.ne_blk hi (blk_below (g := gb580) (o := .cells #[.int .i64 0, .bool false, .int .i64 0, .int .i64 0] 33 (0, 0)) (hkB BK580) hb2) (by decide)))) (hkA (Aside0.mk (IsS122.ne_blk hi (blk_below (g := gb581) (o := .cells #[.int .i64 0, .bool false, .int .i64 0, .int .i64 0] 33 (0, 0)) (hkB BK581) hb2) (by decide))) (Aside0.mk (Ne.symm (IsS122.ne_blk hi (blk_below (g := gb581) (o := .cells #[.int .i64 0, .bool false, .int .i64 0, .int .i64 0] 33 (0, 0)) (hkB BK581) hb2) (by decide)))))))))); clear BK580 BK581 HB; obtain ⟨BK580, BK581, HB, HI585, NB585_580, NB580_585, NB585_581, NB581_585⟩ := n_; (try clear hb); (try clear hb2); (try clear hk); (try clear hi)) | ((with_reducible refine gate_callee (f := 63) rfl ?_); refine hkGo (N := some 11) Tryd.func63 #[.pointer (some ⟨g585, 0, none⟩)] ?_; (with_reducible refine (spec_l5pair.calls k g585 t582 t583 t584 t586 t587 t588 t589 t590 t591 t592 t593 t594 t595 w _ ?side1 ?side2 A3.out).mono ?_); (case side1 => exact hkI122); (case side2 => exact hkJ122); rintro e w9 ⟨rfl, hi, hb, hk⟩; refine ⟨_, rfl, ?_⟩; have n_ := hkA (Aside0.mk (KeepBut.blk hk (g' := gb580) (o := .cells #[.int .i64 0, .bool false, .int .i64 0, .int .i64 0] 33 (0, 0)) (hkB BK580) NB580_585.out (by simp))) (hkA (Aside0.mk (KeepBut.blk hk (g' := gb581) (o := .cells #[.int .i64 0, .bool false, .int .i64 0, .int .i64 0] 33 (0, 0)) (hkB BK581) NB581_585.out (by simp))) (hkA (Aside0.mk (hb)) (Aside0.mk (hi)))); clear BK580 BK581 HB HI585; obtain ⟨BK580, BK581, HB, HI585⟩ := n_; (try clear hb); (try clear hb2); (try clear hk); (try clear hi)) | ((with_reducible refine gate_dst (N := 5) rfl ?_); refine hkBox (N := 5) (cs := #[.int .i64 0, .bool false, .int .i64 0, .int .i64 0]) (t := 33) ?_; intro gb596 hg w10 hbox hb; have n_ := hkA (hkBb BK580 hb) (hkA (hkBb BK581 hb) (hkA (Aside0.mk (IsS122.below (hkI122) hb)) (hkA (Aside0.mk (below_step (hkJ122) hb)) (hkA (Aside0.mk (hbox)) (hkA (Aside0.mk ((by rw [hg]; exact (below_size (hkJ122)) : w.heap.size ≤ gb596))) (hkA (Aside0.mk ((by rw [hg]; exact (below_size (hkJ122)) : w.heap.size ≤ gb596))) (hkA (hkN hg BK580) (hkA (hkM hg BK580) (hkA (hkN hg BK581) (hkA (hkM hg BK581) (hkA (Aside0.mk ((by rw [hg]; exact Nat.ne_of_lt (IsS122.lt (show IsS122 w _ g585 t582 t594 t595 from hkI122)) : g585 ≠ gb596))) (Aside0.mk ((by rw [hg]; exact Nat.ne_of_gt (IsS122.lt (show IsS122 w _ g585 t582 t594 t595 from hkI122)) : gb596 ≠ g585)))))))))))))); clear BK580 BK581 HI585 HB; obtain ⟨BK580, BK581, HI585, HB, BK596, GW596, GE596, NB580_596, NB596_580, NB581_596, NB596_581, NB585_596, NB596_585⟩ := n_; clear hb hbox hg) | ((with_reducible refine gate_dst (N := 6) rfl ?_); refine hkBox (N := 6) (cs := #[.int .i64 0, .bool false, .int .i64 0, .int .i64 0]) (t := 33) ?_; intro gb597 hg w11 hbox hb; have n_ := hkA (hkBb BK580 hb) (hkA (hkBb BK581 hb) (hkA (Aside0.mk (IsS122.below (hkI122) hb)) (hkA (hkBb BK596 hb) (hkA (Aside0.mk (below_step (hkJ122) hb)) (hkA (Aside0.mk (hbox)) (hkA (Aside0.mk ((by rw [hg]; exact (below_size (hkJ122)) : w.heap.size ≤ gb597))) (hkA (Aside0.mk ((by rw [hg]; exact (below_size (hkJ122)) : w.heap.size ≤ gb597))) (hkA (hkN hg BK580) (hkA (hkM hg BK580) (hkA (hkN hg BK581) (hkA (hkM hg BK581) (hkA (hkN hg BK596) (hkA (hkM hg BK596) (hkA (Aside0.mk ((by rw [hg]; exact Nat.ne_of_lt (IsS122.lt (show IsS122 w _ g585 t582 t594 t595 from hkI122)) : g585 ≠ gb597))) (Aside0.mk ((by rw [hg]; exact Nat.ne_of_gt (IsS122.lt (show IsS122 w _ g585 t582 t594 t595 from hkI122)) : gb597 ≠ g585))))))))))))))))); clear BK580 BK581 HI585 BK596 HB; obtain ⟨BK580, BK581, HI585, BK596, HB, BK597, GW597, GE597, NB580_597, NB597_580, NB581_597, NB597_581, NB596_597, NB597_596, NB585_597, NB597_585⟩ := n_; clear hb hbox hg; have hnb12 := NB596_580.out; have hnc12 := NB580_596.out; have hnb13 := NB596_581.out; have hnc13 := NB581_596.out; have hnb14 := NB596_597.out; have hnc14 := NB597_596.out; have hnb15 := NB596_585.out; have hnc15 := NB585_596.out; obtain ⟨hcz16_0, hfz16_0, hcz16_1, hfz16_1, hcz16_2, hfz16_2, hcz16_3, hfz16_3⟩ := hkc4 BK596; have hnb17 := NB597_580.out; have hnc17 := NB580_597.out; have hnb18 := NB597_581.out; have hnc18 := NB581_597.out; have hnb19 := NB597_585.out; have hnc19 := NB585_597.out; obtain ⟨hcz20_0, hfz20_0, hcz20_1, hfz20_1, hcz20_2, hfz20_2, hcz20_3, hfz20_3⟩ := hkc4 BK597) | ((with_reducible refine gate_callee (f := 64) rfl ?_); refine hkGo (N := some 15) Tryd.func64 #[.pointer (some ⟨g585, 0, none⟩), .int .i64 3] ?_; (with_reducible refine (spec_l1Once.calls g585 t582 t594 t595 3 true t599 t600 w _ ?side1 ?side2 A4.out).mono ?_); (case side1 => exact hkI122); (case side2 => exact hkJ122); rintro e w21 ⟨rfl, hi, hb, hk⟩; refine ⟨_, rfl, ?_⟩; have n_ := hkA (Aside0.mk (KeepBut.blk hk (g' := gb580) (o := .cells #[.int .i64 0, .bool false, .int .i64 0, .int .i64 0] 33 (0, 0)) hkPp NB580_585.out (by simp))) (hkA (Aside0.mk (KeepBut.blk hk (g' := gb581) (o := .cells #[.int .i64 0, .bool false, .int .i64 0, .int .i64 0] 33 (0, 0)) hkPp NB581_585.out (by simp))) (hkA (Aside0.mk (KeepBut.blk hk (g' := gb596) (o := .cells #[.int .i64 t586, .bool t587, .int .i64 t588, .int .i64 t589] 33 (0, 0)) hkPp NB596_585.out (by simp))) (hkA (Aside0.mk (KeepBut.blk hk (g' := gb597) (o := .cells #[.int .i64 t590, .bool t591, .int .i64 t592, .int .i64 t593] 33 (0, 0)) hkPp NB597_585.out (by simp))) (hkA (Aside0.mk (hb)) (Aside0.mk (hi)))))); clear BK580 BK581 BK596 BK597 HB HI585; obtain ⟨BK580, BK581, BK596, BK597, HB, HI585⟩ := n_; (try clear hb); (try clear hb2); (try clear hk); (try clear hi)))
  have n_ := hkA (Aside0.mk (blk_drew BK580.out)) (hkA (Aside0.mk (blk_drew BK581.out)) (hkA (Aside0.mk (blk_drew BK596.out)) (hkA (Aside0.mk (blk_drew BK597.out)) (hkA (Aside0.mk (IsS122.drew HI585.out)) (Aside0.mk (below_drew1 HB.out))))))
  clear BK580 BK581 BK596 BK597 HI585 HB
  obtain ⟨BK580, BK581, BK596, BK597, HI585, HB⟩ := n_
  refine start_ (n := 4) (S := fun w' => w'.cell? ⟨gb596, 0, none⟩ = some (.int .i64 t586) ∧ w'.cell? ⟨gb596, 1, none⟩ = some (.bool t587) ∧ w'.cell? ⟨gb596, 2, none⟩ = some (.int .i64 t588) ∧ w'.cell? ⟨gb596, 3, none⟩ = some (.int .i64 t589)) (ds := []) #[false, false, false, false] (by kernel_rfl) rfl rfl ⟨(blk_cell BK596.out 0).trans rfl, (blk_cell BK596.out 1).trans rfl, (blk_cell BK596.out 2).trans rfl, (blk_cell BK596.out 3).trans rfl⟩ (fun hHeld => ?_)
  generalize w21.drew = w22 at BK580 BK581 BK596 BK597 HI585 HB hHeld ⊢
  refine hkTk (i := 0) (N := some 16) hHeld ?_ (hy := by rintro w' ⟨s0, s1, s2, s3⟩; go_simp; with_reducible rfl)
  refine hkTk (i := 1) (N := some 17) hHeld ?_ (hy := by rintro w' ⟨s0, s1, s2, s3⟩; go_simp; with_reducible rfl)
  refine one_ (i := 2) (N := none) #[true, true, true, false] rfl rfl (by kernel_rfl) (by decide) (fun K hK => ?_)
  have hs23 : w22.cell? ⟨gb580, 0, none⟩ = some (.int .i64 0) := (blk_cell BK580.out 0).trans rfl
  have hfs23 := blk_frozen BK580.out 0
  have hns23_1 := NB581_580.out
  have hns23_2 := NB596_580.out
  have hns23_3 := NB597_580.out
  have hms23_1 := NB580_581.out
  have hms23_2 := NB580_596.out
  have hms23_3 := NB580_597.out
  have hs24 : w22.cell? ⟨gb580, 1, none⟩ = some (.bool false) := (blk_cell BK580.out 1).trans rfl
  have hfs24 := blk_frozen BK580.out 1
  have hns24_1 := NB581_580.out
  have hns24_2 := NB596_580.out
  have hns24_3 := NB597_580.out
  have hms24_1 := NB580_581.out
  have hms24_2 := NB580_596.out
  have hms24_3 := NB580_597.out
  have hs25 : w22.cell? ⟨gb580, 2, none⟩ = some (.int .i64 0) := (blk_cell BK580.out 2).trans rfl
  have hfs25 := blk_frozen BK580.out 2
  have hns25_1 := NB581_580.out
  have hns25_2 := NB596_580.out
  have hns25_3 := NB597_580.out
  have hms25_1 := NB580_581.out
  have hms25_2 := NB580_596.out
  have hms25_3 := NB580_597.out
  have hs26 : w22.cell? ⟨gb580, 3, none⟩ = some (.int .i64 0) := (blk_cell BK580.out 3).trans rfl
  have hfs26 := blk_frozen BK580.out 3
  have hns26_1 := NB581_580.out
  have hns26_2 := NB596_580.out
  have hns26_3 := NB597_580.out
  have hms26_1 := NB580_581.out
  have hms26_2 := NB580_596.out
  have hms26_3 := NB580_597.out
  refine skip_ (w1 := ?_) (by rfl) rfl ?_ ?_
  rotate_left
  ·go_simp
   rfl
  refine hK.out _ _ ⟨((cell_far (p := ⟨gb580, _, none⟩) NB596_580.out _).trans (((cell_far (p := ⟨gb580, _, none⟩) NB596_580.out _).trans (((cell_far (p := ⟨gb580, _, none⟩) NB596_580.out _).trans (((cell_far (p := ⟨gb580, _, none⟩) NB596_580.out _).trans (hHeld.1)))))))), ((cell_far (p := ⟨gb580, _, none⟩) NB596_580.out _).trans (((cell_far (p := ⟨gb580, _, none⟩) NB596_580.out _).trans (((cell_far (p := ⟨gb580, _, none⟩) NB596_580.out _).trans (((cell_far (p := ⟨gb580, _, none⟩) NB596_580.out _).trans (hHeld.2.1)))))))), ((cell_far (p := ⟨gb580, _, none⟩) NB596_580.out _).trans (((cell_far (p := ⟨gb580, _, none⟩) NB596_580.out _).trans (((cell_far (p := ⟨gb580, _, none⟩) NB596_580.out _).trans (((cell_far (p := ⟨gb580, _, none⟩) NB596_580.out _).trans (hHeld.2.2.1)))))))), ((cell_far (p := ⟨gb580, _, none⟩) NB596_580.out _).trans (((cell_far (p := ⟨gb580, _, none⟩) NB596_580.out _).trans (((cell_far (p := ⟨gb580, _, none⟩) NB596_580.out _).trans (((cell_far (p := ⟨gb580, _, none⟩) NB596_580.out _).trans (hHeld.2.2.2))))))))⟩ (fun hHeld => ?_)
  clear hK K
  refine one_ (i := 3) (N := none) #[true, true, true, true] rfl rfl (by kernel_rfl) (by decide) (fun K hK => ?_)
  have hs27 : w22.cell? ⟨gb581, 0, none⟩ = some (.int .i64 0) := (blk_cell BK581.out 0).trans rfl
  have hfs27 := blk_frozen BK581.out 0
  have hns27_0 := NB580_581.out
  have hns27_2 := NB596_581.out
  have hns27_3 := NB597_581.out
  have hms27_0 := NB581_580.out
  have hms27_2 := NB581_596.out
  have hms27_3 := NB581_597.out
  have hs28 : w22.cell? ⟨gb581, 1, none⟩ = some (.bool false) := (blk_cell BK581.out 1).trans rfl
  have hfs28 := blk_frozen BK581.out 1
  have hns28_0 := NB580_581.out
  have hns28_2 := NB596_581.out
  have hns28_3 := NB597_581.out
  have hms28_0 := NB581_580.out
  have hms28_2 := NB581_596.out
  have hms28_3 := NB581_597.out
  have hs29 : w22.cell? ⟨gb581, 2, none⟩ = some (.int .i64 0) := (blk_cell BK581.out 2).trans rfl
  have hfs29 := blk_frozen BK581.out 2
  have hns29_0 := NB580_581.out
  have hns29_2 := NB596_581.out
  have hns29_3 := NB597_581.out
  have hms29_0 := NB581_580.out
  have hms29_2 := NB581_596.out
  have hms29_3 := NB581_597.out
  have hs30 : w22.cell? ⟨gb581, 3, none⟩ = some (.int .i64 0) := (blk_cell BK581.out 3).trans rfl
  have hfs30 := blk_frozen BK581.out 3
  have hns30_0 := NB580_581.out
  have hns30_2 := NB596_581.out
  have hns30_3 := NB597_581.out
  have hms30_0 := NB581_580.out
  have hms30_2 := NB581_596.out
  have hms30_3 := NB581_597.out
  refine skip_ (w1 := ?_) (by rfl) rfl ?_ ?_
  rotate_left
  ·go_simp
   rfl
  refine hK.out _ _ ⟨((cell_far (p := ⟨gb581, _, none⟩) NB596_581.out _).trans (((cell_far (p := ⟨gb581, _, none⟩) NB596_581.out _).trans (((cell_far (p := ⟨gb581, _, none⟩) NB596_581.out _).trans (((cell_far (p := ⟨gb581, _, none⟩) NB596_581.out _).trans (hHeld.1)))))))), ((cell_far (p := ⟨gb581, _, none⟩) NB596_581.out _).trans (((cell_far (p := ⟨gb581, _, none⟩) NB596_581.out _).trans (((cell_far (p := ⟨gb581, _, none⟩) NB596_581.out _).trans (((cell_far (p := ⟨gb581, _, none⟩) NB596_581.out _).trans (hHeld.2.1)))))))), ((cell_far (p := ⟨gb581, _, none⟩) NB596_581.out _).trans (((cell_far (p := ⟨gb581, _, none⟩) NB596_581.out _).trans (((cell_far (p := ⟨gb581, _, none⟩) NB596_581.out _).trans (((cell_far (p := ⟨gb581, _, none⟩) NB596_581.out _).trans (hHeld.2.2.1)))))))), ((cell_far (p := ⟨gb581, _, none⟩) NB596_581.out _).trans (((cell_far (p := ⟨gb581, _, none⟩) NB596_581.out _).trans (((cell_far (p := ⟨gb581, _, none⟩) NB596_581.out _).trans (((cell_far (p := ⟨gb581, _, none⟩) NB596_581.out _).trans (hHeld.2.2.2))))))))⟩ (fun hHeld => ?_)
  clear hK K
  refine done_ (by kernel_rfl) ?_
  try go_wp2
  refine bodyPost_ret (results_cc rfl _ _ gb580 gb581 33 33 #[.int .i64 t586, .bool t587, .int .i64 t588, .int .i64 t589] #[.int .i64 t586, .bool t587, .int .i64 t588, .int .i64 t589] (0, 0) (0, 0) _ _ rfl hkPp Tryd.underlying33 rfl (by kernel_rfl) rfl hkPp Tryd.underlying33 rfl (by kernel_rfl)) rfl ?_
  exact ⟨hkE, hkJ122⟩
 ·replace c5 := Bool.eq_false_iff.mpr c5
  subst c5
  have H1 : (some (t586, t587, t588, t589, t590, t591, t592, t593)) = some (r1, r2, r3, r4, r5, r6, r7, r8) := by rw [if_neg (show ¬ (false = true) by decide)] at H; exact H
  clear H
  have H := H1
  clear H1
  simp only [Option.some.injEq, Prod.mk.injEq] at H
  obtain ⟨rfl, rfl, rfl, rfl, rfl, rfl, rfl, rfl⟩ := H
  go_enter Tryd.func33, Tryd.ntmps33
  try go_wp2_with (first | ((with_reducible refine gate_dst (N := 2) rfl ?_); refine hkBox (N := 2) (cs := #[.int .i64 0, .bool false, .int .i64 0, .int .i64 0]) (t := 33) ?_; intro gb580 hg w31 hbox hb; have n_ := hkA (hkU HB hb) (hkA (Aside0.mk (hbox)) (hkA (hkG hg (hkS HB)) (hkG hg (hkS HB)))); clear HB; obtain ⟨HB, BK580, GW580, GE580⟩ := n_; clear hb hbox hg) | ((with_reducible refine gate_dst (N := 3) rfl ?_); refine hkBox (N := 3) (cs := #[.int .i64 0, .bool false, .int .i64 0, .int .i64 0]) (t := 33) ?_; intro gb581 hg w32 hbox hb; have n_ := hkA (hkBb BK580 hb) (hkA (hkU HB hb) (hkA (Aside0.mk (hbox)) (hkA (hkG hg (hkS HB)) (hkA (hkG hg (hkS HB)) (hkA (hkN hg BK580) (hkM hg BK580)))))); clear BK580 HB; obtain ⟨BK580, HB, BK581, GW581, GE581, NB580_581, NB581_580⟩ := n_; clear hb hbox hg) | ((with_reducible refine gate_callee (f := 62) rfl ?_); refine hkGo (N := some 8) Tryd.func62 #[.slice A0 l0.length c0] ?_; (with_reducible refine (spec_l1New.calls k _ _ l0 t582 t583 t584 w _ ?side1 ?side2 ?side3 A2.out).mono ?_); (case side1 => exact hkS HB); (case side2 => exact HR0.out); (case side3 => exact HC0.out); rintro e w33 ⟨g585, rfl, hi, hb, hb2⟩; refine ⟨_, rfl, ?_⟩; have n_ := hkA (Aside0.mk (blk_below (g := gb580) (o := .cells #[.int .i64 0, .bool false, .int .i64 0, .int .i64 0] 33 (0, 0)) (hkB BK580) hb2)) (hkA (Aside0.mk (blk_below (g := gb581) (o := .cells #[.int .i64 0, .bool false, .int .i64 0, .int .i64 0] 33 (0, 0)) (hkB BK581) hb2)) (hkA (Aside0.mk (hb)) (hkA (Aside0.mk (hi)) (hkA (Aside0.mk (IsS122.ne_blk hi (blk_below (g := gb580) (o := .cells #[.int .i64 0, .bool false, .int .i64 0, .int .i64 0] 33 (0, 0)) (hkB BK580) hb2) (by decide))) (hkA (Aside0.mk (Ne.symm (IsS122.ne_blk hi (blk_below (g := gb580) (o := .cells #[.int .i64 0, .bool false, .int .i64 0, .int .i64 0] 33 (0, 0)) (hkB BK580) hb2) (by decide)))) (hkA (Aside0.mk (IsS122.ne_blk hi (blk_below (g := gb581) (o := .cells #[.int .i64 0, .bool false, .int .i64 0, .int .i64 0] 33 (0, 0)) (hkB BK581) hb2) (by decide))) (Aside0.mk (Ne.symm (IsS122.ne_blk hi (blk_below (g := gb581) (o := .cells #[.int .i64 0, .bool false, .int .i64 0, .int .i64 0] 33 (0, 0)) (hkB BK581) hb2) (by decide)))))))))); clear BK580 BK581 HB; obtain ⟨BK580, BK581, HB, HI585, NB585_580, NB580_585, NB585_581, NB581_585⟩ := n_; (try clear hb); (try clear hb2); (try clear hk); (try clear hi)) | ((with_reducible refine gate_callee (f := 63) rfl ?_); refine hkGo (N := some 11) Tryd.func63 #[.pointer (some ⟨g585, 0, none⟩)] ?_; (with_reducible refine (spec_l5pair.calls k g585 t582 t583 t584 t586 t587 t588 t589 t590 t591 t592 t593 t594 t595 w _ ?side1 ?side2 A3.out).mono ?_); (case side1 => exact hkI122); (case side2 => exact hkJ122); rintro e w34 ⟨rfl, hi, hb, hk⟩; refine ⟨_, rfl, ?_⟩; have n_ := hkA (Aside0.mk (KeepBut.blk hk (g' := gb580) (o := .cells #[.int .i64 0, .bool false, .int .i64 0, .int .i64 0] 33 (0, 0)) (hkB BK580) NB580_585.out (by simp))) (hkA (Aside0.mk (KeepBut.blk hk (g' := gb581) (o := .cells #[.int .i64 0, .bool false, .int .i64 0, .int .i64 0] 33 (0, 0)) (hkB BK581) NB581_585.out (by simp))) (hkA (Aside0.mk (hb)) (Aside0.mk (hi)))); clear BK580 BK581 HB HI585; obtain ⟨BK580, BK581, HB, HI585⟩ := n_; (try clear hb); (try clear hb2); (try clear hk); (try clear hi)) | ((with_reducible refine gate_dst (N := 5) rfl ?_); refine hkBox (N := 5) (cs := #[.int .i64 0, .bool false, .int .i64 0, .int .i64 0]) (t := 33) ?_; intro gb596 hg w35 hbox hb; have n_ := hkA (hkBb BK580 hb) (hkA (hkBb BK581 hb) (hkA (Aside0.mk (IsS122.below (hkI122) hb)) (hkA (Aside0.mk (below_step (hkJ122) hb)) (hkA (Aside0.mk (hbox)) (hkA (Aside0.mk ((by rw [hg]; exact (below_size (hkJ122)) : w.heap.size ≤ gb596))) (hkA (Aside0.mk ((by rw [hg]; exact (below_size (hkJ122)) : w.heap.size ≤ gb596))) (hkA (hkN hg BK580) (hkA (hkM hg BK580) (hkA (hkN hg BK581) (hkA (hkM hg BK581) (hkA (Aside0.mk ((by rw [hg]; exact Nat.ne_of_lt (IsS122.lt (show IsS122 w _ g585 t582 t594 t595 from hkI122)) : g585 ≠ gb596))) (Aside0.mk ((by rw [hg]; exact Nat.ne_of_gt (IsS122.lt (show IsS122 w _ g585 t582 t594 t595 from hkI122)) : gb596 ≠ g585)))))))))))))); clear BK580 BK581 HI585 HB; obtain ⟨BK580, BK581, HI585, HB, BK596, GW596, GE596, NB580_596, NB596_580, NB581_596, NB596_581, NB585_596, NB596_585⟩ := n_; clear hb hbox hg) | ((with_reducible refine gate_dst (N := 6) rfl ?_); refine hkBox (N := 6) (cs := #[.int .i64 0, .bool false, .int .i64 0, .int .i64 0]) (t := 33) ?_; intro gb597 hg w36 hbox hb; have n_ := hkA (hkBb BK580 hb) (hkA (hkBb BK581 hb) (hkA (Aside0.mk (IsS122.below (hkI122) hb)) (hkA (hkBb BK596 hb) (hkA (Aside0.mk (below_step (hkJ122) hb)) (hkA (Aside0.mk (hbox)) (hkA (Aside0.mk ((by rw [hg]; exact (below_size (hkJ122)) : w.heap.size ≤ gb597))) (hkA (Aside0.mk ((by rw [hg]; exact (below_size (hkJ122)) : w.heap.size ≤ gb597))) (hkA (hkN hg BK580) (hkA (hkM hg BK580) (hkA (hkN hg BK581) (hkA (hkM hg BK581) (hkA (hkN hg BK596) (hkA (hkM hg BK596) (hkA (Aside0.mk ((by rw [hg]; exact Nat.ne_of_lt (IsS122.lt (show IsS122 w _ g585 t582 t594 t595 from hkI122)) : g585 ≠ gb597))) (Aside0.mk ((by rw [hg]; exact Nat.ne_of_gt (IsS122.lt (show IsS122 w _ g585 t582 t594 t595 from hkI122)) : gb597 ≠ g585))))))))))))))))); clear BK580 BK581 HI585 BK596 HB; obtain ⟨BK580, BK581, HI585, BK596, HB, BK597, GW597, GE597, NB580_597, NB597_580, NB581_597, NB597_581, NB596_597, NB597_596, NB585_597, NB597_585⟩ := n_; clear hb hbox hg; have hnb37 := NB596_580.out; have hnc37 := NB580_596.out; have hnb38 := NB596_581.out; have hnc38 := NB581_596.out; have hnb39 := NB596_597.out; have hnc39 := NB597_596.out; have hnb40 := NB596_585.out; have hnc40 := NB585_596.out; obtain ⟨hcz41_0, hfz41_0, hcz41_1, hfz41_1, hcz41_2, hfz41_2, hcz41_3, hfz41_3⟩ := hkc4 BK596; have hnb42 := NB597_580.out; have hnc42 := NB580_597.out; have hnb43 := NB597_581.out; have hnc43 := NB581_597.out; have hnb44 := NB597_585.out; have hnc44 := NB585_597.out; obtain ⟨hcz45_0, hfz45_0, hcz45_1, hfz45_1, hcz45_2, hfz45_2, hcz45_3, hfz45_3⟩ := hkc4 BK597) | ((with_reducible refine gate_callee (f := 64) rfl ?_); refine hkGo (N := some 15) Tryd.func64 #[.pointer (some ⟨g585, 0, none⟩), .int .i64 3] ?_; (with_reducible refine (spec_l1Once.calls g585 t582 t594 t595 3 false t599 t600 w _ ?side1 ?side2 A4.out).mono ?_); (case side1 => exact hkI122); (case side2 => exact hkJ122); rintro e w46 ⟨rfl, hi, hb, hk⟩; refine ⟨_, rfl, ?_⟩; have n_ := hkA (Aside0.mk (KeepBut.blk hk (g' := gb580) (o := .cells #[.int .i64 0, .bool false, .int .i64 0, .int .i64 0] 33 (0, 0)) hkPp NB580_585.out (by simp))) (hkA (Aside0.mk (KeepBut.blk hk (g' := gb581) (o := .cells #[.int .i64 0, .bool false, .int .i64 0, .int .i64 0] 33 (0, 0)) hkPp NB581_585.out (by simp))) (hkA (Aside0.mk (KeepBut.blk hk (g' := gb596) (o := .cells #[.int .i64 t586, .bool t587, .int .i64 t588, .int .i64 t589] 33 (0, 0)) hkPp NB596_585.out (by simp))) (hkA (Aside0.mk (KeepBut.blk hk (g' := gb597) (o := .cells #[.int .i64 t590, .bool t591, .int .i64 t592, .int .i64 t593] 33 (0, 0)) hkPp NB597_585.out (by simp))) (hkA (Aside0.mk (hb)) (Aside0.mk (hi)))))); clear BK580 BK581 BK596 BK597 HB HI585; obtain ⟨BK580, BK581, BK596, BK597, HB, HI585⟩ := n_; (try clear hb); (try clear hb2); (try clear hk); (try clear hi)))
  have n_ := hkA (Aside0.mk (blk_drew BK580.out)) (hkA (Aside0.mk (blk_drew BK581.out)) (hkA (Aside0.mk (blk_drew BK596.out)) (hkA (Aside0.mk (blk_drew BK597.out)) (hkA (Aside0.mk (IsS122.drew HI585.out)) (Aside0.mk (below_drew1 HB.out))))))
  clear BK580 BK581 BK596 BK597 HI585 HB
  obtain ⟨BK580, BK581, BK596, BK597, HI585, HB⟩ := n_
  refine start_ (n := 4) (S := fun w' => w'.cell? ⟨gb596, 0, none⟩ = some (.int .i64 t586) ∧ w'.cell? ⟨gb596, 1, none⟩ = some (.bool t587) ∧ w'.cell? ⟨gb596, 2, none⟩ = some (.int .i64 t588) ∧ w'.cell? ⟨gb596, 3, none⟩ = some (.int .i64 t589) ∧ w'.cell? ⟨gb597, 0, none⟩ = some (.int .i64 t590) ∧ w'.cell? ⟨gb597, 1, none⟩ = some (.bool t591) ∧ w'.cell? ⟨gb597, 2, none⟩ = some (.int .i64 t592) ∧ w'.cell? ⟨gb597, 3, none⟩ = some (.int .i64 t593)) (ds := []) #[false, false, false, false] (by kernel_rfl) rfl rfl ⟨(blk_cell BK596.out 0).trans rfl, (blk_cell BK596.out 1).trans rfl, (blk_cell BK596.out 2).trans rfl, (blk_cell BK596.out 3).trans rfl, (blk_cell BK597.out 0).trans rfl, (blk_cell BK597.out 1).trans rfl, (blk_cell BK597.out 2).trans rfl, (blk_cell BK597.out 3).trans rfl⟩ (fun hHeld => ?_)
  generalize w46.drew = w47 at BK580 BK581 BK596 BK597 HI585 HB hHeld ⊢
  refine hkTk (i := 0) (N := some 18) hHeld ?_ (hy := by rintro w' ⟨s0, s1, s2, s3, s4, s5, s6, s7⟩; go_simp; with_reducible rfl)
  refine hkTk (i := 1) (N := some 19) hHeld ?_ (hy := by rintro w' ⟨s0, s1, s2, s3, s4, s5, s6, s7⟩; go_simp; with_reducible rfl)
  refine one_ (i := 2) (N := none) #[true, true, true, false] rfl rfl (by kernel_rfl) (by decide) (fun K hK => ?_)
  have hs48 : w47.cell? ⟨gb580, 0, none⟩ = some (.int .i64 0) := (blk_cell BK580.out 0).trans rfl
  have hfs48 := blk_frozen BK580.out 0
  have hns48_1 := NB581_580.out
  have hns48_2 := NB596_580.out
  have hns48_3 := NB597_580.out
  have hms48_1 := NB580_581.out
  have hms48_2 := NB580_596.out
  have hms48_3 := NB580_597.out
  have hs49 : w47.cell? ⟨gb580, 1, none⟩ = some (.bool false) := (blk_cell BK580.out 1).trans rfl
  have hfs49 := blk_frozen BK580.out 1
  have hns49_1 := NB581_580.out
  have hns49_2 := NB596_580.out
  have hns49_3 := NB597_580.out
  have hms49_1 := NB580_581.out
  have hms49_2 := NB580_596.out
  have hms49_3 := NB580_597.out
  have hs50 : w47.cell? ⟨gb580, 2, none⟩ = some (.int .i64 0) := (blk_cell BK580.out 2).trans rfl
  have hfs50 := blk_frozen BK580.out 2
  have hns50_1 := NB581_580.out
  have hns50_2 := NB596_580.out
  have hns50_3 := NB597_580.out
  have hms50_1 := NB580_581.out
  have hms50_2 := NB580_596.out
  have hms50_3 := NB580_597.out
  have hs51 : w47.cell? ⟨gb580, 3, none⟩ = some (.int .i64 0) := (blk_cell BK580.out 3).trans rfl
  have hfs51 := blk_frozen BK580.out 3
  have hns51_1 := NB581_580.out
  have hns51_2 := NB596_580.out
  have hns51_3 := NB597_580.out
  have hms51_1 := NB580_581.out
  have hms51_2 := NB580_596.out
  have hms51_3 := NB580_597.out
  refine skip_ (w1 := ?_) (by rfl) rfl ?_ ?_
  rotate_left
  ·go_simp
   rfl
  refine hK.out _ _ ⟨((cell_far (p := ⟨gb580, _, none⟩) NB596_580.out _).trans (((cell_far (p := ⟨gb580, _, none⟩) NB596_580.out _).trans (((cell_far (p := ⟨gb580, _, none⟩) NB596_580.out _).trans (((cell_far (p := ⟨gb580, _, none⟩) NB596_580.out _).trans (hHeld.1)))))))), ((cell_far (p := ⟨gb580, _, none⟩) NB596_580.out _).trans (((cell_far (p := ⟨gb580, _, none⟩) NB596_580.out _).trans (((cell_far (p := ⟨gb580, _, none⟩) NB596_580.out _).trans (((cell_far (p := ⟨gb580, _, none⟩) NB596_580.out _).trans (hHeld.2.1)))))))), ((cell_far (p := ⟨gb580, _, none⟩) NB596_580.out _).trans (((cell_far (p := ⟨gb580, _, none⟩) NB596_580.out _).trans (((cell_far (p := ⟨gb580, _, none⟩) NB596_580.out _).trans (((cell_far (p := ⟨gb580, _, none⟩) NB596_580.out _).trans (hHeld.2.2.1)))))))), ((cell_far (p := ⟨gb580, _, none⟩) NB596_580.out _).trans (((cell_far (p := ⟨gb580, _, none⟩) NB596_580.out _).trans (((cell_far (p := ⟨gb580, _, none⟩) NB596_580.out _).trans (((cell_far (p := ⟨gb580, _, none⟩) NB596_580.out _).trans (hHeld.2.2.2.1)))))))), ((cell_far (p := ⟨gb580, _, none⟩) NB597_580.out _).trans (((cell_far (p := ⟨gb580, _, none⟩) NB597_580.out _).trans (((cell_far (p := ⟨gb580, _, none⟩) NB597_580.out _).trans (((cell_far (p := ⟨gb580, _, none⟩) NB597_580.out _).trans (hHeld.2.2.2.2.1)))))))), ((cell_far (p := ⟨gb580, _, none⟩) NB597_580.out _).trans (((cell_far (p := ⟨gb580, _, none⟩) NB597_580.out _).trans (((cell_far (p := ⟨gb580, _, none⟩) NB597_580.out _).trans (((cell_far (p := ⟨gb580, _, none⟩) NB597_580.out _).trans (hHeld.2.2.2.2.2.1)))))))), ((cell_far (p := ⟨gb580, _, none⟩) NB597_580.out _).trans (((cell_far (p := ⟨gb580, _, none⟩) NB597_580.out _).trans (((cell_far (p := ⟨gb580, _, none⟩) NB597_580.out _).trans (((cell_far (p := ⟨gb580, _, none⟩) NB597_580.out _).trans (hHeld.2.2.2.2.2.2.1)))))))), ((cell_far (p := ⟨gb580, _, none⟩) NB597_580.out _).trans (((cell_far (p := ⟨gb580, _, none⟩) NB597_580.out _).trans (((cell_far (p := ⟨gb580, _, none⟩) NB597_580.out _).trans (((cell_far (p := ⟨gb580, _, none⟩) NB597_580.out _).trans (hHeld.2.2.2.2.2.2.2))))))))⟩ (fun hHeld => ?_)
  clear hK K
  refine one_ (i := 3) (N := none) #[true, true, true, true] rfl rfl (by kernel_rfl) (by decide) (fun K hK => ?_)
  have hs52 : w47.cell? ⟨gb581, 0, none⟩ = some (.int .i64 0) := (blk_cell BK581.out 0).trans rfl
  have hfs52 := blk_frozen BK581.out 0
  have hns52_0 := NB580_581.out
  have hns52_2 := NB596_581.out
  have hns52_3 := NB597_581.out
  have hms52_0 := NB581_580.out
  have hms52_2 := NB581_596.out
  have hms52_3 := NB581_597.out
  have hs53 : w47.cell? ⟨gb581, 1, none⟩ = some (.bool false) := (blk_cell BK581.out 1).trans rfl
  have hfs53 := blk_frozen BK581.out 1
  have hns53_0 := NB580_581.out
  have hns53_2 := NB596_581.out
  have hns53_3 := NB597_581.out
  have hms53_0 := NB581_580.out
  have hms53_2 := NB581_596.out
  have hms53_3 := NB581_597.out
  have hs54 : w47.cell? ⟨gb581, 2, none⟩ = some (.int .i64 0) := (blk_cell BK581.out 2).trans rfl
  have hfs54 := blk_frozen BK581.out 2
  have hns54_0 := NB580_581.out
  have hns54_2 := NB596_581.out
  have hns54_3 := NB597_581.out
  have hms54_0 := NB581_580.out
  have hms54_2 := NB581_596.out
  have hms54_3 := NB581_597.out
  have hs55 : w47.cell? ⟨gb581, 3, none⟩ = some (.int .i64 0) := (blk_cell BK581.out 3).trans rfl
  have hfs55 := blk_frozen BK581.out 3
  have hns55_0 := NB580_581.out
  have hns55_2 := NB596_581.out
  have hns55_3 := NB597_581.out
  have hms55_0 := NB581_580.out
  have hms55_2 := NB581_596.out
  have hms55_3 := NB581_597.out
  refine skip_ (w1 := ?_) (by rfl) rfl ?_ ?_
  rotate_left
  ·go_simp
   rfl
  refine hK.out _ _ ⟨((cell_far (p := ⟨gb581, _, none⟩) NB596_581.out _).trans (((cell_far (p := ⟨gb581, _, none⟩) NB596_581.out _).trans (((cell_far (p := ⟨gb581, _, none⟩) NB596_581.out _).trans (((cell_far (p := ⟨gb581, _, none⟩) NB596_581.out _).trans (hHeld.1)))))))), ((cell_far (p := ⟨gb581, _, none⟩) NB596_581.out _).trans (((cell_far (p := ⟨gb581, _, none⟩) NB596_581.out _).trans (((cell_far (p := ⟨gb581, _, none⟩) NB596_581.out _).trans (((cell_far (p := ⟨gb581, _, none⟩) NB596_581.out _).trans (hHeld.2.1)))))))), ((cell_far (p := ⟨gb581, _, none⟩) NB596_581.out _).trans (((cell_far (p := ⟨gb581, _, none⟩) NB596_581.out _).trans (((cell_far (p := ⟨gb581, _, none⟩) NB596_581.out _).trans (((cell_far (p := ⟨gb581, _, none⟩) NB596_581.out _).trans (hHeld.2.2.1)))))))), ((cell_far (p := ⟨gb581, _, none⟩) NB596_581.out _).trans (((cell_far (p := ⟨gb581, _, none⟩) NB596_581.out _).trans (((cell_far (p := ⟨gb581, _, none⟩) NB596_581.out _).trans (((cell_far (p := ⟨gb581, _, none⟩) NB596_581.out _).trans (hHeld.2.2.2.1)))))))), ((cell_far (p := ⟨gb581, _, none⟩) NB597_581.out _).trans (((cell_far (p := ⟨gb581, _, none⟩) NB597_581.out _).trans (((cell_far (p := ⟨gb581, _, none⟩) NB597_581.out _).trans (((cell_far (p := ⟨gb581, _, none⟩) NB597_581.out _).trans (hHeld.2.2.2.2.1)))))))), ((cell_far (p := ⟨gb581, _, none⟩) NB597_581.out _).trans (((cell_far (p := ⟨gb581, _, none⟩) NB597_581.out _).trans (((cell_far (p := ⟨gb581, _, none⟩) NB597_581.out _).trans (((cell_far (p := ⟨gb581, _, none⟩) NB597_581.out _).trans (hHeld.2.2.2.2.2.1)))))))), ((cell_far (p := ⟨gb581, _, none⟩) NB597_581.out _).trans (((cell_far (p := ⟨gb581, _, none⟩) NB597_581.out _).trans (((cell_far (p := ⟨gb581, _, none⟩) NB597_581.out _).trans (((cell_far (p := ⟨gb581, _, none⟩) NB597_581.out _).trans (hHeld.2.2.2.2.2.2.1)))))))), ((cell_far (p := ⟨gb581, _, none⟩) NB597_581.out _).trans (((cell_far (p := ⟨gb581, _, none⟩) NB597_581.out _).trans (((cell_far (p := ⟨gb581, _, none⟩) NB597_581.out _).trans (((cell_far (p := ⟨gb581, _, none⟩) NB597_581.out _).trans (hHeld.2.2.2.2.2.2.2))))))))⟩ (fun hHeld => ?_)
  clear hK K
  refine done_ (by kernel_rfl) ?_
  try go_wp2
  refine bodyPost_ret (results_cc rfl _ _ gb580 gb581 33 33 #[.int .i64 t586, .bool t587, .int .i64 t588, .int .i64 t589] #[.int .i64 t590, .bool t591, .int .i64 t592, .int .i64 t593] (0, 0) (0, 0) _ _ rfl hkPp Tryd.underlying33 rfl (by kernel_rfl) rfl hkPp Tryd.underlying33 rfl (by kernel_rfl)) rfl ?_
  exact ⟨hkE, hkJ122⟩

/-! ### impl_hasKind: function 65 -/
def impl_hasKind.f (a0 : Int) (a1_0 : Int) (a1_1 : Bool) (a1_2 : Int) (a1_3 : Int) (a2_0 : Int) (a2_1 : Bool) (a2_2 : Int) (a2_3 : Int) : Option (Bool) := if a1_0 = a0 then (some true) else (some (a2_0 == a0))
set_option maxHeartbeats 8000000 in
set_option maxRecDepth 100000 in
theorem impl_hasKind.calls (a0 : Int) (a1_0 : Int) (a1_1 : Bool) (a1_2 : Int) (a1_3 : Int) (a2_0 : Int) (a2_1 : Bool) (a2_2 : Int) (a2_3 : Int) (r : Bool) (w : World) (h : impl_hasKind.f a0 a1_0 a1_1 a1_2 a1_3 a2_0 a2_1 a2_2 a2_3 = some r) :
  Calls Tryd.prog 65 #[.int .i64 a0, .agg #[.int .i64 a1_0, .bool a1_1, .int .i64 a1_2, .int .i64 a1_3], .agg #[.int .i64 a2_0, .bool a2_1, .int .i64 a2_2, .int .i64 a2_3]] w fun e w' => e = .returned (.bool r) ∧ Below w.heap.size w w' := by
 have hu33 := Tryd.underlying33
 have HB := Aside0.mk (Below.refl w.heap.size w)
 have H : (if a1_0 = a0 then (some true) else (some (a2_0 == a0))) = some r := h
 clear h
 by_cases c4 : a1_0 = a0
 ·rw [if_pos c4] at H
  have c4b0 : (a1_0 == a0) = true := beq_iff_eq.mpr c4
  have c4b1 : (a1_0 != a0) = false := bne_eq_false_iff_eq.mpr c4
  clear c4
  obtain rfl := Option.some.inj H
  go_enter Tryd.func65, Tryd.ntmps65
  go_wp2_with (first | ((with_reducible refine gate_dst (N := 4) rfl ?_); refine hkBox (N := 4) (cs := #[.int .i64 a1_0, .bool a1_1, .int .i64 a1_2, .int .i64 a1_3]) (t := 33) ?_; intro gb601 hg w5 hbox hb; have n_ := hkA (hkU HB hb) (hkA (Aside0.mk (hbox)) (hkA (hkG hg (hkS HB)) (hkG hg (hkS HB)))); clear HB; obtain ⟨HB, BK601, GW601, GE601⟩ := n_; clear hb hbox hg) | ((with_reducible refine gate_dst (N := 5) rfl ?_); refine hkBox (N := 5) (cs := #[.int .i64 a2_0, .bool a2_1, .int .i64 a2_2, .int .i64 a2_3]) (t := 33) ?_; intro gb602 hg w6 hbox hb; have n_ := hkA (hkBb BK601 hb) (hkA (hkU HB hb) (hkA (Aside0.mk (hbox)) (hkA (hkG hg (hkS HB)) (hkA (hkG hg (hkS HB)) (hkA (hkN hg BK601) (hkM hg BK601)))))); clear BK601 HB; obtain ⟨BK601, HB, BK602, GW602, GE602, NB601_602, NB602_601⟩ := n_; clear hb hbox hg; have hnb7 := NB601_602.out; have hnc7 := NB602_601.out; obtain ⟨hcz8_0, hfz8_0, hcz8_1, hfz8_1, hcz8_2, hfz8_2, hcz8_3, hfz8_3⟩ := hkc4 BK601))
  go_ret
  exact ⟨hkE, hkS HB⟩
 ·rw [if_neg c4] at H
  have c4b0 : (a1_0 == a0) = false := beq_eq_false_iff_ne.mpr c4
  have c4b1 : (a1_0 != a0) = true := bne_iff_ne.mpr c4
  obtain rfl := Option.some.inj H
  go_enter Tryd.func65, Tryd.ntmps65
  go_wp2_with (first | ((with_reducible refine gate_dst (N := 4) rfl ?_); refine hkBox (N := 4) (cs := #[.int .i64 a1_0, .bool a1_1, .int .i64 a1_2, .int .i64 a1_3]) (t := 33) ?_; intro gb601 hg w9 hbox hb; have n_ := hkA (hkU HB hb) (hkA (Aside0.mk (hbox)) (hkA (hkG hg (hkS HB)) (hkG hg (hkS HB)))); clear HB; obtain ⟨HB, BK601, GW601, GE601⟩ := n_; clear hb hbox hg) | ((with_reducible refine gate_dst (N := 5) rfl ?_); refine hkBox (N := 5) (cs := #[.int .i64 a2_0, .bool a2_1, .int .i64 a2_2, .int .i64 a2_3]) (t := 33) ?_; intro gb602 hg w10 hbox hb; have n_ := hkA (hkBb BK601 hb) (hkA (hkU HB hb) (hkA (Aside0.mk (hbox)) (hkA (hkG hg (hkS HB)) (hkA (hkG hg (hkS HB)) (hkA (hkN hg BK601) (hkM hg BK601)))))); clear BK601 HB; obtain ⟨BK601, HB, BK602, GW602, GE602, NB601_602, NB602_601⟩ := n_; clear hb hbox hg; have hnb11 := NB601_602.out; have hnc11 := NB602_601.out; obtain ⟨hcz12_0, hfz12_0, hcz12_1, hfz12_1, hcz12_2, hfz12_2, hcz12_3, hfz12_3⟩ := hkc4 BK601; obtain ⟨hcz13_0, hfz13_0, hcz13_1, hfz13_1, hcz13_2, hfz13_2, hcz13_3, hfz13_3⟩ := hkc4 BK602))
  go_ret
  exact ⟨hkE, hkS HB⟩

/-! ### impl_compareFloats_1: function 98 -/
def impl_compareFloats_1.f (a0_0 : Int) (a0_1 : Bool) (a0_2 : Int) (a0_3 : Int) : Option (Int) := if a0_0 = 2 then (if a0_1 = true then (some (-1)) else (some 1)) else (some 0)
set_option maxHeartbeats 8000000 in
set_option maxRecDepth 100000 in
theorem impl_compareFloats_1.calls (a0_0 : Int) (a0_1 : Bool) (a0_2 : Int) (a0_3 : Int) (r : Int) (w : World) (h : impl_compareFloats_1.f a0_0 a0_1 a0_2 a0_3 = some r) :
  Calls Tryd.prog 98 #[.agg #[.int .i64 a0_0, .bool a0_1, .int .i64 a0_2, .int .i64 a0_3]] w fun e w' => e = .returned (.int .i64 r) ∧ Below w.heap.size w w' := by
 have hu33 := Tryd.underlying33
 have HB := Aside0.mk (Below.refl w.heap.size w)
 have H : (if a0_0 = 2 then (if a0_1 = true then (some (-1)) else (some 1)) else (some 0)) = some r := h
 clear h
 by_cases c2 : a0_0 = 2
 ·rw [if_pos c2] at H
  have c2b0 : (a0_0 == 2) = true := beq_iff_eq.mpr c2
  have c2b1 : (a0_0 != 2) = false := bne_eq_false_iff_eq.mpr c2
  clear c2
  by_cases c3 : a0_1 = true
  ·subst c3
   have H1 : (some (-1)) = some r := by rw [if_pos rfl] at H; exact H
   clear H
   have H := H1
   clear H1
   obtain rfl := Option.some.inj H
   go_enter Tryd.func98, Tryd.ntmps98
   go_wp2_with (first | ((with_reducible refine gate_dst (N := 1) rfl ?_); refine hkBox (N := 1) (cs := #[.int .i64 a0_0, .bool true, .int .i64 a0_2, .int .i64 a0_3]) (t := 33) ?_; intro gb603 hg w4 hbox hb; have n_ := hkA (hkU HB hb) (hkA (Aside0.mk (hbox)) (hkA (hkG hg (hkS HB)) (hkG hg (hkS HB)))); clear HB; obtain ⟨HB, BK603, GW603, GE603⟩ := n_; clear hb hbox hg; obtain ⟨hcz5_0, hfz5_0, hcz5_1, hfz5_1, hcz5_2, hfz5_2, hcz5_3, hfz5_3⟩ := hkc4 BK603))
   go_ret
   exact ⟨hkE, hkS HB⟩
  ·replace c3 := Bool.eq_false_iff.mpr c3
   subst c3
   have H1 : (some 1) = some r := by rw [if_neg (show ¬ (false = true) by decide)] at H; exact H
   clear H
   have H := H1
   clear H1
   obtain rfl := Option.some.inj H
   go_enter Tryd.func98, Tryd.ntmps98
   go_wp2_with (first | ((with_reducible refine gate_dst (N := 1) rfl ?_); refine hkBox (N := 1) (cs := #[.int .i64 a0_0, .bool false, .int .i64 a0_2, .int .i64 a0_3]) (t := 33) ?_; intro gb603 hg w6 hbox hb; have n_ := hkA (hkU HB hb) (hkA (Aside0.mk (hbox)) (hkA (hkG hg (hkS HB)) (hkG hg (hkS HB)))); clear HB; obtain ⟨HB, BK603, GW603, GE603⟩ := n_; clear hb hbox hg; obtain ⟨hcz7_0, hfz7_0, hcz7_1, hfz7_1, hcz7_2, hfz7_2, hcz7_3, hfz7_3⟩ := hkc4 BK603))
   go_ret
   exact ⟨hkE, hkS HB⟩
 ·rw [if_neg c2] at H
  have c2b0 : (a0_0 == 2) = false := beq_eq_false_iff_ne.mpr c2
  have c2b1 : (a0_0 != 2) = true := bne_iff_ne.mpr c2
  obtain rfl := Option.some.inj H
  go_enter Tryd.func98, Tryd.ntmps98
  go_wp2_with (first | ((with_reducible refine gate_dst (N := 1) rfl ?_); refine hkBox (N := 1) (cs := #[.int .i64 a0_0, .bool a0_1, .int .i64 a0_2, .int .i64 a0_3]) (t := 33) ?_; intro gb603 hg w8 hbox hb; have n_ := hkA (hkU HB hb) (hkA (Aside0.mk (hbox)) (hkA (hkG hg (hkS HB)) (hkG hg (hkS HB)))); clear HB; obtain ⟨HB, BK603, GW603, GE603⟩ := n_; clear hb hbox hg; obtain ⟨hcz9_0, hfz9_0, hcz9_1, hfz9_1, hcz9_2, hfz9_2, hcz9_3, hfz9_3⟩ := hkc4 BK603))
  go_ret
  exact ⟨hkE, hkS HB⟩

end Go.Proofs.YtgjpahofopoflaaDoor.PFnFlOrder
