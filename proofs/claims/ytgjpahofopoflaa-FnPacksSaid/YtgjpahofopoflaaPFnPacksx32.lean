-- Written by our own driver (wip/hand/hprint.py) over the seat's translation.
import Derived.Test.YtgjpahofopoflaaPFnPacksx0
import Derived.Test.YtgjpahofopoflaaPFnPacksx10
import Derived.Test.YtgjpahofopoflaaPFnPacksx11
import Derived.Test.YtgjpahofopoflaaPFnPacksx31
namespace Go.Proofs.Ytgjpahofopoflaa.PFnPacks
open Go.RowKit Go.Proofs.YtgjpahofopoflaaW.PrintWords Go.Proofs.YtgjpahofopoflaaW.PrintLast Go.Proofs.YtgjpahofopoflaaW.PrintMore
attribute [local go_sem] max2_int min2_int max_two min_two max_three min_three max_four min_four   -- for this text's walks alone
set_option linter.unusedVariables false
set_option linter.unusedSimpArgs false

/-! ### spec_DrawFlCmp: function 41 -/
def spec_DrawFlCmp.f (k : Nat) (l0 : List Int) : Option (Int × Bool × Int × Int × Int × Bool × Int × Int) := (spec_l1New.f k l0).bind fun bt614 => ((spec_l5pair.f k bt614.1 bt614.2.1 bt614.2.2).bind fun bt618 => ((spec_l1Once.f bt614.1 bt618.2.2.2.2.2.2.2.2.1 bt618.2.2.2.2.2.2.2.2.2 3).bind fun bt630 => (if bt630.1 = true then (some (bt618.1, bt618.2.1, bt618.2.2.1, bt618.2.2.2.1, bt618.1, bt618.2.1, bt618.2.2.1, bt618.2.2.2.1)) else (some (bt618.1, bt618.2.1, bt618.2.2.1, bt618.2.2.2.1, bt618.2.2.2.2.1, bt618.2.2.2.2.2.1, bt618.2.2.2.2.2.2.1, bt618.2.2.2.2.2.2.2.1)))))
theorem spec_DrawFlCmp.mono : ∀ a0 k, LeO (spec_DrawFlCmp.f k a0) (spec_DrawFlCmp.f (k + 1) a0) := by
 intro a0 k
 unfold spec_DrawFlCmp.f
 repeat' first
   | (with_reducible exact spec_l1New.mono _ _)
   | (with_reducible exact spec_l5pair.mono _ _ _ _)
   | (with_reducible exact LeO.refl _)
   | (with_reducible exact LeO.none _)
   | (with_reducible refine LeO.ite ?_ ?_)
   | (with_reducible refine LeO.bind ?_ (fun _ => ?_))
   | exact spec_l1New.mono _ _
   | exact spec_l5pair.mono _ _ _ _
   | exact LeO.none _
   | refine LeO.ite ?_ ?_
   | refine LeO.bind ?_ (fun _ => ?_)
set_option maxHeartbeats 8000000 in
set_option maxRecDepth 100000 in
theorem spec_DrawFlCmp.calls (k : Nat) (A0 : Option Addr) (c0 : Nat) (l0 : List Int) (r1 : Int) (r2 : Bool) (r3 : Int) (r4 : Int) (r5 : Int) (r6 : Bool) (r7 : Int) (r8 : Int) (w : World) (hr0 : Kd.C (Kd.int .u8) w A0 l0.length l0) (hc0 : l0.length ≤ c0) (h : spec_DrawFlCmp.f k l0 = some (r1, r2, r3, r4, r5, r6, r7, r8)) :
  Calls Try.prog 41 #[.slice A0 l0.length c0] w fun e w' => e = .returned (.tuple #[.agg #[.int .i64 r1, .bool r2, .int .i64 r3, .int .i64 r4], .agg #[.int .i64 r5, .bool r6, .int .i64 r7, .int .i64 r8]]) ∧ Below w.heap.size w w' := by
 have hu26 := Try.underlying26
 have HR0 := Aside0.mk hr0
 have HC0 := Aside0.mk hc0
 clear hr0 hc0
 have HB := Aside0.mk (Below.refl w.heap.size w)
 have H : ((spec_l1New.f k l0).bind fun bt614 => ((spec_l5pair.f k bt614.1 bt614.2.1 bt614.2.2).bind fun bt618 => ((spec_l1Once.f bt614.1 bt618.2.2.2.2.2.2.2.2.1 bt618.2.2.2.2.2.2.2.2.2 3).bind fun bt630 => (if bt630.1 = true then (some (bt618.1, bt618.2.1, bt618.2.2.1, bt618.2.2.2.1, bt618.1, bt618.2.1, bt618.2.2.1, bt618.2.2.2.1)) else (some (bt618.1, bt618.2.1, bt618.2.2.1, bt618.2.2.2.1, bt618.2.2.2.2.1, bt618.2.2.2.2.2.1, bt618.2.2.2.2.2.2.1, bt618.2.2.2.2.2.2.2.1)))))) = some (r1, r2, r3, r4, r5, r6, r7, r8) := h
 clear h
 replace H := hBi H
 obtain ⟨⟨t614, t615, t616⟩, A20, H⟩ := H
 replace H : ((spec_l5pair.f k t614 t615 t616).bind fun bt618 => ((spec_l1Once.f t614 bt618.2.2.2.2.2.2.2.2.1 bt618.2.2.2.2.2.2.2.2.2 3).bind fun bt630 => (if bt630.1 = true then (some (bt618.1, bt618.2.1, bt618.2.2.1, bt618.2.2.2.1, bt618.1, bt618.2.1, bt618.2.2.1, bt618.2.2.2.1)) else (some (bt618.1, bt618.2.1, bt618.2.2.1, bt618.2.2.2.1, bt618.2.2.2.2.1, bt618.2.2.2.2.2.1, bt618.2.2.2.2.2.2.1, bt618.2.2.2.2.2.2.2.1))))) = some (r1, r2, r3, r4, r5, r6, r7, r8) := H
 have A2 := Aside0.mk A20
 clear A20
 replace H := hBi H
 obtain ⟨⟨t618, t619, t620, t621, t622, t623, t624, t625, t626, t627⟩, A30, H⟩ := H
 replace H : ((spec_l1Once.f t614 t626 t627 3).bind fun bt630 => (if bt630.1 = true then (some (t618, t619, t620, t621, t618, t619, t620, t621)) else (some (t618, t619, t620, t621, t622, t623, t624, t625)))) = some (r1, r2, r3, r4, r5, r6, r7, r8) := H
 have A3 := Aside0.mk A30
 clear A30
 replace H := hBi H
 obtain ⟨⟨t630, t631, t632⟩, A40, H⟩ := H
 replace H : (if t630 = true then (some (t618, t619, t620, t621, t618, t619, t620, t621)) else (some (t618, t619, t620, t621, t622, t623, t624, t625))) = some (r1, r2, r3, r4, r5, r6, r7, r8) := H
 have A4 := Aside0.mk A40
 clear A40
 by_cases c5 : t630 = true
 ·subst c5
  have H1 : (some (t618, t619, t620, t621, t618, t619, t620, t621)) = some (r1, r2, r3, r4, r5, r6, r7, r8) := by rw [if_pos rfl] at H; exact H
  clear H
  have H := H1
  clear H1
  simp only [Option.some.injEq, Prod.mk.injEq] at H
  obtain ⟨rfl, rfl, rfl, rfl, rfl, rfl, rfl, rfl⟩ := H
  go_enter Try.func41, Try.ntmps41
  try go_wp2_with (first | ((with_reducible refine gate_dst (N := 2) rfl ?_); refine hkBox (N := 2) (cs := #[.int .i64 0, .bool false, .int .i64 0, .int .i64 0]) (t := 26) ?_; intro gb612 hg w6 hbox hb; have n_ := hkA (hkU HB hb) (hkA (Aside0.mk (hbox)) (hkA (hkG hg (hkS HB)) (hkG hg (hkS HB)))); clear HB; obtain ⟨HB, BK612, GW612, GE612⟩ := n_; clear hb hbox hg) | ((with_reducible refine gate_dst (N := 3) rfl ?_); refine hkBox (N := 3) (cs := #[.int .i64 0, .bool false, .int .i64 0, .int .i64 0]) (t := 26) ?_; intro gb613 hg w7 hbox hb; have n_ := hkA (hkBb BK612 hb) (hkA (hkU HB hb) (hkA (Aside0.mk (hbox)) (hkA (hkG hg (hkS HB)) (hkA (hkG hg (hkS HB)) (hkA (hkN hg BK612) (hkM hg BK612)))))); clear BK612 HB; obtain ⟨BK612, HB, BK613, GW613, GE613, NB612_613, NB613_612⟩ := n_; clear hb hbox hg) | ((with_reducible refine gate_callee (f := 54) rfl ?_); refine hkGo (N := some 8) Try.func54 #[.slice A0 l0.length c0] ?_; (with_reducible refine (spec_l1New.calls k _ _ l0 t614 t615 t616 w _ ?side1 ?side2 ?side3 A2.out).mono ?_); (case side1 => exact hkS HB); (case side2 => exact HR0.out); (case side3 => exact HC0.out); rintro e w8 ⟨g617, rfl, hi, hb, hb2⟩; refine ⟨_, rfl, ?_⟩; have n_ := hkA (Aside0.mk (blk_below (g := gb612) (o := .cells #[.int .i64 0, .bool false, .int .i64 0, .int .i64 0] 26 (0, 0)) (hkB BK612) hb2)) (hkA (Aside0.mk (blk_below (g := gb613) (o := .cells #[.int .i64 0, .bool false, .int .i64 0, .int .i64 0] 26 (0, 0)) (hkB BK613) hb2)) (hkA (Aside0.mk (hb)) (hkA (Aside0.mk (hi)) (hkA (Aside0.mk (IsS125.ne_blk hi (blk_below (g := gb612) (o := .cells #[.int .i64 0, .bool false, .int .i64 0, .int .i64 0] 26 (0, 0)) (hkB BK612) hb2) (by decide))) (hkA (Aside0.mk (Ne.symm (IsS125.ne_blk hi (blk_below (g := gb612) (o := .cells #[.int .i64 0, .bool false, .int .i64 0, .int .i64 0] 26 (0, 0)) (hkB BK612) hb2) (by decide)))) (hkA (Aside0.mk (IsS125.ne_blk hi (blk_below (g := gb613) (o := .cells #[.int .i64 0, .bool false, .int .i64 0, .int .i64 0] 26 (0, 0)) (hkB BK613) hb2) (by decide))) (Aside0.mk (Ne.symm (IsS125.ne_blk hi (blk_below (g := gb613) (o := .cells #[.int .i64 0, .bool false, .int .i64 0, .int .i64 0] 26 (0, 0)) (hkB BK613) hb2) (by decide)))))))))); clear BK612 BK613 HB; obtain ⟨BK612, BK613, HB, HI617, NB617_612, NB612_617, NB617_613, NB613_617⟩ := n_; (try clear hb); (try clear hb2); (try clear hk); (try clear hi)) | ((with_reducible refine gate_callee (f := 82) rfl ?_); refine hkGo (N := some 11) Try.func82 #[.pointer (some ⟨g617, 0, none⟩)] ?_; (with_reducible refine (spec_l5pair.calls k g617 t614 t615 t616 t618 t619 t620 t621 t622 t623 t624 t625 t626 t627 w _ ?side1 ?side2 A3.out).mono ?_); (case side1 => exact hkI125); (case side2 => exact hkJ125); rintro e w9 ⟨rfl, hi, hb, hk⟩; refine ⟨_, rfl, ?_⟩; have n_ := hkA (Aside0.mk (KeepBut.blk hk (g' := gb612) (o := .cells #[.int .i64 0, .bool false, .int .i64 0, .int .i64 0] 26 (0, 0)) (hkB BK612) NB612_617.out (by simp))) (hkA (Aside0.mk (KeepBut.blk hk (g' := gb613) (o := .cells #[.int .i64 0, .bool false, .int .i64 0, .int .i64 0] 26 (0, 0)) (hkB BK613) NB613_617.out (by simp))) (hkA (Aside0.mk (hb)) (Aside0.mk (hi)))); clear BK612 BK613 HB HI617; obtain ⟨BK612, BK613, HB, HI617⟩ := n_; (try clear hb); (try clear hb2); (try clear hk); (try clear hi)) | ((with_reducible refine gate_dst (N := 5) rfl ?_); refine hkBox (N := 5) (cs := #[.int .i64 0, .bool false, .int .i64 0, .int .i64 0]) (t := 26) ?_; intro gb628 hg w10 hbox hb; have n_ := hkA (hkBb BK612 hb) (hkA (hkBb BK613 hb) (hkA (Aside0.mk (IsS125.below (hkI125) hb)) (hkA (Aside0.mk (below_step (hkJ125) hb)) (hkA (Aside0.mk (hbox)) (hkA (Aside0.mk ((by rw [hg]; exact (below_size (hkJ125)) : w.heap.size ≤ gb628))) (hkA (Aside0.mk ((by rw [hg]; exact (below_size (hkJ125)) : w.heap.size ≤ gb628))) (hkA (hkN hg BK612) (hkA (hkM hg BK612) (hkA (hkN hg BK613) (hkA (hkM hg BK613) (hkA (Aside0.mk ((by rw [hg]; exact Nat.ne_of_lt (IsS125.lt (show IsS125 w _ g617 t614 t626 t627 from hkI125)) : g617 ≠ gb628))) (Aside0.mk ((by rw [hg]; exact Nat.ne_of_gt (IsS125.lt (show IsS125 w _ g617 t614 t626 t627 from hkI125)) : gb628 ≠ g617)))))))))))))); clear BK612 BK613 HI617 HB; obtain ⟨BK612, BK613, HI617, HB, BK628, GW628, GE628, NB612_628, NB628_612, NB613_628, NB628_613, NB617_628, NB628_617⟩ := n_; clear hb hbox hg) | ((with_reducible refine gate_dst (N := 6) rfl ?_); refine hkBox (N := 6) (cs := #[.int .i64 0, .bool false, .int .i64 0, .int .i64 0]) (t := 26) ?_; intro gb629 hg w11 hbox hb; have n_ := hkA (hkBb BK612 hb) (hkA (hkBb BK613 hb) (hkA (Aside0.mk (IsS125.below (hkI125) hb)) (hkA (hkBb BK628 hb) (hkA (Aside0.mk (below_step (hkJ125) hb)) (hkA (Aside0.mk (hbox)) (hkA (Aside0.mk ((by rw [hg]; exact (below_size (hkJ125)) : w.heap.size ≤ gb629))) (hkA (Aside0.mk ((by rw [hg]; exact (below_size (hkJ125)) : w.heap.size ≤ gb629))) (hkA (hkN hg BK612) (hkA (hkM hg BK612) (hkA (hkN hg BK613) (hkA (hkM hg BK613) (hkA (hkN hg BK628) (hkA (hkM hg BK628) (hkA (Aside0.mk ((by rw [hg]; exact Nat.ne_of_lt (IsS125.lt (show IsS125 w _ g617 t614 t626 t627 from hkI125)) : g617 ≠ gb629))) (Aside0.mk ((by rw [hg]; exact Nat.ne_of_gt (IsS125.lt (show IsS125 w _ g617 t614 t626 t627 from hkI125)) : gb629 ≠ g617))))))))))))))))); clear BK612 BK613 HI617 BK628 HB; obtain ⟨BK612, BK613, HI617, BK628, HB, BK629, GW629, GE629, NB612_629, NB629_612, NB613_629, NB629_613, NB628_629, NB629_628, NB617_629, NB629_617⟩ := n_; clear hb hbox hg; have hnb12 := NB628_612.out; have hnc12 := NB612_628.out; have hnb13 := NB628_613.out; have hnc13 := NB613_628.out; have hnb14 := NB628_629.out; have hnc14 := NB629_628.out; have hnb15 := NB628_617.out; have hnc15 := NB617_628.out; obtain ⟨hcz16_0, hfz16_0, hcz16_1, hfz16_1, hcz16_2, hfz16_2, hcz16_3, hfz16_3⟩ := hkc4 BK628; have hnb17 := NB629_612.out; have hnc17 := NB612_629.out; have hnb18 := NB629_613.out; have hnc18 := NB613_629.out; have hnb19 := NB629_617.out; have hnc19 := NB617_629.out; obtain ⟨hcz20_0, hfz20_0, hcz20_1, hfz20_1, hcz20_2, hfz20_2, hcz20_3, hfz20_3⟩ := hkc4 BK629) | ((with_reducible refine gate_callee (f := 83) rfl ?_); refine hkGo (N := some 15) Try.func83 #[.pointer (some ⟨g617, 0, none⟩), .int .i64 3] ?_; (with_reducible refine (spec_l1Once.calls g617 t614 t626 t627 3 true t631 t632 w _ ?side1 ?side2 A4.out).mono ?_); (case side1 => exact hkI125); (case side2 => exact hkJ125); rintro e w21 ⟨rfl, hi, hb, hk⟩; refine ⟨_, rfl, ?_⟩; have n_ := hkA (Aside0.mk (KeepBut.blk hk (g' := gb612) (o := .cells #[.int .i64 0, .bool false, .int .i64 0, .int .i64 0] 26 (0, 0)) hkPp NB612_617.out (by simp))) (hkA (Aside0.mk (KeepBut.blk hk (g' := gb613) (o := .cells #[.int .i64 0, .bool false, .int .i64 0, .int .i64 0] 26 (0, 0)) hkPp NB613_617.out (by simp))) (hkA (Aside0.mk (KeepBut.blk hk (g' := gb628) (o := .cells #[.int .i64 t618, .bool t619, .int .i64 t620, .int .i64 t621] 26 (0, 0)) hkPp NB628_617.out (by simp))) (hkA (Aside0.mk (KeepBut.blk hk (g' := gb629) (o := .cells #[.int .i64 t622, .bool t623, .int .i64 t624, .int .i64 t625] 26 (0, 0)) hkPp NB629_617.out (by simp))) (hkA (Aside0.mk (hb)) (Aside0.mk (hi)))))); clear BK612 BK613 BK628 BK629 HB HI617; obtain ⟨BK612, BK613, BK628, BK629, HB, HI617⟩ := n_; (try clear hb); (try clear hb2); (try clear hk); (try clear hi)))
  have n0_ := Aside0.mk (blk_drew BK612.out)
  have n1_ := Aside0.mk (blk_drew BK613.out)
  have n2_ := Aside0.mk (blk_drew BK628.out)
  have n3_ := Aside0.mk (blk_drew BK629.out)
  have n4_ := Aside0.mk (IsS125.drew HI617.out)
  have n5_ := Aside0.mk (below_drew1 HB.out)
  clear BK612
  clear BK613
  clear BK628
  clear BK629
  clear HI617
  clear HB
  have BK612 := n0_
  have BK613 := n1_
  have BK628 := n2_
  have BK629 := n3_
  have HI617 := n4_
  have HB := n5_
  clear n0_ n1_ n2_ n3_ n4_ n5_
  refine start_ (n := 4) (S := fun w' => w'.cell? ⟨gb628, 0, none⟩ = some (.int .i64 t618) ∧ w'.cell? ⟨gb628, 1, none⟩ = some (.bool t619) ∧ w'.cell? ⟨gb628, 2, none⟩ = some (.int .i64 t620) ∧ w'.cell? ⟨gb628, 3, none⟩ = some (.int .i64 t621)) (ds := []) #[false, false, false, false] (by kernel_rfl) rfl rfl ⟨(blk_cell BK628.out 0).trans rfl, (blk_cell BK628.out 1).trans rfl, (blk_cell BK628.out 2).trans rfl, (blk_cell BK628.out 3).trans rfl⟩ (fun hHeld => ?_)
  generalize w21.drew = w22 at BK612 BK613 BK628 BK629 HI617 HB hHeld ⊢
  refine hkTk (i := 0) (N := some 16) hHeld ?_ (hy := by rintro w' ⟨s0, s1, s2, s3⟩; go_simp; with_reducible rfl)
  refine hkTk (i := 1) (N := some 17) hHeld ?_ (hy := by rintro w' ⟨s0, s1, s2, s3⟩; go_simp; with_reducible rfl)
  refine one_ (i := 2) (N := none) #[true, true, true, false] rfl rfl (by kernel_rfl) (by decide) (fun K hK => ?_)
  have hs23 : w22.cell? ⟨gb612, 0, none⟩ = some (.int .i64 0) := (blk_cell BK612.out 0).trans rfl
  have hfs23 := blk_frozen BK612.out 0
  have hns23_1 := NB613_612.out
  have hns23_2 := NB628_612.out
  have hns23_3 := NB629_612.out
  have hms23_1 := NB612_613.out
  have hms23_2 := NB612_628.out
  have hms23_3 := NB612_629.out
  have hs24 : w22.cell? ⟨gb612, 1, none⟩ = some (.bool false) := (blk_cell BK612.out 1).trans rfl
  have hfs24 := blk_frozen BK612.out 1
  have hns24_1 := NB613_612.out
  have hns24_2 := NB628_612.out
  have hns24_3 := NB629_612.out
  have hms24_1 := NB612_613.out
  have hms24_2 := NB612_628.out
  have hms24_3 := NB612_629.out
  have hs25 : w22.cell? ⟨gb612, 2, none⟩ = some (.int .i64 0) := (blk_cell BK612.out 2).trans rfl
  have hfs25 := blk_frozen BK612.out 2
  have hns25_1 := NB613_612.out
  have hns25_2 := NB628_612.out
  have hns25_3 := NB629_612.out
  have hms25_1 := NB612_613.out
  have hms25_2 := NB612_628.out
  have hms25_3 := NB612_629.out
  have hs26 : w22.cell? ⟨gb612, 3, none⟩ = some (.int .i64 0) := (blk_cell BK612.out 3).trans rfl
  have hfs26 := blk_frozen BK612.out 3
  have hns26_1 := NB613_612.out
  have hns26_2 := NB628_612.out
  have hns26_3 := NB629_612.out
  have hms26_1 := NB612_613.out
  have hms26_2 := NB612_628.out
  have hms26_3 := NB612_629.out
  refine skip_ (w1 := ?_) (by rfl) rfl ?_ ?_
  rotate_left
  ·go_simp
   rfl
  refine hK.out _ _ ⟨((cell_far (p := ⟨gb612, _, none⟩) NB628_612.out _).trans (((cell_far (p := ⟨gb612, _, none⟩) NB628_612.out _).trans (((cell_far (p := ⟨gb612, _, none⟩) NB628_612.out _).trans (((cell_far (p := ⟨gb612, _, none⟩) NB628_612.out _).trans (hHeld.1)))))))), ((cell_far (p := ⟨gb612, _, none⟩) NB628_612.out _).trans (((cell_far (p := ⟨gb612, _, none⟩) NB628_612.out _).trans (((cell_far (p := ⟨gb612, _, none⟩) NB628_612.out _).trans (((cell_far (p := ⟨gb612, _, none⟩) NB628_612.out _).trans (hHeld.2.1)))))))), ((cell_far (p := ⟨gb612, _, none⟩) NB628_612.out _).trans (((cell_far (p := ⟨gb612, _, none⟩) NB628_612.out _).trans (((cell_far (p := ⟨gb612, _, none⟩) NB628_612.out _).trans (((cell_far (p := ⟨gb612, _, none⟩) NB628_612.out _).trans (hHeld.2.2.1)))))))), ((cell_far (p := ⟨gb612, _, none⟩) NB628_612.out _).trans (((cell_far (p := ⟨gb612, _, none⟩) NB628_612.out _).trans (((cell_far (p := ⟨gb612, _, none⟩) NB628_612.out _).trans (((cell_far (p := ⟨gb612, _, none⟩) NB628_612.out _).trans (hHeld.2.2.2))))))))⟩ (fun hHeld => ?_)
  clear hK K
  refine one_ (i := 3) (N := none) #[true, true, true, true] rfl rfl (by kernel_rfl) (by decide) (fun K hK => ?_)
  have hs27 : w22.cell? ⟨gb613, 0, none⟩ = some (.int .i64 0) := (blk_cell BK613.out 0).trans rfl
  have hfs27 := blk_frozen BK613.out 0
  have hns27_0 := NB612_613.out
  have hns27_2 := NB628_613.out
  have hns27_3 := NB629_613.out
  have hms27_0 := NB613_612.out
  have hms27_2 := NB613_628.out
  have hms27_3 := NB613_629.out
  have hs28 : w22.cell? ⟨gb613, 1, none⟩ = some (.bool false) := (blk_cell BK613.out 1).trans rfl
  have hfs28 := blk_frozen BK613.out 1
  have hns28_0 := NB612_613.out
  have hns28_2 := NB628_613.out
  have hns28_3 := NB629_613.out
  have hms28_0 := NB613_612.out
  have hms28_2 := NB613_628.out
  have hms28_3 := NB613_629.out
  have hs29 : w22.cell? ⟨gb613, 2, none⟩ = some (.int .i64 0) := (blk_cell BK613.out 2).trans rfl
  have hfs29 := blk_frozen BK613.out 2
  have hns29_0 := NB612_613.out
  have hns29_2 := NB628_613.out
  have hns29_3 := NB629_613.out
  have hms29_0 := NB613_612.out
  have hms29_2 := NB613_628.out
  have hms29_3 := NB613_629.out
  have hs30 : w22.cell? ⟨gb613, 3, none⟩ = some (.int .i64 0) := (blk_cell BK613.out 3).trans rfl
  have hfs30 := blk_frozen BK613.out 3
  have hns30_0 := NB612_613.out
  have hns30_2 := NB628_613.out
  have hns30_3 := NB629_613.out
  have hms30_0 := NB613_612.out
  have hms30_2 := NB613_628.out
  have hms30_3 := NB613_629.out
  refine skip_ (w1 := ?_) (by rfl) rfl ?_ ?_
  rotate_left
  ·go_simp
   rfl
  refine hK.out _ _ ⟨((cell_far (p := ⟨gb613, _, none⟩) NB628_613.out _).trans (((cell_far (p := ⟨gb613, _, none⟩) NB628_613.out _).trans (((cell_far (p := ⟨gb613, _, none⟩) NB628_613.out _).trans (((cell_far (p := ⟨gb613, _, none⟩) NB628_613.out _).trans (hHeld.1)))))))), ((cell_far (p := ⟨gb613, _, none⟩) NB628_613.out _).trans (((cell_far (p := ⟨gb613, _, none⟩) NB628_613.out _).trans (((cell_far (p := ⟨gb613, _, none⟩) NB628_613.out _).trans (((cell_far (p := ⟨gb613, _, none⟩) NB628_613.out _).trans (hHeld.2.1)))))))), ((cell_far (p := ⟨gb613, _, none⟩) NB628_613.out _).trans (((cell_far (p := ⟨gb613, _, none⟩) NB628_613.out _).trans (((cell_far (p := ⟨gb613, _, none⟩) NB628_613.out _).trans (((cell_far (p := ⟨gb613, _, none⟩) NB628_613.out _).trans (hHeld.2.2.1)))))))), ((cell_far (p := ⟨gb613, _, none⟩) NB628_613.out _).trans (((cell_far (p := ⟨gb613, _, none⟩) NB628_613.out _).trans (((cell_far (p := ⟨gb613, _, none⟩) NB628_613.out _).trans (((cell_far (p := ⟨gb613, _, none⟩) NB628_613.out _).trans (hHeld.2.2.2))))))))⟩ (fun hHeld => ?_)
  clear hK K
  refine done_ (by kernel_rfl) ?_
  try go_wp2
  refine bodyPost_ret (results_cc rfl _ _ gb612 gb613 26 26 #[.int .i64 t618, .bool t619, .int .i64 t620, .int .i64 t621] #[.int .i64 t618, .bool t619, .int .i64 t620, .int .i64 t621] (0, 0) (0, 0) _ _ rfl hkPp Try.underlying26 rfl (by kernel_rfl) rfl hkPp Try.underlying26 rfl (by kernel_rfl)) rfl ?_
  exact ⟨hkE, hkJ125⟩
 ·replace c5 := Bool.eq_false_iff.mpr c5
  subst c5
  have H1 : (some (t618, t619, t620, t621, t622, t623, t624, t625)) = some (r1, r2, r3, r4, r5, r6, r7, r8) := by rw [if_neg (show ¬ (false = true) by decide)] at H; exact H
  clear H
  have H := H1
  clear H1
  simp only [Option.some.injEq, Prod.mk.injEq] at H
  obtain ⟨rfl, rfl, rfl, rfl, rfl, rfl, rfl, rfl⟩ := H
  go_enter Try.func41, Try.ntmps41
  try go_wp2_with (first | ((with_reducible refine gate_dst (N := 2) rfl ?_); refine hkBox (N := 2) (cs := #[.int .i64 0, .bool false, .int .i64 0, .int .i64 0]) (t := 26) ?_; intro gb612 hg w31 hbox hb; have n_ := hkA (hkU HB hb) (hkA (Aside0.mk (hbox)) (hkA (hkG hg (hkS HB)) (hkG hg (hkS HB)))); clear HB; obtain ⟨HB, BK612, GW612, GE612⟩ := n_; clear hb hbox hg) | ((with_reducible refine gate_dst (N := 3) rfl ?_); refine hkBox (N := 3) (cs := #[.int .i64 0, .bool false, .int .i64 0, .int .i64 0]) (t := 26) ?_; intro gb613 hg w32 hbox hb; have n_ := hkA (hkBb BK612 hb) (hkA (hkU HB hb) (hkA (Aside0.mk (hbox)) (hkA (hkG hg (hkS HB)) (hkA (hkG hg (hkS HB)) (hkA (hkN hg BK612) (hkM hg BK612)))))); clear BK612 HB; obtain ⟨BK612, HB, BK613, GW613, GE613, NB612_613, NB613_612⟩ := n_; clear hb hbox hg) | ((with_reducible refine gate_callee (f := 54) rfl ?_); refine hkGo (N := some 8) Try.func54 #[.slice A0 l0.length c0] ?_; (with_reducible refine (spec_l1New.calls k _ _ l0 t614 t615 t616 w _ ?side1 ?side2 ?side3 A2.out).mono ?_); (case side1 => exact hkS HB); (case side2 => exact HR0.out); (case side3 => exact HC0.out); rintro e w33 ⟨g617, rfl, hi, hb, hb2⟩; refine ⟨_, rfl, ?_⟩; have n_ := hkA (Aside0.mk (blk_below (g := gb612) (o := .cells #[.int .i64 0, .bool false, .int .i64 0, .int .i64 0] 26 (0, 0)) (hkB BK612) hb2)) (hkA (Aside0.mk (blk_below (g := gb613) (o := .cells #[.int .i64 0, .bool false, .int .i64 0, .int .i64 0] 26 (0, 0)) (hkB BK613) hb2)) (hkA (Aside0.mk (hb)) (hkA (Aside0.mk (hi)) (hkA (Aside0.mk (IsS125.ne_blk hi (blk_below (g := gb612) (o := .cells #[.int .i64 0, .bool false, .int .i64 0, .int .i64 0] 26 (0, 0)) (hkB BK612) hb2) (by decide))) (hkA (Aside0.mk (Ne.symm (IsS125.ne_blk hi (blk_below (g := gb612) (o := .cells #[.int .i64 0, .bool false, .int .i64 0, .int .i64 0] 26 (0, 0)) (hkB BK612) hb2) (by decide)))) (hkA (Aside0.mk (IsS125.ne_blk hi (blk_below (g := gb613) (o := .cells #[.int .i64 0, .bool false, .int .i64 0, .int .i64 0] 26 (0, 0)) (hkB BK613) hb2) (by decide))) (Aside0.mk (Ne.symm (IsS125.ne_blk hi (blk_below (g := gb613) (o := .cells #[.int .i64 0, .bool false, .int .i64 0, .int .i64 0] 26 (0, 0)) (hkB BK613) hb2) (by decide)))))))))); clear BK612 BK613 HB; obtain ⟨BK612, BK613, HB, HI617, NB617_612, NB612_617, NB617_613, NB613_617⟩ := n_; (try clear hb); (try clear hb2); (try clear hk); (try clear hi)) | ((with_reducible refine gate_callee (f := 82) rfl ?_); refine hkGo (N := some 11) Try.func82 #[.pointer (some ⟨g617, 0, none⟩)] ?_; (with_reducible refine (spec_l5pair.calls k g617 t614 t615 t616 t618 t619 t620 t621 t622 t623 t624 t625 t626 t627 w _ ?side1 ?side2 A3.out).mono ?_); (case side1 => exact hkI125); (case side2 => exact hkJ125); rintro e w34 ⟨rfl, hi, hb, hk⟩; refine ⟨_, rfl, ?_⟩; have n_ := hkA (Aside0.mk (KeepBut.blk hk (g' := gb612) (o := .cells #[.int .i64 0, .bool false, .int .i64 0, .int .i64 0] 26 (0, 0)) (hkB BK612) NB612_617.out (by simp))) (hkA (Aside0.mk (KeepBut.blk hk (g' := gb613) (o := .cells #[.int .i64 0, .bool false, .int .i64 0, .int .i64 0] 26 (0, 0)) (hkB BK613) NB613_617.out (by simp))) (hkA (Aside0.mk (hb)) (Aside0.mk (hi)))); clear BK612 BK613 HB HI617; obtain ⟨BK612, BK613, HB, HI617⟩ := n_; (try clear hb); (try clear hb2); (try clear hk); (try clear hi)) | ((with_reducible refine gate_dst (N := 5) rfl ?_); refine hkBox (N := 5) (cs := #[.int .i64 0, .bool false, .int .i64 0, .int .i64 0]) (t := 26) ?_; intro gb628 hg w35 hbox hb; have n_ := hkA (hkBb BK612 hb) (hkA (hkBb BK613 hb) (hkA (Aside0.mk (IsS125.below (hkI125) hb)) (hkA (Aside0.mk (below_step (hkJ125) hb)) (hkA (Aside0.mk (hbox)) (hkA (Aside0.mk ((by rw [hg]; exact (below_size (hkJ125)) : w.heap.size ≤ gb628))) (hkA (Aside0.mk ((by rw [hg]; exact (below_size (hkJ125)) : w.heap.size ≤ gb628))) (hkA (hkN hg BK612) (hkA (hkM hg BK612) (hkA (hkN hg BK613) (hkA (hkM hg BK613) (hkA (Aside0.mk ((by rw [hg]; exact Nat.ne_of_lt (IsS125.lt (show IsS125 w _ g617 t614 t626 t627 from hkI125)) : g617 ≠ gb628))) (Aside0.mk ((by rw [hg]; exact Nat.ne_of_gt (IsS125.lt (show IsS125 w _ g617 t614 t626 t627 from hkI125)) : gb628 ≠ g617)))))))))))))); clear BK612 BK613 HI617 HB; obtain ⟨BK612, BK613, HI617, HB, BK628, GW628, GE628, NB612_628, NB628_612, NB613_628, NB628_613, NB617_628, NB628_617⟩ := n_; clear hb hbox hg) | ((with_reducible refine gate_dst (N := 6) rfl ?_); refine hkBox (N := 6) (cs := #[.int .i64 0, .bool false, .int .i64 0, .int .i64 0]) (t := 26) ?_; intro gb629 hg w36 hbox hb; have n_ := hkA (hkBb BK612 hb) (hkA (hkBb BK613 hb) (hkA (Aside0.mk (IsS125.below (hkI125) hb)) (hkA (hkBb BK628 hb) (hkA (Aside0.mk (below_step (hkJ125) hb)) (hkA (Aside0.mk (hbox)) (hkA (Aside0.mk ((by rw [hg]; exact (below_size (hkJ125)) : w.heap.size ≤ gb629))) (hkA (Aside0.mk ((by rw [hg]; exact (below_size (hkJ125)) : w.heap.size ≤ gb629))) (hkA (hkN hg BK612) (hkA (hkM hg BK612) (hkA (hkN hg BK613) (hkA (hkM hg BK613) (hkA (hkN hg BK628) (hkA (hkM hg BK628) (hkA (Aside0.mk ((by rw [hg]; exact Nat.ne_of_lt (IsS125.lt (show IsS125 w _ g617 t614 t626 t627 from hkI125)) : g617 ≠ gb629))) (Aside0.mk ((by rw [hg]; exact Nat.ne_of_gt (IsS125.lt (show IsS125 w _ g617 t614 t626 t627 from hkI125)) : gb629 ≠ g617))))))))))))))))); clear BK612 BK613 HI617 BK628 HB; obtain ⟨BK612, BK613, HI617, BK628, HB, BK629, GW629, GE629, NB612_629, NB629_612, NB613_629, NB629_613, NB628_629, NB629_628, NB617_629, NB629_617⟩ := n_; clear hb hbox hg; have hnb37 := NB628_612.out; have hnc37 := NB612_628.out; have hnb38 := NB628_613.out; have hnc38 := NB613_628.out; have hnb39 := NB628_629.out; have hnc39 := NB629_628.out; have hnb40 := NB628_617.out; have hnc40 := NB617_628.out; obtain ⟨hcz41_0, hfz41_0, hcz41_1, hfz41_1, hcz41_2, hfz41_2, hcz41_3, hfz41_3⟩ := hkc4 BK628; have hnb42 := NB629_612.out; have hnc42 := NB612_629.out; have hnb43 := NB629_613.out; have hnc43 := NB613_629.out; have hnb44 := NB629_617.out; have hnc44 := NB617_629.out; obtain ⟨hcz45_0, hfz45_0, hcz45_1, hfz45_1, hcz45_2, hfz45_2, hcz45_3, hfz45_3⟩ := hkc4 BK629) | ((with_reducible refine gate_callee (f := 83) rfl ?_); refine hkGo (N := some 15) Try.func83 #[.pointer (some ⟨g617, 0, none⟩), .int .i64 3] ?_; (with_reducible refine (spec_l1Once.calls g617 t614 t626 t627 3 false t631 t632 w _ ?side1 ?side2 A4.out).mono ?_); (case side1 => exact hkI125); (case side2 => exact hkJ125); rintro e w46 ⟨rfl, hi, hb, hk⟩; refine ⟨_, rfl, ?_⟩; have n_ := hkA (Aside0.mk (KeepBut.blk hk (g' := gb612) (o := .cells #[.int .i64 0, .bool false, .int .i64 0, .int .i64 0] 26 (0, 0)) hkPp NB612_617.out (by simp))) (hkA (Aside0.mk (KeepBut.blk hk (g' := gb613) (o := .cells #[.int .i64 0, .bool false, .int .i64 0, .int .i64 0] 26 (0, 0)) hkPp NB613_617.out (by simp))) (hkA (Aside0.mk (KeepBut.blk hk (g' := gb628) (o := .cells #[.int .i64 t618, .bool t619, .int .i64 t620, .int .i64 t621] 26 (0, 0)) hkPp NB628_617.out (by simp))) (hkA (Aside0.mk (KeepBut.blk hk (g' := gb629) (o := .cells #[.int .i64 t622, .bool t623, .int .i64 t624, .int .i64 t625] 26 (0, 0)) hkPp NB629_617.out (by simp))) (hkA (Aside0.mk (hb)) (Aside0.mk (hi)))))); clear BK612 BK613 BK628 BK629 HB HI617; obtain ⟨BK612, BK613, BK628, BK629, HB, HI617⟩ := n_; (try clear hb); (try clear hb2); (try clear hk); (try clear hi)))
  have n0_ := Aside0.mk (blk_drew BK612.out)
  have n1_ := Aside0.mk (blk_drew BK613.out)
  have n2_ := Aside0.mk (blk_drew BK628.out)
  have n3_ := Aside0.mk (blk_drew BK629.out)
  have n4_ := Aside0.mk (IsS125.drew HI617.out)
  have n5_ := Aside0.mk (below_drew1 HB.out)
  clear BK612
  clear BK613
  clear BK628
  clear BK629
  clear HI617
  clear HB
  have BK612 := n0_
  have BK613 := n1_
  have BK628 := n2_
  have BK629 := n3_
  have HI617 := n4_
  have HB := n5_
  clear n0_ n1_ n2_ n3_ n4_ n5_
  refine start_ (n := 4) (S := fun w' => w'.cell? ⟨gb628, 0, none⟩ = some (.int .i64 t618) ∧ w'.cell? ⟨gb628, 1, none⟩ = some (.bool t619) ∧ w'.cell? ⟨gb628, 2, none⟩ = some (.int .i64 t620) ∧ w'.cell? ⟨gb628, 3, none⟩ = some (.int .i64 t621) ∧ w'.cell? ⟨gb629, 0, none⟩ = some (.int .i64 t622) ∧ w'.cell? ⟨gb629, 1, none⟩ = some (.bool t623) ∧ w'.cell? ⟨gb629, 2, none⟩ = some (.int .i64 t624) ∧ w'.cell? ⟨gb629, 3, none⟩ = some (.int .i64 t625)) (ds := []) #[false, false, false, false] (by kernel_rfl) rfl rfl ⟨(blk_cell BK628.out 0).trans rfl, (blk_cell BK628.out 1).trans rfl, (blk_cell BK628.out 2).trans rfl, (blk_cell BK628.out 3).trans rfl, (blk_cell BK629.out 0).trans rfl, (blk_cell BK629.out 1).trans rfl, (blk_cell BK629.out 2).trans rfl, (blk_cell BK629.out 3).trans rfl⟩ (fun hHeld => ?_)
  generalize w46.drew = w47 at BK612 BK613 BK628 BK629 HI617 HB hHeld ⊢
  refine hkTk (i := 0) (N := some 18) hHeld ?_ (hy := by rintro w' ⟨s0, s1, s2, s3, s4, s5, s6, s7⟩; go_simp; with_reducible rfl)
  refine hkTk (i := 1) (N := some 19) hHeld ?_ (hy := by rintro w' ⟨s0, s1, s2, s3, s4, s5, s6, s7⟩; go_simp; with_reducible rfl)
  refine one_ (i := 2) (N := none) #[true, true, true, false] rfl rfl (by kernel_rfl) (by decide) (fun K hK => ?_)
  have hs48 : w47.cell? ⟨gb612, 0, none⟩ = some (.int .i64 0) := (blk_cell BK612.out 0).trans rfl
  have hfs48 := blk_frozen BK612.out 0
  have hns48_1 := NB613_612.out
  have hns48_2 := NB628_612.out
  have hns48_3 := NB629_612.out
  have hms48_1 := NB612_613.out
  have hms48_2 := NB612_628.out
  have hms48_3 := NB612_629.out
  have hs49 : w47.cell? ⟨gb612, 1, none⟩ = some (.bool false) := (blk_cell BK612.out 1).trans rfl
  have hfs49 := blk_frozen BK612.out 1
  have hns49_1 := NB613_612.out
  have hns49_2 := NB628_612.out
  have hns49_3 := NB629_612.out
  have hms49_1 := NB612_613.out
  have hms49_2 := NB612_628.out
  have hms49_3 := NB612_629.out
  have hs50 : w47.cell? ⟨gb612, 2, none⟩ = some (.int .i64 0) := (blk_cell BK612.out 2).trans rfl
  have hfs50 := blk_frozen BK612.out 2
  have hns50_1 := NB613_612.out
  have hns50_2 := NB628_612.out
  have hns50_3 := NB629_612.out
  have hms50_1 := NB612_613.out
  have hms50_2 := NB612_628.out
  have hms50_3 := NB612_629.out
  have hs51 : w47.cell? ⟨gb612, 3, none⟩ = some (.int .i64 0) := (blk_cell BK612.out 3).trans rfl
  have hfs51 := blk_frozen BK612.out 3
  have hns51_1 := NB613_612.out
  have hns51_2 := NB628_612.out
  have hns51_3 := NB629_612.out
  have hms51_1 := NB612_613.out
  have hms51_2 := NB612_628.out
  have hms51_3 := NB612_629.out
  refine skip_ (w1 := ?_) (by rfl) rfl ?_ ?_
  rotate_left
  ·go_simp
   rfl
  refine hK.out _ _ ⟨((cell_far (p := ⟨gb612, _, none⟩) NB628_612.out _).trans (((cell_far (p := ⟨gb612, _, none⟩) NB628_612.out _).trans (((cell_far (p := ⟨gb612, _, none⟩) NB628_612.out _).trans (((cell_far (p := ⟨gb612, _, none⟩) NB628_612.out _).trans (hHeld.1)))))))), ((cell_far (p := ⟨gb612, _, none⟩) NB628_612.out _).trans (((cell_far (p := ⟨gb612, _, none⟩) NB628_612.out _).trans (((cell_far (p := ⟨gb612, _, none⟩) NB628_612.out _).trans (((cell_far (p := ⟨gb612, _, none⟩) NB628_612.out _).trans (hHeld.2.1)))))))), ((cell_far (p := ⟨gb612, _, none⟩) NB628_612.out _).trans (((cell_far (p := ⟨gb612, _, none⟩) NB628_612.out _).trans (((cell_far (p := ⟨gb612, _, none⟩) NB628_612.out _).trans (((cell_far (p := ⟨gb612, _, none⟩) NB628_612.out _).trans (hHeld.2.2.1)))))))), ((cell_far (p := ⟨gb612, _, none⟩) NB628_612.out _).trans (((cell_far (p := ⟨gb612, _, none⟩) NB628_612.out _).trans (((cell_far (p := ⟨gb612, _, none⟩) NB628_612.out _).trans (((cell_far (p := ⟨gb612, _, none⟩) NB628_612.out _).trans (hHeld.2.2.2.1)))))))), ((cell_far (p := ⟨gb612, _, none⟩) NB629_612.out _).trans (((cell_far (p := ⟨gb612, _, none⟩) NB629_612.out _).trans (((cell_far (p := ⟨gb612, _, none⟩) NB629_612.out _).trans (((cell_far (p := ⟨gb612, _, none⟩) NB629_612.out _).trans (hHeld.2.2.2.2.1)))))))), ((cell_far (p := ⟨gb612, _, none⟩) NB629_612.out _).trans (((cell_far (p := ⟨gb612, _, none⟩) NB629_612.out _).trans (((cell_far (p := ⟨gb612, _, none⟩) NB629_612.out _).trans (((cell_far (p := ⟨gb612, _, none⟩) NB629_612.out _).trans (hHeld.2.2.2.2.2.1)))))))), ((cell_far (p := ⟨gb612, _, none⟩) NB629_612.out _).trans (((cell_far (p := ⟨gb612, _, none⟩) NB629_612.out _).trans (((cell_far (p := ⟨gb612, _, none⟩) NB629_612.out _).trans (((cell_far (p := ⟨gb612, _, none⟩) NB629_612.out _).trans (hHeld.2.2.2.2.2.2.1)))))))), ((cell_far (p := ⟨gb612, _, none⟩) NB629_612.out _).trans (((cell_far (p := ⟨gb612, _, none⟩) NB629_612.out _).trans (((cell_far (p := ⟨gb612, _, none⟩) NB629_612.out _).trans (((cell_far (p := ⟨gb612, _, none⟩) NB629_612.out _).trans (hHeld.2.2.2.2.2.2.2))))))))⟩ (fun hHeld => ?_)
  clear hK K
  refine one_ (i := 3) (N := none) #[true, true, true, true] rfl rfl (by kernel_rfl) (by decide) (fun K hK => ?_)
  have hs52 : w47.cell? ⟨gb613, 0, none⟩ = some (.int .i64 0) := (blk_cell BK613.out 0).trans rfl
  have hfs52 := blk_frozen BK613.out 0
  have hns52_0 := NB612_613.out
  have hns52_2 := NB628_613.out
  have hns52_3 := NB629_613.out
  have hms52_0 := NB613_612.out
  have hms52_2 := NB613_628.out
  have hms52_3 := NB613_629.out
  have hs53 : w47.cell? ⟨gb613, 1, none⟩ = some (.bool false) := (blk_cell BK613.out 1).trans rfl
  have hfs53 := blk_frozen BK613.out 1
  have hns53_0 := NB612_613.out
  have hns53_2 := NB628_613.out
  have hns53_3 := NB629_613.out
  have hms53_0 := NB613_612.out
  have hms53_2 := NB613_628.out
  have hms53_3 := NB613_629.out
  have hs54 : w47.cell? ⟨gb613, 2, none⟩ = some (.int .i64 0) := (blk_cell BK613.out 2).trans rfl
  have hfs54 := blk_frozen BK613.out 2
  have hns54_0 := NB612_613.out
  have hns54_2 := NB628_613.out
  have hns54_3 := NB629_613.out
  have hms54_0 := NB613_612.out
  have hms54_2 := NB613_628.out
  have hms54_3 := NB613_629.out
  have hs55 : w47.cell? ⟨gb613, 3, none⟩ = some (.int .i64 0) := (blk_cell BK613.out 3).trans rfl
  have hfs55 := blk_frozen BK613.out 3
  have hns55_0 := NB612_613.out
  have hns55_2 := NB628_613.out
  have hns55_3 := NB629_613.out
  have hms55_0 := NB613_612.out
  have hms55_2 := NB613_628.out
  have hms55_3 := NB613_629.out
  refine skip_ (w1 := ?_) (by rfl) rfl ?_ ?_
  rotate_left
  ·go_simp
   rfl
  refine hK.out _ _ ⟨((cell_far (p := ⟨gb613, _, none⟩) NB628_613.out _).trans (((cell_far (p := ⟨gb613, _, none⟩) NB628_613.out _).trans (((cell_far (p := ⟨gb613, _, none⟩) NB628_613.out _).trans (((cell_far (p := ⟨gb613, _, none⟩) NB628_613.out _).trans (hHeld.1)))))))), ((cell_far (p := ⟨gb613, _, none⟩) NB628_613.out _).trans (((cell_far (p := ⟨gb613, _, none⟩) NB628_613.out _).trans (((cell_far (p := ⟨gb613, _, none⟩) NB628_613.out _).trans (((cell_far (p := ⟨gb613, _, none⟩) NB628_613.out _).trans (hHeld.2.1)))))))), ((cell_far (p := ⟨gb613, _, none⟩) NB628_613.out _).trans (((cell_far (p := ⟨gb613, _, none⟩) NB628_613.out _).trans (((cell_far (p := ⟨gb613, _, none⟩) NB628_613.out _).trans (((cell_far (p := ⟨gb613, _, none⟩) NB628_613.out _).trans (hHeld.2.2.1)))))))), ((cell_far (p := ⟨gb613, _, none⟩) NB628_613.out _).trans (((cell_far (p := ⟨gb613, _, none⟩) NB628_613.out _).trans (((cell_far (p := ⟨gb613, _, none⟩) NB628_613.out _).trans (((cell_far (p := ⟨gb613, _, none⟩) NB628_613.out _).trans (hHeld.2.2.2.1)))))))), ((cell_far (p := ⟨gb613, _, none⟩) NB629_613.out _).trans (((cell_far (p := ⟨gb613, _, none⟩) NB629_613.out _).trans (((cell_far (p := ⟨gb613, _, none⟩) NB629_613.out _).trans (((cell_far (p := ⟨gb613, _, none⟩) NB629_613.out _).trans (hHeld.2.2.2.2.1)))))))), ((cell_far (p := ⟨gb613, _, none⟩) NB629_613.out _).trans (((cell_far (p := ⟨gb613, _, none⟩) NB629_613.out _).trans (((cell_far (p := ⟨gb613, _, none⟩) NB629_613.out _).trans (((cell_far (p := ⟨gb613, _, none⟩) NB629_613.out _).trans (hHeld.2.2.2.2.2.1)))))))), ((cell_far (p := ⟨gb613, _, none⟩) NB629_613.out _).trans (((cell_far (p := ⟨gb613, _, none⟩) NB629_613.out _).trans (((cell_far (p := ⟨gb613, _, none⟩) NB629_613.out _).trans (((cell_far (p := ⟨gb613, _, none⟩) NB629_613.out _).trans (hHeld.2.2.2.2.2.2.1)))))))), ((cell_far (p := ⟨gb613, _, none⟩) NB629_613.out _).trans (((cell_far (p := ⟨gb613, _, none⟩) NB629_613.out _).trans (((cell_far (p := ⟨gb613, _, none⟩) NB629_613.out _).trans (((cell_far (p := ⟨gb613, _, none⟩) NB629_613.out _).trans (hHeld.2.2.2.2.2.2.2))))))))⟩ (fun hHeld => ?_)
  clear hK K
  refine done_ (by kernel_rfl) ?_
  try go_wp2
  refine bodyPost_ret (results_cc rfl _ _ gb612 gb613 26 26 #[.int .i64 t618, .bool t619, .int .i64 t620, .int .i64 t621] #[.int .i64 t622, .bool t623, .int .i64 t624, .int .i64 t625] (0, 0) (0, 0) _ _ rfl hkPp Try.underlying26 rfl (by kernel_rfl) rfl hkPp Try.underlying26 rfl (by kernel_rfl)) rfl ?_
  exact ⟨hkE, hkJ125⟩

end Go.Proofs.Ytgjpahofopoflaa.PFnPacks
