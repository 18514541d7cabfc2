-- Written by our own driver (wip/hand/hprint.py) over the seat's translation.
import Derived.Test.YtgjpahofopoflaaPFnPacksx0
import Derived.Test.YtgjpahofopoflaaPFnPacksx10
import Derived.Test.YtgjpahofopoflaaPFnPacksx11
import Derived.Test.YtgjpahofopoflaaPFnPacksx26
import Derived.Test.YtgjpahofopoflaaPFnPacksx29
import Derived.Test.YtgjpahofopoflaaPFnPacksx30
namespace Go.Proofs.Ytgjpahofopoflaa.PFnPacks
open Go.RowKit Go.Proofs.YtgjpahofopoflaaW.PrintWords Go.Proofs.YtgjpahofopoflaaW.PrintLast Go.Proofs.YtgjpahofopoflaaW.PrintMore
attribute [local go_sem] max2_int min2_int max_two min_two max_three min_three max_four min_four   -- for this text's walks alone
set_option linter.unusedVariables false
set_option linter.unusedSimpArgs false

/-! ### spec_l5pair: function 82 -/
def spec_l5pair.f (k : Nat) (s0_0 : List Int) (s0_1 : Int) (s0_2 : Int) : Option (Int × Bool × Int × Int × Int × Bool × Int × Int × Int × Int) := (spec_l5bent.f k s0_0 s0_1 s0_2).bind fun bt588 => ((spec_l1Once.f s0_0 bt588.2.2.2.2.1 bt588.2.2.2.2.2 4).bind fun bt595 => (if bt595.1 = true then ((spec_FlNext.f k bt588.1 bt588.2.1 bt588.2.2.1 bt588.2.2.2.1).bind fun bt598 => ((spec_l5neg.f bt598.1 bt598.2.1 bt598.2.2.1 bt598.2.2.2).bind fun bt602 => (some (bt588.1, bt588.2.1, bt588.2.2.1, bt588.2.2.2.1, bt602.1, bt602.2.1, bt602.2.2.1, bt602.2.2.2, bt595.2.1, bt595.2.2)))) else ((spec_l5bent.f k s0_0 bt595.2.1 bt595.2.2).bind fun bt606 => (some (bt588.1, bt588.2.1, bt588.2.2.1, bt588.2.2.2.1, bt606.1, bt606.2.1, bt606.2.2.1, bt606.2.2.2.1, bt606.2.2.2.2.1, bt606.2.2.2.2.2)))))
theorem spec_l5pair.mono : ∀ a0 a1 a2 k, LeO (spec_l5pair.f k a0 a1 a2) (spec_l5pair.f (k + 1) a0 a1 a2) := by
 intro a0 a1 a2 k
 unfold spec_l5pair.f
 repeat' first
   | (with_reducible exact spec_FlNext.mono _ _ _ _ _)
   | (with_reducible exact spec_l5bent.mono _ _ _ _)
   | (with_reducible exact LeO.refl _)
   | (with_reducible exact LeO.none _)
   | (with_reducible refine LeO.ite ?_ ?_)
   | (with_reducible refine LeO.bind ?_ (fun _ => ?_))
   | exact spec_FlNext.mono _ _ _ _ _
   | exact spec_l5bent.mono _ _ _ _
   | exact LeO.none _
   | refine LeO.ite ?_ ?_
   | refine LeO.bind ?_ (fun _ => ?_)
set_option maxHeartbeats 8000000 in
set_option maxRecDepth 100000 in
theorem spec_l5pair.calls (k : Nat) (g : Nat) (s0_0 : List Int) (s0_1 : Int) (s0_2 : Int) (r1 : Int) (r2 : Bool) (r3 : Int) (r4 : Int) (r5 : Int) (r6 : Bool) (r7 : Int) (r8 : Int) (r9 : Int) (r10 : Int) (w0 w : World) (hI : IsS125 w0 w g s0_0 s0_1 s0_2) (hB : Below w0.heap.size w0 w) (h : spec_l5pair.f k s0_0 s0_1 s0_2 = some (r1, r2, r3, r4, r5, r6, r7, r8, r9, r10)) :
  Calls Try.prog 82 #[.pointer (some ⟨g, 0, none⟩)] w fun e w' => e = .returned (.tuple #[.agg #[.int .i64 r1, .bool r2, .int .i64 r3, .int .i64 r4], .agg #[.int .i64 r5, .bool r6, .int .i64 r7, .int .i64 r8]]) ∧ IsS125 w0 w' g s0_0 r9 r10 ∧ Below w0.heap.size w0 w' ∧ KeepBut w w' g none := by
 have hu26 := Try.underlying26
 have HI0 := Aside0.mk hI
 have HK := Aside0.mk (KeepBut.refl w g none)
 have HL := Aside0.mk hB.size
 clear hI
 have HW0 := Aside0.mk hB.size
 have HB := Aside0.mk hB
 clear hB
 have H : ((spec_l5bent.f k s0_0 s0_1 s0_2).bind fun bt588 => ((spec_l1Once.f s0_0 bt588.2.2.2.2.1 bt588.2.2.2.2.2 4).bind fun bt595 => (if bt595.1 = true then ((spec_FlNext.f k bt588.1 bt588.2.1 bt588.2.2.1 bt588.2.2.2.1).bind fun bt598 => ((spec_l5neg.f bt598.1 bt598.2.1 bt598.2.2.1 bt598.2.2.2).bind fun bt602 => (some (bt588.1, bt588.2.1, bt588.2.2.1, bt588.2.2.2.1, bt602.1, bt602.2.1, bt602.2.2.1, bt602.2.2.2, bt595.2.1, bt595.2.2)))) else ((spec_l5bent.f k s0_0 bt595.2.1 bt595.2.2).bind fun bt606 => (some (bt588.1, bt588.2.1, bt588.2.2.1, bt588.2.2.2.1, bt606.1, bt606.2.1, bt606.2.2.1, bt606.2.2.2.1, bt606.2.2.2.2.1, bt606.2.2.2.2.2)))))) = some (r1, r2, r3, r4, r5, r6, r7, r8, r9, r10) := h
 clear h
 replace H := hBi H
 obtain ⟨⟨t588, t589, t590, t591, t592, t593⟩, A20, H⟩ := H
 replace H : ((spec_l1Once.f s0_0 t592 t593 4).bind fun bt595 => (if bt595.1 = true then ((spec_FlNext.f k t588 t589 t590 t591).bind fun bt598 => ((spec_l5neg.f bt598.1 bt598.2.1 bt598.2.2.1 bt598.2.2.2).bind fun bt602 => (some (t588, t589, t590, t591, bt602.1, bt602.2.1, bt602.2.2.1, bt602.2.2.2, bt595.2.1, bt595.2.2)))) else ((spec_l5bent.f k s0_0 bt595.2.1 bt595.2.2).bind fun bt606 => (some (t588, t589, t590, t591, bt606.1, bt606.2.1, bt606.2.2.1, bt606.2.2.2.1, bt606.2.2.2.2.1, bt606.2.2.2.2.2))))) = some (r1, r2, r3, r4, r5, r6, r7, r8, r9, r10) := H
 have A2 := Aside0.mk A20
 clear A20
 replace H := hBi H
 obtain ⟨⟨t595, t596, t597⟩, A30, H⟩ := H
 replace H : (if t595 = true then ((spec_FlNext.f k t588 t589 t590 t591).bind fun bt598 => ((spec_l5neg.f bt598.1 bt598.2.1 bt598.2.2.1 bt598.2.2.2).bind fun bt602 => (some (t588, t589, t590, t591, bt602.1, bt602.2.1, bt602.2.2.1, bt602.2.2.2, t596, t597)))) else ((spec_l5bent.f k s0_0 t596 t597).bind fun bt606 => (some (t588, t589, t590, t591, bt606.1, bt606.2.1, bt606.2.2.1, bt606.2.2.2.1, bt606.2.2.2.2.1, bt606.2.2.2.2.2)))) = some (r1, r2, r3, r4, r5, r6, r7, r8, r9, r10) := H
 have A3 := Aside0.mk A30
 clear A30
 by_cases c4 : t595 = true
 ·subst c4
  have H1 : ((spec_FlNext.f k t588 t589 t590 t591).bind fun bt598 => ((spec_l5neg.f bt598.1 bt598.2.1 bt598.2.2.1 bt598.2.2.2).bind fun bt602 => (some (t588, t589, t590, t591, bt602.1, bt602.2.1, bt602.2.2.1, bt602.2.2.2, t596, t597)))) = some (r1, r2, r3, r4, r5, r6, r7, r8, r9, r10) := by rw [if_pos rfl] at H; exact H
  clear H
  have H := H1
  clear H1
  replace H := hBi H
  obtain ⟨⟨t598, t599, t600, t601⟩, A50, H⟩ := H
  replace H : ((spec_l5neg.f t598 t599 t600 t601).bind fun bt602 => (some (t588, t589, t590, t591, bt602.1, bt602.2.1, bt602.2.2.1, bt602.2.2.2, t596, t597))) = some (r1, r2, r3, r4, r5, r6, r7, r8, r9, r10) := H
  have A5 := Aside0.mk A50
  clear A50
  replace H := hBi H
  obtain ⟨⟨t602, t603, t604, t605⟩, A60, H⟩ := H
  replace H : (some (t588, t589, t590, t591, t602, t603, t604, t605, t596, t597)) = some (r1, r2, r3, r4, r5, r6, r7, r8, r9, r10) := H
  have A6 := Aside0.mk A60
  clear A60
  simp only [Option.some.injEq, Prod.mk.injEq] at H
  obtain ⟨rfl, rfl, rfl, rfl, rfl, rfl, rfl, rfl, rfl, rfl⟩ := H
  go_enter Try.func82, Try.ntmps82
  try go_wp2_with (first | ((with_reducible refine gate_dst (N := 2) rfl ?_); refine hkBox (N := 2) (cs := #[.int .i64 0, .bool false, .int .i64 0, .int .i64 0]) (t := 26) ?_; intro gb586 hg w7 hbox hb; have n_ := hkA (Aside0.mk (IsS125.below (hkI125) hb)) (hkA (Aside0.mk (KeepBut.trans (hkKp) (KeepBut.of_below hb g none) (.inl rfl))) (hkA (Aside0.mk (below_step (hkJ125) hb)) (hkA (Aside0.mk (hbox)) (hkA (Aside0.mk ((by rw [hg]; exact (keep_size (w := w) (g := g) (row := none) (hkKp)) : w.heap.size ≤ gb586))) (hkA (Aside0.mk ((Nat.le_trans HW0.out (by rw [hg]; exact (keep_size (w := w) (g := g) (row := none) (hkKp)) : w.heap.size ≤ gb586) : w0.heap.size ≤ gb586))) (hkA (Aside0.mk ((by rw [hg]; exact Nat.ne_of_lt (IsS125.lt (show IsS125 w0 _ g s0_0 s0_1 s0_2 from hkI125)) : g ≠ gb586))) (Aside0.mk ((by rw [hg]; exact Nat.ne_of_gt (IsS125.lt (show IsS125 w0 _ g s0_0 s0_1 s0_2 from hkI125)) : gb586 ≠ g))))))))); clear HI0 HK HB; obtain ⟨HI0, HK, HB, BK586, GW586, GE586, NB0_586, NB586_0⟩ := n_; clear hb hbox hg) | ((with_reducible refine gate_dst (N := 3) rfl ?_); refine hkBox (N := 3) (cs := #[.int .i64 0, .bool false, .int .i64 0, .int .i64 0]) (t := 26) ?_; intro gb587 hg w8 hbox hb; have n_ := hkA (Aside0.mk (IsS125.below (hkI125) hb)) (hkA (hkBb BK586 hb) (hkA (Aside0.mk (KeepBut.trans (hkKp) (KeepBut.of_below hb g none) (.inl rfl))) (hkA (Aside0.mk (below_step (hkJ125) hb)) (hkA (Aside0.mk (hbox)) (hkA (Aside0.mk ((by rw [hg]; exact (keep_size (w := w) (g := g) (row := none) (hkKp)) : w.heap.size ≤ gb587))) (hkA (Aside0.mk ((Nat.le_trans HW0.out (by rw [hg]; exact (keep_size (w := w) (g := g) (row := none) (hkKp)) : w.heap.size ≤ gb587) : w0.heap.size ≤ gb587))) (hkA (hkN hg BK586) (hkA (hkM hg BK586) (hkA (Aside0.mk ((by rw [hg]; exact Nat.ne_of_lt (IsS125.lt (show IsS125 w0 _ g s0_0 s0_1 s0_2 from hkI125)) : g ≠ gb587))) (Aside0.mk ((by rw [hg]; exact Nat.ne_of_gt (IsS125.lt (show IsS125 w0 _ g s0_0 s0_1 s0_2 from hkI125)) : gb587 ≠ g)))))))))))); clear HI0 BK586 HK HB; obtain ⟨HI0, BK586, HK, HB, BK587, GW587, GE587, NB586_587, NB587_586, NB0_587, NB587_0⟩ := n_; clear hb hbox hg) | ((with_reducible refine gate_callee (f := 78) rfl ?_); refine hkGo (N := some 6) Try.func78 #[.pointer (some ⟨g, 0, none⟩)] ?_; (with_reducible refine (spec_l5bent.calls k g s0_0 s0_1 s0_2 t588 t589 t590 t591 t592 t593 w0 _ ?side1 ?side2 A2.out).mono ?_); (case side1 => exact hkI125); (case side2 => exact hkJ125); rintro e w9 ⟨rfl, hi, hb, hk⟩; refine ⟨_, rfl, ?_⟩; have n_ := hkA (Aside0.mk (KeepBut.blk hk (g' := gb586) (o := .cells #[.int .i64 0, .bool false, .int .i64 0, .int .i64 0] 26 (0, 0)) (hkB BK586) NB586_0.out (by simp))) (hkA (Aside0.mk (KeepBut.blk hk (g' := gb587) (o := .cells #[.int .i64 0, .bool false, .int .i64 0, .int .i64 0] 26 (0, 0)) (hkB BK587) NB587_0.out (by simp))) (hkA (Aside0.mk (KeepBut.trans (hkKp) hk (.inl rfl))) (hkA (Aside0.mk (hb)) (Aside0.mk (hi))))); clear BK586 BK587 HK HB HI0; obtain ⟨BK586, BK587, HK, HB, HI0⟩ := n_; (try clear hb); (try clear hk); (try clear hi)) | ((with_reducible refine gate_dst (N := 4) rfl ?_); refine hkBox (N := 4) (cs := #[.int .i64 0, .bool false, .int .i64 0, .int .i64 0]) (t := 26) ?_; intro gb594 hg w10 hbox hb; have n_ := hkA (Aside0.mk (IsS125.below (hkI125) hb)) (hkA (hkBb BK586 hb) (hkA (hkBb BK587 hb) (hkA (Aside0.mk (KeepBut.trans (hkKp) (KeepBut.of_below hb g none) (.inl rfl))) (hkA (Aside0.mk (below_step (hkJ125) hb)) (hkA (Aside0.mk (hbox)) (hkA (Aside0.mk ((by rw [hg]; exact (keep_size (w := w) (g := g) (row := none) (hkKp)) : w.heap.size ≤ gb594))) (hkA (Aside0.mk ((Nat.le_trans HW0.out (by rw [hg]; exact (keep_size (w := w) (g := g) (row := none) (hkKp)) : w.heap.size ≤ gb594) : w0.heap.size ≤ gb594))) (hkA (hkN hg BK586) (hkA (hkM hg BK586) (hkA (hkN hg BK587) (hkA (hkM hg BK587) (hkA (Aside0.mk ((by rw [hg]; exact Nat.ne_of_lt (IsS125.lt (show IsS125 w0 _ g s0_0 t592 t593 from hkI125)) : g ≠ gb594))) (Aside0.mk ((by rw [hg]; exact Nat.ne_of_gt (IsS125.lt (show IsS125 w0 _ g s0_0 t592 t593 from hkI125)) : gb594 ≠ g))))))))))))))); clear HI0 BK586 BK587 HK HB; obtain ⟨HI0, BK586, BK587, HK, HB, BK594, GW594, GE594, NB586_594, NB594_586, NB587_594, NB594_587, NB0_594, NB594_0⟩ := n_; clear hb hbox hg; have hnb11 := NB594_586.out; have hnc11 := NB586_594.out; have hnb12 := NB594_587.out; have hnc12 := NB587_594.out; have hnb13 := NB594_0.out; have hnc13 := NB0_594.out; obtain ⟨hcz14_0, hfz14_0, hcz14_1, hfz14_1, hcz14_2, hfz14_2, hcz14_3, hfz14_3⟩ := hkc4 BK594) | ((with_reducible refine gate_callee (f := 83) rfl ?_); refine hkGo (N := some 8) Try.func83 #[.pointer (some ⟨g, 0, none⟩), .int .i64 4] ?_; (with_reducible refine (spec_l1Once.calls g s0_0 t592 t593 4 true t596 t597 w0 _ ?side1 ?side2 A3.out).mono ?_); (case side1 => exact hkI125); (case side2 => exact hkJ125); rintro e w15 ⟨rfl, hi, hb, hk⟩; refine ⟨_, rfl, ?_⟩; have n_ := hkA (Aside0.mk (KeepBut.blk hk (g' := gb586) (o := .cells #[.int .i64 0, .bool false, .int .i64 0, .int .i64 0] 26 (0, 0)) hkPp NB586_0.out (by simp))) (hkA (Aside0.mk (KeepBut.blk hk (g' := gb587) (o := .cells #[.int .i64 0, .bool false, .int .i64 0, .int .i64 0] 26 (0, 0)) hkPp NB587_0.out (by simp))) (hkA (Aside0.mk (KeepBut.blk hk (g' := gb594) (o := .cells #[.int .i64 t588, .bool t589, .int .i64 t590, .int .i64 t591] 26 (0, 0)) hkPp NB594_0.out (by simp))) (hkA (Aside0.mk (KeepBut.trans (hkKp) hk (.inl rfl))) (hkA (Aside0.mk (hb)) (Aside0.mk (hi)))))); clear BK586 BK587 BK594 HK HB HI0; obtain ⟨BK586, BK587, BK594, HK, HB, HI0⟩ := n_; (try clear hb); (try clear hk); (try clear hi)))
  have n0_ := Aside0.mk (blk_drew BK586.out)
  have n1_ := Aside0.mk (blk_drew BK587.out)
  have n2_ := Aside0.mk (blk_drew BK594.out)
  have n3_ := Aside0.mk (IsS125.drew HI0.out)
  have n4_ := Aside0.mk (keep_drew HK.out)
  have n5_ := Aside0.mk (below_drew1 HB.out)
  clear BK586
  clear BK587
  clear BK594
  clear HI0
  clear HK
  clear HB
  have BK586 := n0_
  have BK587 := n1_
  have BK594 := n2_
  have HI0 := n3_
  have HK := n4_
  have HB := n5_
  clear n0_ n1_ n2_ n3_ n4_ n5_
  refine start_ (n := 6) (S := fun w' => w'.cell? ⟨gb594, 0, none⟩ = some (.int .i64 t588) ∧ w'.cell? ⟨gb594, 1, none⟩ = some (.bool t589) ∧ w'.cell? ⟨gb594, 2, none⟩ = some (.int .i64 t590) ∧ w'.cell? ⟨gb594, 3, none⟩ = some (.int .i64 t591)) (ds := []) #[false, false, false, false, false, false] (by kernel_rfl) rfl rfl ⟨(blk_cell BK594.out 0).trans rfl, (blk_cell BK594.out 1).trans rfl, (blk_cell BK594.out 2).trans rfl, (blk_cell BK594.out 3).trans rfl⟩ (fun hHeld => ?_)
  generalize w15.drew = w16 at BK586 BK587 BK594 HI0 HK HB hHeld ⊢
  refine hkTk (i := 0) (N := some 9) hHeld ?_ (hy := by rintro w' ⟨s0, s1, s2, s3⟩; go_simp; with_reducible rfl)
  refine hkTk (i := 1) (N := some 10) hHeld ?_ (hy := by rintro w' ⟨s0, s1, s2, s3⟩; go_simp; with_reducible rfl)
  refine one_ (i := 2) (N := some 11) #[true, true, true, false, false, false] rfl rfl (by kernel_rfl) (by decide) (fun K hK => ?_)
  refine goes_ Try.func124 (by kernel_rfl) rfl #[.agg #[.int .i64 t588, .bool t589, .int .i64 t590, .int .i64 t591]] (by rfl) rfl rfl hkL ?_
  with_reducible refine (spec_FlNext.calls k t588 t589 t590 t591 t598 t599 t600 t601 _ A5.out).mono ?_
  rintro e w17 ⟨rfl, hb⟩
  refine ⟨_, rfl, ?_⟩
  have n0_ := Aside0.mk (IsS125.below (hkI125) hb)
  have n1_ := hkBb BK586 hb
  have n2_ := hkBb BK587 hb
  have n3_ := hkBb BK594 hb
  have n4_ := Aside0.mk (KeepBut.trans (hkKp) (KeepBut.of_below hb g none) (.inl rfl))
  have n5_ := Aside0.mk (below_step (hkJ125) hb)
  clear HI0
  clear BK586
  clear BK587
  clear BK594
  clear HK
  clear HB
  have HI0 := n0_
  have BK586 := n1_
  have BK587 := n2_
  have BK594 := n3_
  have HK := n4_
  have HB := n5_
  clear n0_ n1_ n2_ n3_ n4_ n5_
  (try clear hb)
  (try clear hb2)
  (try clear hk)
  (try clear hi)
  refine hK.out _ _ ⟨(blk_cell BK594.out 0).trans rfl, (blk_cell BK594.out 1).trans rfl, (blk_cell BK594.out 2).trans rfl, (blk_cell BK594.out 3).trans rfl⟩ (fun hHeld => ?_)
  clear hK K
  refine norm_ (a' := ?_) ?_ ?_
  rotate_left
  ·show Act.put _ (some 11) _ = _
   simp only [Act.put, List.setIfInBounds_toArray, List.set_cons_zero, List.set_cons_succ, i64_w, i32_w]
   rfl
  refine one_ (i := 3) (N := some 12) #[true, true, true, true, false, false] rfl rfl (by kernel_rfl) (by decide) (fun K hK => ?_)
  refine goes_ Try.func123 (by kernel_rfl) rfl #[.agg #[.int .i64 t598, .bool t599, .int .i64 t600, .int .i64 t601]] (by rfl) rfl rfl hkL ?_
  with_reducible refine (spec_l5neg.calls t598 t599 t600 t601 t602 t603 t604 t605 _ A6.out).mono ?_
  rintro e w18 ⟨rfl, hb⟩
  refine ⟨_, rfl, ?_⟩
  have n0_ := Aside0.mk (IsS125.below (hkI125) hb)
  have n1_ := hkBb BK586 hb
  have n2_ := hkBb BK587 hb
  have n3_ := hkBb BK594 hb
  have n4_ := Aside0.mk (KeepBut.trans (hkKp) (KeepBut.of_below hb g none) (.inl rfl))
  have n5_ := Aside0.mk (below_step (hkJ125) hb)
  clear HI0
  clear BK586
  clear BK587
  clear BK594
  clear HK
  clear HB
  have HI0 := n0_
  have BK586 := n1_
  have BK587 := n2_
  have BK594 := n3_
  have HK := n4_
  have HB := n5_
  clear n0_ n1_ n2_ n3_ n4_ n5_
  (try clear hb)
  (try clear hb2)
  (try clear hk)
  (try clear hi)
  refine hK.out _ _ ⟨(blk_cell BK594.out 0).trans rfl, (blk_cell BK594.out 1).trans rfl, (blk_cell BK594.out 2).trans rfl, (blk_cell BK594.out 3).trans rfl⟩ (fun hHeld => ?_)
  clear hK K
  refine norm_ (a' := ?_) ?_ ?_
  rotate_left
  ·show Act.put _ (some 12) _ = _
   simp only [Act.put, List.setIfInBounds_toArray, List.set_cons_zero, List.set_cons_succ, i64_w, i32_w]
   rfl
  refine one_ (i := 4) (N := none) #[true, true, true, true, true, false] rfl rfl (by kernel_rfl) (by decide) (fun K hK => ?_)
  have hs19 : w18.cell? ⟨gb586, 0, none⟩ = some (.int .i64 0) := (blk_cell BK586.out 0).trans rfl
  have hfs19 := blk_frozen BK586.out 0
  have hns19_1 := NB587_586.out
  have hns19_2 := NB594_586.out
  have hms19_1 := NB586_587.out
  have hms19_2 := NB586_594.out
  have hs20 : w18.cell? ⟨gb586, 1, none⟩ = some (.bool false) := (blk_cell BK586.out 1).trans rfl
  have hfs20 := blk_frozen BK586.out 1
  have hns20_1 := NB587_586.out
  have hns20_2 := NB594_586.out
  have hms20_1 := NB586_587.out
  have hms20_2 := NB586_594.out
  have hs21 : w18.cell? ⟨gb586, 2, none⟩ = some (.int .i64 0) := (blk_cell BK586.out 2).trans rfl
  have hfs21 := blk_frozen BK586.out 2
  have hns21_1 := NB587_586.out
  have hns21_2 := NB594_586.out
  have hms21_1 := NB586_587.out
  have hms21_2 := NB586_594.out
  have hs22 : w18.cell? ⟨gb586, 3, none⟩ = some (.int .i64 0) := (blk_cell BK586.out 3).trans rfl
  have hfs22 := blk_frozen BK586.out 3
  have hns22_1 := NB587_586.out
  have hns22_2 := NB594_586.out
  have hms22_1 := NB586_587.out
  have hms22_2 := NB586_594.out
  refine skip_ (w1 := ?_) (by rfl) rfl ?_ ?_
  rotate_left
  ·go_simp
   rfl
  refine hK.out _ _ ⟨((cell_far (p := ⟨gb586, _, none⟩) NB594_586.out _).trans (((cell_far (p := ⟨gb586, _, none⟩) NB594_586.out _).trans (((cell_far (p := ⟨gb586, _, none⟩) NB594_586.out _).trans (((cell_far (p := ⟨gb586, _, none⟩) NB594_586.out _).trans (hHeld.1)))))))), ((cell_far (p := ⟨gb586, _, none⟩) NB594_586.out _).trans (((cell_far (p := ⟨gb586, _, none⟩) NB594_586.out _).trans (((cell_far (p := ⟨gb586, _, none⟩) NB594_586.out _).trans (((cell_far (p := ⟨gb586, _, none⟩) NB594_586.out _).trans (hHeld.2.1)))))))), ((cell_far (p := ⟨gb586, _, none⟩) NB594_586.out _).trans (((cell_far (p := ⟨gb586, _, none⟩) NB594_586.out _).trans (((cell_far (p := ⟨gb586, _, none⟩) NB594_586.out _).trans (((cell_far (p := ⟨gb586, _, none⟩) NB594_586.out _).trans (hHeld.2.2.1)))))))), ((cell_far (p := ⟨gb586, _, none⟩) NB594_586.out _).trans (((cell_far (p := ⟨gb586, _, none⟩) NB594_586.out _).trans (((cell_far (p := ⟨gb586, _, none⟩) NB594_586.out _).trans (((cell_far (p := ⟨gb586, _, none⟩) NB594_586.out _).trans (hHeld.2.2.2))))))))⟩ (fun hHeld => ?_)
  clear hK K
  refine one_ (i := 5) (N := none) #[true, true, true, true, true, true] rfl rfl (by kernel_rfl) (by decide) (fun K hK => ?_)
  have hs23 : w18.cell? ⟨gb587, 0, none⟩ = some (.int .i64 0) := (blk_cell BK587.out 0).trans rfl
  have hfs23 := blk_frozen BK587.out 0
  have hns23_0 := NB586_587.out
  have hns23_2 := NB594_587.out
  have hms23_0 := NB587_586.out
  have hms23_2 := NB587_594.out
  have hs24 : w18.cell? ⟨gb587, 1, none⟩ = some (.bool false) := (blk_cell BK587.out 1).trans rfl
  have hfs24 := blk_frozen BK587.out 1
  have hns24_0 := NB586_587.out
  have hns24_2 := NB594_587.out
  have hms24_0 := NB587_586.out
  have hms24_2 := NB587_594.out
  have hs25 : w18.cell? ⟨gb587, 2, none⟩ = some (.int .i64 0) := (blk_cell BK587.out 2).trans rfl
  have hfs25 := blk_frozen BK587.out 2
  have hns25_0 := NB586_587.out
  have hns25_2 := NB594_587.out
  have hms25_0 := NB587_586.out
  have hms25_2 := NB587_594.out
  have hs26 : w18.cell? ⟨gb587, 3, none⟩ = some (.int .i64 0) := (blk_cell BK587.out 3).trans rfl
  have hfs26 := blk_frozen BK587.out 3
  have hns26_0 := NB586_587.out
  have hns26_2 := NB594_587.out
  have hms26_0 := NB587_586.out
  have hms26_2 := NB587_594.out
  refine skip_ (w1 := ?_) (by rfl) rfl ?_ ?_
  rotate_left
  ·go_simp
   rfl
  refine hK.out _ _ ⟨((cell_far (p := ⟨gb587, _, none⟩) NB594_587.out _).trans (((cell_far (p := ⟨gb587, _, none⟩) NB594_587.out _).trans (((cell_far (p := ⟨gb587, _, none⟩) NB594_587.out _).trans (((cell_far (p := ⟨gb587, _, none⟩) NB594_587.out _).trans (hHeld.1)))))))), ((cell_far (p := ⟨gb587, _, none⟩) NB594_587.out _).trans (((cell_far (p := ⟨gb587, _, none⟩) NB594_587.out _).trans (((cell_far (p := ⟨gb587, _, none⟩) NB594_587.out _).trans (((cell_far (p := ⟨gb587, _, none⟩) NB594_587.out _).trans (hHeld.2.1)))))))), ((cell_far (p := ⟨gb587, _, none⟩) NB594_587.out _).trans (((cell_far (p := ⟨gb587, _, none⟩) NB594_587.out _).trans (((cell_far (p := ⟨gb587, _, none⟩) NB594_587.out _).trans (((cell_far (p := ⟨gb587, _, none⟩) NB594_587.out _).trans (hHeld.2.2.1)))))))), ((cell_far (p := ⟨gb587, _, none⟩) NB594_587.out _).trans (((cell_far (p := ⟨gb587, _, none⟩) NB594_587.out _).trans (((cell_far (p := ⟨gb587, _, none⟩) NB594_587.out _).trans (((cell_far (p := ⟨gb587, _, none⟩) NB594_587.out _).trans (hHeld.2.2.2))))))))⟩ (fun hHeld => ?_)
  clear hK K
  refine done_ (by kernel_rfl) ?_
  try go_wp2
  refine bodyPost_ret (results_cc rfl _ _ gb586 gb587 26 26 #[.int .i64 t588, .bool t589, .int .i64 t590, .int .i64 t591] #[.int .i64 t602, .bool t603, .int .i64 t604, .int .i64 t605] (0, 0) (0, 0) _ _ rfl hkPp Try.underlying26 rfl (by kernel_rfl) rfl hkPp Try.underlying26 rfl (by kernel_rfl)) rfl ?_
  exact ⟨hkE, hkI125, hkJ125, hkKp⟩
 ·replace c4 := Bool.eq_false_iff.mpr c4
  subst c4
  have H1 : ((spec_l5bent.f k s0_0 t596 t597).bind fun bt606 => (some (t588, t589, t590, t591, bt606.1, bt606.2.1, bt606.2.2.1, bt606.2.2.2.1, bt606.2.2.2.2.1, bt606.2.2.2.2.2))) = some (r1, r2, r3, r4, r5, r6, r7, r8, r9, r10) := by rw [if_neg (show ¬ (false = true) by decide)] at H; exact H
  clear H
  have H := H1
  clear H1
  replace H := hBi H
  obtain ⟨⟨t606, t607, t608, t609, t610, t611⟩, A270, H⟩ := H
  replace H : (some (t588, t589, t590, t591, t606, t607, t608, t609, t610, t611)) = some (r1, r2, r3, r4, r5, r6, r7, r8, r9, r10) := H
  have A27 := Aside0.mk A270
  clear A270
  simp only [Option.some.injEq, Prod.mk.injEq] at H
  obtain ⟨rfl, rfl, rfl, rfl, rfl, rfl, rfl, rfl, rfl, rfl⟩ := H
  go_enter Try.func82, Try.ntmps82
  try go_wp2_with (first | ((with_reducible refine gate_dst (N := 2) rfl ?_); refine hkBox (N := 2) (cs := #[.int .i64 0, .bool false, .int .i64 0, .int .i64 0]) (t := 26) ?_; intro gb586 hg w28 hbox hb; have n_ := hkA (Aside0.mk (IsS125.below (hkI125) hb)) (hkA (Aside0.mk (KeepBut.trans (hkKp) (KeepBut.of_below hb g none) (.inl rfl))) (hkA (Aside0.mk (below_step (hkJ125) hb)) (hkA (Aside0.mk (hbox)) (hkA (Aside0.mk ((by rw [hg]; exact (keep_size (w := w) (g := g) (row := none) (hkKp)) : w.heap.size ≤ gb586))) (hkA (Aside0.mk ((Nat.le_trans HW0.out (by rw [hg]; exact (keep_size (w := w) (g := g) (row := none) (hkKp)) : w.heap.size ≤ gb586) : w0.heap.size ≤ gb586))) (hkA (Aside0.mk ((by rw [hg]; exact Nat.ne_of_lt (IsS125.lt (show IsS125 w0 _ g s0_0 s0_1 s0_2 from hkI125)) : g ≠ gb586))) (Aside0.mk ((by rw [hg]; exact Nat.ne_of_gt (IsS125.lt (show IsS125 w0 _ g s0_0 s0_1 s0_2 from hkI125)) : gb586 ≠ g))))))))); clear HI0 HK HB; obtain ⟨HI0, HK, HB, BK586, GW586, GE586, NB0_586, NB586_0⟩ := n_; clear hb hbox hg) | ((with_reducible refine gate_dst (N := 3) rfl ?_); refine hkBox (N := 3) (cs := #[.int .i64 0, .bool false, .int .i64 0, .int .i64 0]) (t := 26) ?_; intro gb587 hg w29 hbox hb; have n_ := hkA (Aside0.mk (IsS125.below (hkI125) hb)) (hkA (hkBb BK586 hb) (hkA (Aside0.mk (KeepBut.trans (hkKp) (KeepBut.of_below hb g none) (.inl rfl))) (hkA (Aside0.mk (below_step (hkJ125) hb)) (hkA (Aside0.mk (hbox)) (hkA (Aside0.mk ((by rw [hg]; exact (keep_size (w := w) (g := g) (row := none) (hkKp)) : w.heap.size ≤ gb587))) (hkA (Aside0.mk ((Nat.le_trans HW0.out (by rw [hg]; exact (keep_size (w := w) (g := g) (row := none) (hkKp)) : w.heap.size ≤ gb587) : w0.heap.size ≤ gb587))) (hkA (hkN hg BK586) (hkA (hkM hg BK586) (hkA (Aside0.mk ((by rw [hg]; exact Nat.ne_of_lt (IsS125.lt (show IsS125 w0 _ g s0_0 s0_1 s0_2 from hkI125)) : g ≠ gb587))) (Aside0.mk ((by rw [hg]; exact Nat.ne_of_gt (IsS125.lt (show IsS125 w0 _ g s0_0 s0_1 s0_2 from hkI125)) : gb587 ≠ g)))))))))))); clear HI0 BK586 HK HB; obtain ⟨HI0, BK586, HK, HB, BK587, GW587, GE587, NB586_587, NB587_586, NB0_587, NB587_0⟩ := n_; clear hb hbox hg) | ((with_reducible refine gate_callee (f := 78) rfl ?_); refine hkGo (N := some 6) Try.func78 #[.pointer (some ⟨g, 0, none⟩)] ?_; (with_reducible refine (spec_l5bent.calls k g s0_0 s0_1 s0_2 t588 t589 t590 t591 t592 t593 w0 _ ?side1 ?side2 A2.out).mono ?_); (case side1 => exact hkI125); (case side2 => exact hkJ125); rintro e w30 ⟨rfl, hi, hb, hk⟩; refine ⟨_, rfl, ?_⟩; have n_ := hkA (Aside0.mk (KeepBut.blk hk (g' := gb586) (o := .cells #[.int .i64 0, .bool false, .int .i64 0, .int .i64 0] 26 (0, 0)) (hkB BK586) NB586_0.out (by simp))) (hkA (Aside0.mk (KeepBut.blk hk (g' := gb587) (o := .cells #[.int .i64 0, .bool false, .int .i64 0, .int .i64 0] 26 (0, 0)) (hkB BK587) NB587_0.out (by simp))) (hkA (Aside0.mk (KeepBut.trans (hkKp) hk (.inl rfl))) (hkA (Aside0.mk (hb)) (Aside0.mk (hi))))); clear BK586 BK587 HK HB HI0; obtain ⟨BK586, BK587, HK, HB, HI0⟩ := n_; (try clear hb); (try clear hk); (try clear hi)) | ((with_reducible refine gate_dst (N := 4) rfl ?_); refine hkBox (N := 4) (cs := #[.int .i64 0, .bool false, .int .i64 0, .int .i64 0]) (t := 26) ?_; intro gb594 hg w31 hbox hb; have n_ := hkA (Aside0.mk (IsS125.below (hkI125) hb)) (hkA (hkBb BK586 hb) (hkA (hkBb BK587 hb) (hkA (Aside0.mk (KeepBut.trans (hkKp) (KeepBut.of_below hb g none) (.inl rfl))) (hkA (Aside0.mk (below_step (hkJ125) hb)) (hkA (Aside0.mk (hbox)) (hkA (Aside0.mk ((by rw [hg]; exact (keep_size (w := w) (g := g) (row := none) (hkKp)) : w.heap.size ≤ gb594))) (hkA (Aside0.mk ((Nat.le_trans HW0.out (by rw [hg]; exact (keep_size (w := w) (g := g) (row := none) (hkKp)) : w.heap.size ≤ gb594) : w0.heap.size ≤ gb594))) (hkA (hkN hg BK586) (hkA (hkM hg BK586) (hkA (hkN hg BK587) (hkA (hkM hg BK587) (hkA (Aside0.mk ((by rw [hg]; exact Nat.ne_of_lt (IsS125.lt (show IsS125 w0 _ g s0_0 t592 t593 from hkI125)) : g ≠ gb594))) (Aside0.mk ((by rw [hg]; exact Nat.ne_of_gt (IsS125.lt (show IsS125 w0 _ g s0_0 t592 t593 from hkI125)) : gb594 ≠ g))))))))))))))); clear HI0 BK586 BK587 HK HB; obtain ⟨HI0, BK586, BK587, HK, HB, BK594, GW594, GE594, NB586_594, NB594_586, NB587_594, NB594_587, NB0_594, NB594_0⟩ := n_; clear hb hbox hg; have hnb32 := NB594_586.out; have hnc32 := NB586_594.out; have hnb33 := NB594_587.out; have hnc33 := NB587_594.out; have hnb34 := NB594_0.out; have hnc34 := NB0_594.out; obtain ⟨hcz35_0, hfz35_0, hcz35_1, hfz35_1, hcz35_2, hfz35_2, hcz35_3, hfz35_3⟩ := hkc4 BK594) | ((with_reducible refine gate_callee (f := 83) rfl ?_); refine hkGo (N := some 8) Try.func83 #[.pointer (some ⟨g, 0, none⟩), .int .i64 4] ?_; (with_reducible refine (spec_l1Once.calls g s0_0 t592 t593 4 false t596 t597 w0 _ ?side1 ?side2 A3.out).mono ?_); (case side1 => exact hkI125); (case side2 => exact hkJ125); rintro e w36 ⟨rfl, hi, hb, hk⟩; refine ⟨_, rfl, ?_⟩; have n_ := hkA (Aside0.mk (KeepBut.blk hk (g' := gb586) (o := .cells #[.int .i64 0, .bool false, .int .i64 0, .int .i64 0] 26 (0, 0)) hkPp NB586_0.out (by simp))) (hkA (Aside0.mk (KeepBut.blk hk (g' := gb587) (o := .cells #[.int .i64 0, .bool false, .int .i64 0, .int .i64 0] 26 (0, 0)) hkPp NB587_0.out (by simp))) (hkA (Aside0.mk (KeepBut.blk hk (g' := gb594) (o := .cells #[.int .i64 t588, .bool t589, .int .i64 t590, .int .i64 t591] 26 (0, 0)) hkPp NB594_0.out (by simp))) (hkA (Aside0.mk (KeepBut.trans (hkKp) hk (.inl rfl))) (hkA (Aside0.mk (hb)) (Aside0.mk (hi)))))); clear BK586 BK587 BK594 HK HB HI0; obtain ⟨BK586, BK587, BK594, HK, HB, HI0⟩ := n_; (try clear hb); (try clear hk); (try clear hi)))
  have n0_ := Aside0.mk (blk_drew BK586.out)
  have n1_ := Aside0.mk (blk_drew BK587.out)
  have n2_ := Aside0.mk (blk_drew BK594.out)
  have n3_ := Aside0.mk (IsS125.drew HI0.out)
  have n4_ := Aside0.mk (keep_drew HK.out)
  have n5_ := Aside0.mk (below_drew1 HB.out)
  clear BK586
  clear BK587
  clear BK594
  clear HI0
  clear HK
  clear HB
  have BK586 := n0_
  have BK587 := n1_
  have BK594 := n2_
  have HI0 := n3_
  have HK := n4_
  have HB := n5_
  clear n0_ n1_ n2_ n3_ n4_ n5_
  refine start_ (n := 5) (S := fun w' => w'.cell? ⟨gb594, 0, none⟩ = some (.int .i64 t588) ∧ w'.cell? ⟨gb594, 1, none⟩ = some (.bool t589) ∧ w'.cell? ⟨gb594, 2, none⟩ = some (.int .i64 t590) ∧ w'.cell? ⟨gb594, 3, none⟩ = some (.int .i64 t591)) (ds := []) #[false, false, false, false, false] (by kernel_rfl) rfl rfl ⟨(blk_cell BK594.out 0).trans rfl, (blk_cell BK594.out 1).trans rfl, (blk_cell BK594.out 2).trans rfl, (blk_cell BK594.out 3).trans rfl⟩ (fun hHeld => ?_)
  generalize w36.drew = w37 at BK586 BK587 BK594 HI0 HK HB hHeld ⊢
  refine hkPu (i := 1) (N := some 14) ?_
  refine hkTk (i := 0) (N := some 13) hHeld ?_ (hy := by rintro w' ⟨s0, s1, s2, s3⟩; go_simp; with_reducible rfl)
  refine one_ (i := 2) (N := some 15) #[true, true, true, false, false] rfl rfl (by kernel_rfl) (by decide) (fun K hK => ?_)
  refine goes_ Try.func78 (by kernel_rfl) rfl #[.pointer (some ⟨g, 0, none⟩)] (by rfl) rfl rfl hkL ?_
  with_reducible refine (spec_l5bent.calls k g s0_0 t596 t597 t606 t607 t608 t609 t610 t611 w0 _ ?side1 ?side2 A27.out).mono ?_
  (case side1 => exact hkI125)
  (case side2 => exact hkJ125)
  rintro e w38 ⟨rfl, hi, hb, hk⟩
  refine ⟨_, rfl, ?_⟩
  have n0_ := Aside0.mk (KeepBut.blk hk (g' := gb586) (o := .cells #[.int .i64 0, .bool false, .int .i64 0, .int .i64 0] 26 (0, 0)) (hkB BK586) NB586_0.out (by simp))
  have n1_ := Aside0.mk (KeepBut.blk hk (g' := gb587) (o := .cells #[.int .i64 0, .bool false, .int .i64 0, .int .i64 0] 26 (0, 0)) (hkB BK587) NB587_0.out (by simp))
  have n2_ := Aside0.mk (KeepBut.blk hk (g' := gb594) (o := .cells #[.int .i64 t588, .bool t589, .int .i64 t590, .int .i64 t591] 26 (0, 0)) (hkB BK594) NB594_0.out (by simp))
  have n3_ := Aside0.mk (KeepBut.trans (hkKp) hk (.inl rfl))
  have n4_ := Aside0.mk (hb)
  have n5_ := Aside0.mk (hi)
  clear BK586
  clear BK587
  clear BK594
  clear HK
  clear HB
  clear HI0
  have BK586 := n0_
  have BK587 := n1_
  have BK594 := n2_
  have HK := n3_
  have HB := n4_
  have HI0 := n5_
  clear n0_ n1_ n2_ n3_ n4_ n5_
  (try clear hb)
  (try clear hb2)
  (try clear hk)
  (try clear hi)
  refine hK.out _ _ ⟨(blk_cell BK594.out 0).trans rfl, (blk_cell BK594.out 1).trans rfl, (blk_cell BK594.out 2).trans rfl, (blk_cell BK594.out 3).trans rfl⟩ (fun hHeld => ?_)
  clear hK K
  refine norm_ (a' := ?_) ?_ ?_
  rotate_left
  ·show Act.put _ (some 15) _ = _
   simp only [Act.put, List.setIfInBounds_toArray, List.set_cons_zero, List.set_cons_succ, i64_w, i32_w]
   rfl
  refine one_ (i := 3) (N := none) #[true, true, true, true, false] rfl rfl (by kernel_rfl) (by decide) (fun K hK => ?_)
  have hs39 : w38.cell? ⟨gb586, 0, none⟩ = some (.int .i64 0) := (blk_cell BK586.out 0).trans rfl
  have hfs39 := blk_frozen BK586.out 0
  have hns39_1 := NB587_586.out
  have hns39_2 := NB594_586.out
  have hms39_1 := NB586_587.out
  have hms39_2 := NB586_594.out
  have hs40 : w38.cell? ⟨gb586, 1, none⟩ = some (.bool false) := (blk_cell BK586.out 1).trans rfl
  have hfs40 := blk_frozen BK586.out 1
  have hns40_1 := NB587_586.out
  have hns40_2 := NB594_586.out
  have hms40_1 := NB586_587.out
  have hms40_2 := NB586_594.out
  have hs41 : w38.cell? ⟨gb586, 2, none⟩ = some (.int .i64 0) := (blk_cell BK586.out 2).trans rfl
  have hfs41 := blk_frozen BK586.out 2
  have hns41_1 := NB587_586.out
  have hns41_2 := NB594_586.out
  have hms41_1 := NB586_587.out
  have hms41_2 := NB586_594.out
  have hs42 : w38.cell? ⟨gb586, 3, none⟩ = some (.int .i64 0) := (blk_cell BK586.out 3).trans rfl
  have hfs42 := blk_frozen BK586.out 3
  have hns42_1 := NB587_586.out
  have hns42_2 := NB594_586.out
  have hms42_1 := NB586_587.out
  have hms42_2 := NB586_594.out
  refine skip_ (w1 := ?_) (by rfl) rfl ?_ ?_
  rotate_left
  ·go_simp
   rfl
  refine hK.out _ _ ⟨((cell_far (p := ⟨gb586, _, none⟩) NB594_586.out _).trans (((cell_far (p := ⟨gb586, _, none⟩) NB594_586.out _).trans (((cell_far (p := ⟨gb586, _, none⟩) NB594_586.out _).trans (((cell_far (p := ⟨gb586, _, none⟩) NB594_586.out _).trans (hHeld.1)))))))), ((cell_far (p := ⟨gb586, _, none⟩) NB594_586.out _).trans (((cell_far (p := ⟨gb586, _, none⟩) NB594_586.out _).trans (((cell_far (p := ⟨gb586, _, none⟩) NB594_586.out _).trans (((cell_far (p := ⟨gb586, _, none⟩) NB594_586.out _).trans (hHeld.2.1)))))))), ((cell_far (p := ⟨gb586, _, none⟩) NB594_586.out _).trans (((cell_far (p := ⟨gb586, _, none⟩) NB594_586.out _).trans (((cell_far (p := ⟨gb586, _, none⟩) NB594_586.out _).trans (((cell_far (p := ⟨gb586, _, none⟩) NB594_586.out _).trans (hHeld.2.2.1)))))))), ((cell_far (p := ⟨gb586, _, none⟩) NB594_586.out _).trans (((cell_far (p := ⟨gb586, _, none⟩) NB594_586.out _).trans (((cell_far (p := ⟨gb586, _, none⟩) NB594_586.out _).trans (((cell_far (p := ⟨gb586, _, none⟩) NB594_586.out _).trans (hHeld.2.2.2))))))))⟩ (fun hHeld => ?_)
  clear hK K
  refine one_ (i := 4) (N := none) #[true, true, true, true, true] rfl rfl (by kernel_rfl) (by decide) (fun K hK => ?_)
  have hs43 : w38.cell? ⟨gb587, 0, none⟩ = some (.int .i64 0) := (blk_cell BK587.out 0).trans rfl
  have hfs43 := blk_frozen BK587.out 0
  have hns43_0 := NB586_587.out
  have hns43_2 := NB594_587.out
  have hms43_0 := NB587_586.out
  have hms43_2 := NB587_594.out
  have hs44 : w38.cell? ⟨gb587, 1, none⟩ = some (.bool false) := (blk_cell BK587.out 1).trans rfl
  have hfs44 := blk_frozen BK587.out 1
  have hns44_0 := NB586_587.out
  have hns44_2 := NB594_587.out
  have hms44_0 := NB587_586.out
  have hms44_2 := NB587_594.out
  have hs45 : w38.cell? ⟨gb587, 2, none⟩ = some (.int .i64 0) := (blk_cell BK587.out 2).trans rfl
  have hfs45 := blk_frozen BK587.out 2
  have hns45_0 := NB586_587.out
  have hns45_2 := NB594_587.out
  have hms45_0 := NB587_586.out
  have hms45_2 := NB587_594.out
  have hs46 : w38.cell? ⟨gb587, 3, none⟩ = some (.int .i64 0) := (blk_cell BK587.out 3).trans rfl
  have hfs46 := blk_frozen BK587.out 3
  have hns46_0 := NB586_587.out
  have hns46_2 := NB594_587.out
  have hms46_0 := NB587_586.out
  have hms46_2 := NB587_594.out
  refine skip_ (w1 := ?_) (by rfl) rfl ?_ ?_
  rotate_left
  ·go_simp
   rfl
  refine hK.out _ _ ⟨((cell_far (p := ⟨gb587, _, none⟩) NB594_587.out _).trans (((cell_far (p := ⟨gb587, _, none⟩) NB594_587.out _).trans (((cell_far (p := ⟨gb587, _, none⟩) NB594_587.out _).trans (((cell_far (p := ⟨gb587, _, none⟩) NB594_587.out _).trans (hHeld.1)))))))), ((cell_far (p := ⟨gb587, _, none⟩) NB594_587.out _).trans (((cell_far (p := ⟨gb587, _, none⟩) NB594_587.out _).trans (((cell_far (p := ⟨gb587, _, none⟩) NB594_587.out _).trans (((cell_far (p := ⟨gb587, _, none⟩) NB594_587.out _).trans (hHeld.2.1)))))))), ((cell_far (p := ⟨gb587, _, none⟩) NB594_587.out _).trans (((cell_far (p := ⟨gb587, _, none⟩) NB594_587.out _).trans (((cell_far (p := ⟨gb587, _, none⟩) NB594_587.out _).trans (((cell_far (p := ⟨gb587, _, none⟩) NB594_587.out _).trans (hHeld.2.2.1)))))))), ((cell_far (p := ⟨gb587, _, none⟩) NB594_587.out _).trans (((cell_far (p := ⟨gb587, _, none⟩) NB594_587.out _).trans (((cell_far (p := ⟨gb587, _, none⟩) NB594_587.out _).trans (((cell_far (p := ⟨gb587, _, none⟩) NB594_587.out _).trans (hHeld.2.2.2))))))))⟩ (fun hHeld => ?_)
  clear hK K
  refine done_ (by kernel_rfl) ?_
  try go_wp2
  refine bodyPost_ret (results_cc rfl _ _ gb586 gb587 26 26 #[.int .i64 t588, .bool t589, .int .i64 t590, .int .i64 t591] #[.int .i64 t606, .bool t607, .int .i64 t608, .int .i64 t609] (0, 0) (0, 0) _ _ rfl hkPp Try.underlying26 rfl (by kernel_rfl) rfl hkPp Try.underlying26 rfl (by kernel_rfl)) rfl ?_
  exact ⟨hkE, hkI125, hkJ125, hkKp⟩

end Go.Proofs.Ytgjpahofopoflaa.PFnPacks
