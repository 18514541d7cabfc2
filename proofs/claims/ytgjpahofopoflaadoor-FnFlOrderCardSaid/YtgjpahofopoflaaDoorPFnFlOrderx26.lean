-- Written by our own driver (wip/hand/hprint.py) over the seat's translation.
import Derived.Test.YtgjpahofopoflaaDoorPFnFlOrderx0
import Derived.Test.YtgjpahofopoflaaDoorPFnFlOrderx7
import Derived.Test.YtgjpahofopoflaaDoorPFnFlOrderx23
import Derived.Test.YtgjpahofopoflaaDoorPFnFlOrderx25
namespace Go.Proofs.YtgjpahofopoflaaDoor.PFnFlOrder
open Go.RowKit Go.Proofs.YtgjpahofopoflaaDoorW.PrintWords Go.Proofs.YtgjpahofopoflaaDoorW.PrintLast Go.Proofs.YtgjpahofopoflaaDoorW.PrintMore
attribute [local go_sem] max2_int min2_int max_two min_two max_three min_three max_four min_four   -- for this text's walks alone
set_option linter.unusedVariables false
set_option linter.unusedSimpArgs false

/-! ### spec_l5pair: function 63 -/
def spec_l5pair.f (k : Nat) (s0_0 : List Int) (s0_1 : Int) (s0_2 : Int) : Option (Int × Bool × Int × Int × Int × Bool × Int × Int × Int × Int) := (spec_l5bent.f k s0_0 s0_1 s0_2).bind fun bt556 => ((spec_l1Once.f s0_0 bt556.2.2.2.2.1 bt556.2.2.2.2.2 4).bind fun bt563 => (if bt563.1 = true then ((spec_FlNext.f k bt556.1 bt556.2.1 bt556.2.2.1 bt556.2.2.2.1).bind fun bt566 => ((spec_l5neg.f bt566.1 bt566.2.1 bt566.2.2.1 bt566.2.2.2).bind fun bt570 => (some (bt556.1, bt556.2.1, bt556.2.2.1, bt556.2.2.2.1, bt570.1, bt570.2.1, bt570.2.2.1, bt570.2.2.2, bt563.2.1, bt563.2.2)))) else ((spec_l5bent.f k s0_0 bt563.2.1 bt563.2.2).bind fun bt574 => (some (bt556.1, bt556.2.1, bt556.2.2.1, bt556.2.2.2.1, bt574.1, bt574.2.1, bt574.2.2.1, bt574.2.2.2.1, bt574.2.2.2.2.1, bt574.2.2.2.2.2)))))
theorem spec_l5pair.mono : ∀ a0 a1 a2 k, LeO (spec_l5pair.f k a0 a1 a2) (spec_l5pair.f (k + 1) a0 a1 a2) := by
 intro a0 a1 a2 k
 unfold spec_l5pair.f
 repeat' first
   | (with_reducible exact spec_FlNext.mono _ _ _ _ _)
   | (with_reducible exact spec_l5bent.mono _ _ _ _)
   | (with_reducible exact LeO.refl _)
   | (with_reducible exact LeO.none _)
   | (with_reducible refine LeO.ite ?_ ?_)
   | (with_reducible refine LeO.bind ?_ (fun _ => ?_))
   | exact spec_FlNext.mono _ _ _ _ _
   | exact spec_l5bent.mono _ _ _ _
   | exact LeO.none _
   | refine LeO.ite ?_ ?_
   | refine LeO.bind ?_ (fun _ => ?_)
set_option maxHeartbeats 8000000 in
set_option maxRecDepth 100000 in
theorem spec_l5pair.calls (k : Nat) (g : Nat) (s0_0 : List Int) (s0_1 : Int) (s0_2 : Int) (r1 : Int) (r2 : Bool) (r3 : Int) (r4 : Int) (r5 : Int) (r6 : Bool) (r7 : Int) (r8 : Int) (r9 : Int) (r10 : Int) (w0 w : World) (hI : IsS122 w0 w g s0_0 s0_1 s0_2) (hB : Below w0.heap.size w0 w) (h : spec_l5pair.f k s0_0 s0_1 s0_2 = some (r1, r2, r3, r4, r5, r6, r7, r8, r9, r10)) :
  Calls Tryd.prog 63 #[.pointer (some ⟨g, 0, none⟩)] w fun e w' => e = .returned (.tuple #[.agg #[.int .i64 r1, .bool r2, .int .i64 r3, .int .i64 r4], .agg #[.int .i64 r5, .bool r6, .int .i64 r7, .int .i64 r8]]) ∧ IsS122 w0 w' g s0_0 r9 r10 ∧ Below w0.heap.size w0 w' ∧ KeepBut w w' g none := by
 have hu33 := Tryd.underlying33
 have HI0 := Aside0.mk hI
 have HK := Aside0.mk (KeepBut.refl w g none)
 have HL := Aside0.mk hB.size
 clear hI
 have HW0 := Aside0.mk hB.size
 have HB := Aside0.mk hB
 clear hB
 have H : ((spec_l5bent.f k s0_0 s0_1 s0_2).bind fun bt556 => ((spec_l1Once.f s0_0 bt556.2.2.2.2.1 bt556.2.2.2.2.2 4).bind fun bt563 => (if bt563.1 = true then ((spec_FlNext.f k bt556.1 bt556.2.1 bt556.2.2.1 bt556.2.2.2.1).bind fun bt566 => ((spec_l5neg.f bt566.1 bt566.2.1 bt566.2.2.1 bt566.2.2.2).bind fun bt570 => (some (bt556.1, bt556.2.1, bt556.2.2.1, bt556.2.2.2.1, bt570.1, bt570.2.1, bt570.2.2.1, bt570.2.2.2, bt563.2.1, bt563.2.2)))) else ((spec_l5bent.f k s0_0 bt563.2.1 bt563.2.2).bind fun bt574 => (some (bt556.1, bt556.2.1, bt556.2.2.1, bt556.2.2.2.1, bt574.1, bt574.2.1, bt574.2.2.1, bt574.2.2.2.1, bt574.2.2.2.2.1, bt574.2.2.2.2.2)))))) = some (r1, r2, r3, r4, r5, r6, r7, r8, r9, r10) := h
 clear h
 replace H := hBi H
 obtain ⟨⟨t556, t557, t558, t559, t560, t561⟩, A20, H⟩ := H
 replace H : ((spec_l1Once.f s0_0 t560 t561 4).bind fun bt563 => (if bt563.1 = true then ((spec_FlNext.f k t556 t557 t558 t559).bind fun bt566 => ((spec_l5neg.f bt566.1 bt566.2.1 bt566.2.2.1 bt566.2.2.2).bind fun bt570 => (some (t556, t557, t558, t559, bt570.1, bt570.2.1, bt570.2.2.1, bt570.2.2.2, bt563.2.1, bt563.2.2)))) else ((spec_l5bent.f k s0_0 bt563.2.1 bt563.2.2).bind fun bt574 => (some (t556, t557, t558, t559, bt574.1, bt574.2.1, bt574.2.2.1, bt574.2.2.2.1, bt574.2.2.2.2.1, bt574.2.2.2.2.2))))) = some (r1, r2, r3, r4, r5, r6, r7, r8, r9, r10) := H
 have A2 := Aside0.mk A20
 clear A20
 replace H := hBi H
 obtain ⟨⟨t563, t564, t565⟩, A30, H⟩ := H
 replace H : (if t563 = true then ((spec_FlNext.f k t556 t557 t558 t559).bind fun bt566 => ((spec_l5neg.f bt566.1 bt566.2.1 bt566.2.2.1 bt566.2.2.2).bind fun bt570 => (some (t556, t557, t558, t559, bt570.1, bt570.2.1, bt570.2.2.1, bt570.2.2.2, t564, t565)))) else ((spec_l5bent.f k s0_0 t564 t565).bind fun bt574 => (some (t556, t557, t558, t559, bt574.1, bt574.2.1, bt574.2.2.1, bt574.2.2.2.1, bt574.2.2.2.2.1, bt574.2.2.2.2.2)))) = some (r1, r2, r3, r4, r5, r6, r7, r8, r9, r10) := H
 have A3 := Aside0.mk A30
 clear A30
 by_cases c4 : t563 = true
 ·subst c4
  have H1 : ((spec_FlNext.f k t556 t557 t558 t559).bind fun bt566 => ((spec_l5neg.f bt566.1 bt566.2.1 bt566.2.2.1 bt566.2.2.2).bind fun bt570 => (some (t556, t557, t558, t559, bt570.1, bt570.2.1, bt570.2.2.1, bt570.2.2.2, t564, t565)))) = some (r1, r2, r3, r4, r5, r6, r7, r8, r9, r10) := by rw [if_pos rfl] at H; exact H
  clear H
  have H := H1
  clear H1
  replace H := hBi H
  obtain ⟨⟨t566, t567, t568, t569⟩, A50, H⟩ := H
  replace H : ((spec_l5neg.f t566 t567 t568 t569).bind fun bt570 => (some (t556, t557, t558, t559, bt570.1, bt570.2.1, bt570.2.2.1, bt570.2.2.2, t564, t565))) = some (r1, r2, r3, r4, r5, r6, r7, r8, r9, r10) := H
  have A5 := Aside0.mk A50
  clear A50
  replace H := hBi H
  obtain ⟨⟨t570, t571, t572, t573⟩, A60, H⟩ := H
  replace H : (some (t556, t557, t558, t559, t570, t571, t572, t573, t564, t565)) = some (r1, r2, r3, r4, r5, r6, r7, r8, r9, r10) := H
  have A6 := Aside0.mk A60
  clear A60
  simp only [Option.some.injEq, Prod.mk.injEq] at H
  obtain ⟨rfl, rfl, rfl, rfl, rfl, rfl, rfl, rfl, rfl, rfl⟩ := H
  go_enter Tryd.func63, Tryd.ntmps63
  try go_wp2_with (first | ((with_reducible refine gate_dst (N := 2) rfl ?_); refine hkBox (N := 2) (cs := #[.int .i64 0, .bool false, .int .i64 0, .int .i64 0]) (t := 33) ?_; intro gb554 hg w7 hbox hb; have n_ := hkA (Aside0.mk (IsS122.below (hkI122) hb)) (hkA (Aside0.mk (KeepBut.trans (hkKp) (KeepBut.of_below hb g none) (.inl rfl))) (hkA (Aside0.mk (below_step (hkJ122) hb)) (hkA (Aside0.mk (hbox)) (hkA (Aside0.mk ((by rw [hg]; exact (keep_size (w := w) (g := g) (row := none) (hkKp)) : w.heap.size ≤ gb554))) (hkA (Aside0.mk ((Nat.le_trans HW0.out (by rw [hg]; exact (keep_size (w := w) (g := g) (row := none) (hkKp)) : w.heap.size ≤ gb554) : w0.heap.size ≤ gb554))) (hkA (Aside0.mk ((by rw [hg]; exact Nat.ne_of_lt (IsS122.lt (show IsS122 w0 _ g s0_0 s0_1 s0_2 from hkI122)) : g ≠ gb554))) (Aside0.mk ((by rw [hg]; exact Nat.ne_of_gt (IsS122.lt (show IsS122 w0 _ g s0_0 s0_1 s0_2 from hkI122)) : gb554 ≠ g))))))))); clear HI0 HK HB; obtain ⟨HI0, HK, HB, BK554, GW554, GE554, NB0_554, NB554_0⟩ := n_; clear hb hbox hg) | ((with_reducible refine gate_dst (N := 3) rfl ?_); refine hkBox (N := 3) (cs := #[.int .i64 0, .bool false, .int .i64 0, .int .i64 0]) (t := 33) ?_; intro gb555 hg w8 hbox hb; have n_ := hkA (Aside0.mk (IsS122.below (hkI122) hb)) (hkA (hkBb BK554 hb) (hkA (Aside0.mk (KeepBut.trans (hkKp) (KeepBut.of_below hb g none) (.inl rfl))) (hkA (Aside0.mk (below_step (hkJ122) hb)) (hkA (Aside0.mk (hbox)) (hkA (Aside0.mk ((by rw [hg]; exact (keep_size (w := w) (g := g) (row := none) (hkKp)) : w.heap.size ≤ gb555))) (hkA (Aside0.mk ((Nat.le_trans HW0.out (by rw [hg]; exact (keep_size (w := w) (g := g) (row := none) (hkKp)) : w.heap.size ≤ gb555) : w0.heap.size ≤ gb555))) (hkA (hkN hg BK554) (hkA (hkM hg BK554) (hkA (Aside0.mk ((by rw [hg]; exact Nat.ne_of_lt (IsS122.lt (show IsS122 w0 _ g s0_0 s0_1 s0_2 from hkI122)) : g ≠ gb555))) (Aside0.mk ((by rw [hg]; exact Nat.ne_of_gt (IsS122.lt (show IsS122 w0 _ g s0_0 s0_1 s0_2 from hkI122)) : gb555 ≠ g)))))))))))); clear HI0 BK554 HK HB; obtain ⟨HI0, BK554, HK, HB, BK555, GW555, GE555, NB554_555, NB555_554, NB0_555, NB555_0⟩ := n_; clear hb hbox hg) | ((with_reducible refine gate_callee (f := 94) rfl ?_); refine hkGo (N := some 6) Tryd.func94 #[.pointer (some ⟨g, 0, none⟩)] ?_; (with_reducible refine (spec_l5bent.calls k g s0_0 s0_1 s0_2 t556 t557 t558 t559 t560 t561 w0 _ ?side1 ?side2 A2.out).mono ?_); (case side1 => exact hkI122); (case side2 => exact hkJ122); rintro e w9 ⟨rfl, hi, hb, hk⟩; refine ⟨_, rfl, ?_⟩; have n_ := hkA (Aside0.mk (KeepBut.blk hk (g' := gb554) (o := .cells #[.int .i64 0, .bool false, .int .i64 0, .int .i64 0] 33 (0, 0)) (hkB BK554) NB554_0.out (by simp))) (hkA (Aside0.mk (KeepBut.blk hk (g' := gb555) (o := .cells #[.int .i64 0, .bool false, .int .i64 0, .int .i64 0] 33 (0, 0)) (hkB BK555) NB555_0.out (by simp))) (hkA (Aside0.mk (KeepBut.trans (hkKp) hk (.inl rfl))) (hkA (Aside0.mk (hb)) (Aside0.mk (hi))))); clear BK554 BK555 HK HB HI0; obtain ⟨BK554, BK555, HK, HB, HI0⟩ := n_; (try clear hb); (try clear hk); (try clear hi)) | ((with_reducible refine gate_dst (N := 4) rfl ?_); refine hkBox (N := 4) (cs := #[.int .i64 0, .bool false, .int .i64 0, .int .i64 0]) (t := 33) ?_; intro gb562 hg w10 hbox hb; have n_ := hkA (Aside0.mk (IsS122.below (hkI122) hb)) (hkA (hkBb BK554 hb) (hkA (hkBb BK555 hb) (hkA (Aside0.mk (KeepBut.trans (hkKp) (KeepBut.of_below hb g none) (.inl rfl))) (hkA (Aside0.mk (below_step (hkJ122) hb)) (hkA (Aside0.mk (hbox)) (hkA (Aside0.mk ((by rw [hg]; exact (keep_size (w := w) (g := g) (row := none) (hkKp)) : w.heap.size ≤ gb562))) (hkA (Aside0.mk ((Nat.le_trans HW0.out (by rw [hg]; exact (keep_size (w := w) (g := g) (row := none) (hkKp)) : w.heap.size ≤ gb562) : w0.heap.size ≤ gb562))) (hkA (hkN hg BK554) (hkA (hkM hg BK554) (hkA (hkN hg BK555) (hkA (hkM hg BK555) (hkA (Aside0.mk ((by rw [hg]; exact Nat.ne_of_lt (IsS122.lt (show IsS122 w0 _ g s0_0 t560 t561 from hkI122)) : g ≠ gb562))) (Aside0.mk ((by rw [hg]; exact Nat.ne_of_gt (IsS122.lt (show IsS122 w0 _ g s0_0 t560 t561 from hkI122)) : gb562 ≠ g))))))))))))))); clear HI0 BK554 BK555 HK HB; obtain ⟨HI0, BK554, BK555, HK, HB, BK562, GW562, GE562, NB554_562, NB562_554, NB555_562, NB562_555, NB0_562, NB562_0⟩ := n_; clear hb hbox hg; have hnb11 := NB562_554.out; have hnc11 := NB554_562.out; have hnb12 := NB562_555.out; have hnc12 := NB555_562.out; have hnb13 := NB562_0.out; have hnc13 := NB0_562.out; obtain ⟨hcz14_0, hfz14_0, hcz14_1, hfz14_1, hcz14_2, hfz14_2, hcz14_3, hfz14_3⟩ := hkc4 BK562) | ((with_reducible refine gate_callee (f := 64) rfl ?_); refine hkGo (N := some 8) Tryd.func64 #[.pointer (some ⟨g, 0, none⟩), .int .i64 4] ?_; (with_reducible refine (spec_l1Once.calls g s0_0 t560 t561 4 true t564 t565 w0 _ ?side1 ?side2 A3.out).mono ?_); (case side1 => exact hkI122); (case side2 => exact hkJ122); rintro e w15 ⟨rfl, hi, hb, hk⟩; refine ⟨_, rfl, ?_⟩; have n_ := hkA (Aside0.mk (KeepBut.blk hk (g' := gb554) (o := .cells #[.int .i64 0, .bool false, .int .i64 0, .int .i64 0] 33 (0, 0)) hkPp NB554_0.out (by simp))) (hkA (Aside0.mk (KeepBut.blk hk (g' := gb555) (o := .cells #[.int .i64 0, .bool false, .int .i64 0, .int .i64 0] 33 (0, 0)) hkPp NB555_0.out (by simp))) (hkA (Aside0.mk (KeepBut.blk hk (g' := gb562) (o := .cells #[.int .i64 t556, .bool t557, .int .i64 t558, .int .i64 t559] 33 (0, 0)) hkPp NB562_0.out (by simp))) (hkA (Aside0.mk (KeepBut.trans (hkKp) hk (.inl rfl))) (hkA (Aside0.mk (hb)) (Aside0.mk (hi)))))); clear BK554 BK555 BK562 HK HB HI0; obtain ⟨BK554, BK555, BK562, HK, HB, HI0⟩ := n_; (try clear hb); (try clear hk); (try clear hi)))
  have n_ := hkA (Aside0.mk (blk_drew BK554.out)) (hkA (Aside0.mk (blk_drew BK555.out)) (hkA (Aside0.mk (blk_drew BK562.out)) (hkA (Aside0.mk (IsS122.drew HI0.out)) (hkA (Aside0.mk (keep_drew HK.out)) (Aside0.mk (below_drew1 HB.out))))))
  clear BK554 BK555 BK562 HI0 HK HB
  obtain ⟨BK554, BK555, BK562, HI0, HK, HB⟩ := n_
  refine start_ (n := 6) (S := fun w' => w'.cell? ⟨gb562, 0, none⟩ = some (.int .i64 t556) ∧ w'.cell? ⟨gb562, 1, none⟩ = some (.bool t557) ∧ w'.cell? ⟨gb562, 2, none⟩ = some (.int .i64 t558) ∧ w'.cell? ⟨gb562, 3, none⟩ = some (.int .i64 t559)) (ds := []) #[false, false, false, false, false, false] (by kernel_rfl) rfl rfl ⟨(blk_cell BK562.out 0).trans rfl, (blk_cell BK562.out 1).trans rfl, (blk_cell BK562.out 2).trans rfl, (blk_cell BK562.out 3).trans rfl⟩ (fun hHeld => ?_)
  generalize w15.drew = w16 at BK554 BK555 BK562 HI0 HK HB hHeld ⊢
  refine hkTk (i := 0) (N := some 9) hHeld ?_ (hy := by rintro w' ⟨s0, s1, s2, s3⟩; go_simp; with_reducible rfl)
  refine hkTk (i := 1) (N := some 10) hHeld ?_ (hy := by rintro w' ⟨s0, s1, s2, s3⟩; go_simp; with_reducible rfl)
  refine one_ (i := 2) (N := some 11) #[true, true, true, false, false, false] rfl rfl (by kernel_rfl) (by decide) (fun K hK => ?_)
  refine goes_ Tryd.func96 (by kernel_rfl) rfl #[.agg #[.int .i64 t556, .bool t557, .int .i64 t558, .int .i64 t559]] (by rfl) rfl rfl hkL ?_
  with_reducible refine (spec_FlNext.calls k t556 t557 t558 t559 t566 t567 t568 t569 _ A5.out).mono ?_
  rintro e w17 ⟨rfl, hb⟩
  refine ⟨_, rfl, ?_⟩
  have n_ := hkA (Aside0.mk (IsS122.below (hkI122) hb)) (hkA (hkBb BK554 hb) (hkA (hkBb BK555 hb) (hkA (hkBb BK562 hb) (hkA (Aside0.mk (KeepBut.trans (hkKp) (KeepBut.of_below hb g none) (.inl rfl))) (Aside0.mk (below_step (hkJ122) hb))))))
  clear HI0 BK554 BK555 BK562 HK HB
  obtain ⟨HI0, BK554, BK555, BK562, HK, HB⟩ := n_
  (try clear hb)
  refine hK.out _ _ ⟨(blk_cell BK562.out 0).trans rfl, (blk_cell BK562.out 1).trans rfl, (blk_cell BK562.out 2).trans rfl, (blk_cell BK562.out 3).trans rfl⟩ (fun hHeld => ?_)
  clear hK K
  refine hkNo (N := some 11) ?_
  refine one_ (i := 3) (N := some 12) #[true, true, true, true, false, false] rfl rfl (by kernel_rfl) (by decide) (fun K hK => ?_)
  refine goes_ Tryd.func95 (by kernel_rfl) rfl #[.agg #[.int .i64 t566, .bool t567, .int .i64 t568, .int .i64 t569]] (by rfl) rfl rfl hkL ?_
  with_reducible refine (spec_l5neg.calls t566 t567 t568 t569 t570 t571 t572 t573 _ A6.out).mono ?_
  rintro e w18 ⟨rfl, hb⟩
  refine ⟨_, rfl, ?_⟩
  have n_ := hkA (Aside0.mk (IsS122.below (hkI122) hb)) (hkA (hkBb BK554 hb) (hkA (hkBb BK555 hb) (hkA (hkBb BK562 hb) (hkA (Aside0.mk (KeepBut.trans (hkKp) (KeepBut.of_below hb g none) (.inl rfl))) (Aside0.mk (below_step (hkJ122) hb))))))
  clear HI0 BK554 BK555 BK562 HK HB
  obtain ⟨HI0, BK554, BK555, BK562, HK, HB⟩ := n_
  (try clear hb)
  refine hK.out _ _ ⟨(blk_cell BK562.out 0).trans rfl, (blk_cell BK562.out 1).trans rfl, (blk_cell BK562.out 2).trans rfl, (blk_cell BK562.out 3).trans rfl⟩ (fun hHeld => ?_)
  clear hK K
  refine hkNo (N := some 12) ?_
  refine one_ (i := 4) (N := none) #[true, true, true, true, true, false] rfl rfl (by kernel_rfl) (by decide) (fun K hK => ?_)
  have hs19 : w18.cell? ⟨gb554, 0, none⟩ = some (.int .i64 0) := (blk_cell BK554.out 0).trans rfl
  have hfs19 := blk_frozen BK554.out 0
  have hns19_1 := NB555_554.out
  have hns19_2 := NB562_554.out
  have hms19_1 := NB554_555.out
  have hms19_2 := NB554_562.out
  have hs20 : w18.cell? ⟨gb554, 1, none⟩ = some (.bool false) := (blk_cell BK554.out 1).trans rfl
  have hfs20 := blk_frozen BK554.out 1
  have hns20_1 := NB555_554.out
  have hns20_2 := NB562_554.out
  have hms20_1 := NB554_555.out
  have hms20_2 := NB554_562.out
  have hs21 : w18.cell? ⟨gb554, 2, none⟩ = some (.int .i64 0) := (blk_cell BK554.out 2).trans rfl
  have hfs21 := blk_frozen BK554.out 2
  have hns21_1 := NB555_554.out
  have hns21_2 := NB562_554.out
  have hms21_1 := NB554_555.out
  have hms21_2 := NB554_562.out
  have hs22 : w18.cell? ⟨gb554, 3, none⟩ = some (.int .i64 0) := (blk_cell BK554.out 3).trans rfl
  have hfs22 := blk_frozen BK554.out 3
  have hns22_1 := NB555_554.out
  have hns22_2 := NB562_554.out
  have hms22_1 := NB554_555.out
  have hms22_2 := NB554_562.out
  refine skip_ (w1 := ?_) (by rfl) rfl ?_ ?_
  rotate_left
  ·go_simp
   rfl
  refine hK.out _ _ ⟨((cell_far (p := ⟨gb554, _, none⟩) NB562_554.out _).trans (((cell_far (p := ⟨gb554, _, none⟩) NB562_554.out _).trans (((cell_far (p := ⟨gb554, _, none⟩) NB562_554.out _).trans (((cell_far (p := ⟨gb554, _, none⟩) NB562_554.out _).trans (hHeld.1)))))))), ((cell_far (p := ⟨gb554, _, none⟩) NB562_554.out _).trans (((cell_far (p := ⟨gb554, _, none⟩) NB562_554.out _).trans (((cell_far (p := ⟨gb554, _, none⟩) NB562_554.out _).trans (((cell_far (p := ⟨gb554, _, none⟩) NB562_554.out _).trans (hHeld.2.1)))))))), ((cell_far (p := ⟨gb554, _, none⟩) NB562_554.out _).trans (((cell_far (p := ⟨gb554, _, none⟩) NB562_554.out _).trans (((cell_far (p := ⟨gb554, _, none⟩) NB562_554.out _).trans (((cell_far (p := ⟨gb554, _, none⟩) NB562_554.out _).trans (hHeld.2.2.1)))))))), ((cell_far (p := ⟨gb554, _, none⟩) NB562_554.out _).trans (((cell_far (p := ⟨gb554, _, none⟩) NB562_554.out _).trans (((cell_far (p := ⟨gb554, _, none⟩) NB562_554.out _).trans (((cell_far (p := ⟨gb554, _, none⟩) NB562_554.out _).trans (hHeld.2.2.2))))))))⟩ (fun hHeld => ?_)
  clear hK K
  refine one_ (i := 5) (N := none) #[true, true, true, true, true, true] rfl rfl (by kernel_rfl) (by decide) (fun K hK => ?_)
  have hs23 : w18.cell? ⟨gb555, 0, none⟩ = some (.int .i64 0) := (blk_cell BK555.out 0).trans rfl
  have hfs23 := blk_frozen BK555.out 0
  have hns23_0 := NB554_555.out
  have hns23_2 := NB562_555.out
  have hms23_0 := NB555_554.out
  have hms23_2 := NB555_562.out
  have hs24 : w18.cell? ⟨gb555, 1, none⟩ = some (.bool false) := (blk_cell BK555.out 1).trans rfl
  have hfs24 := blk_frozen BK555.out 1
  have hns24_0 := NB554_555.out
  have hns24_2 := NB562_555.out
  have hms24_0 := NB555_554.out
  have hms24_2 := NB555_562.out
  have hs25 : w18.cell? ⟨gb555, 2, none⟩ = some (.int .i64 0) := (blk_cell BK555.out 2).trans rfl
  have hfs25 := blk_frozen BK555.out 2
  have hns25_0 := NB554_555.out
  have hns25_2 := NB562_555.out
  have hms25_0 := NB555_554.out
  have hms25_2 := NB555_562.out
  have hs26 : w18.cell? ⟨gb555, 3, none⟩ = some (.int .i64 0) := (blk_cell BK555.out 3).trans rfl
  have hfs26 := blk_frozen BK555.out 3
  have hns26_0 := NB554_555.out
  have hns26_2 := NB562_555.out
  have hms26_0 := NB555_554.out
  have hms26_2 := NB555_562.out
  refine skip_ (w1 := ?_) (by rfl) rfl ?_ ?_
  rotate_left
  ·go_simp
   rfl
  refine hK.out _ _ ⟨((cell_far (p := ⟨gb555, _, none⟩) NB562_555.out _).trans (((cell_far (p := ⟨gb555, _, none⟩) NB562_555.out _).trans (((cell_far (p := ⟨gb555, _, none⟩) NB562_555.out _).trans (((cell_far (p := ⟨gb555, _, none⟩) NB562_555.out _).trans (hHeld.1)))))))), ((cell_far (p := ⟨gb555, _, none⟩) NB562_555.out _).trans (((cell_far (p := ⟨gb555, _, none⟩) NB562_555.out _).trans (((cell_far (p := ⟨gb555, _, none⟩) NB562_555.out _).trans (((cell_far (p := ⟨gb555, _, none⟩) NB562_555.out _).trans (hHeld.2.1)))))))), ((cell_far (p := ⟨gb555, _, none⟩) NB562_555.out _).trans (((cell_far (p := ⟨gb555, _, none⟩) NB562_555.out _).trans (((cell_far (p := ⟨gb555, _, none⟩) NB562_555.out _).trans (((cell_far (p := ⟨gb555, _, none⟩) NB562_555.out _).trans (hHeld.2.2.1)))))))), ((cell_far (p := ⟨gb555, _, none⟩) NB562_555.out _).trans (((cell_far (p := ⟨gb555, _, none⟩) NB562_555.out _).trans (((cell_far (p := ⟨gb555, _, none⟩) NB562_555.out _).trans (((cell_far (p := ⟨gb555, _, none⟩) NB562_555.out _).trans (hHeld.2.2.2))))))))⟩ (fun hHeld => ?_)
  clear hK K
  refine done_ (by kernel_rfl) ?_
  try go_wp2
  refine bodyPost_ret (results_cc rfl _ _ gb554 gb555 33 33 #[.int .i64 t556, .bool t557, .int .i64 t558, .int .i64 t559] #[.int .i64 t570, .bool t571, .int .i64 t572, .int .i64 t573] (0, 0) (0, 0) _ _ rfl hkPp Tryd.underlying33 rfl (by kernel_rfl) rfl hkPp Tryd.underlying33 rfl (by kernel_rfl)) rfl ?_
  exact ⟨hkE, hkI122, hkJ122, hkKp⟩
 ·replace c4 := Bool.eq_false_iff.mpr c4
  subst c4
  have H1 : ((spec_l5bent.f k s0_0 t564 t565).bind fun bt574 => (some (t556, t557, t558, t559, bt574.1, bt574.2.1, bt574.2.2.1, bt574.2.2.2.1, bt574.2.2.2.2.1, bt574.2.2.2.2.2))) = some (r1, r2, r3, r4, r5, r6, r7, r8, r9, r10) := by rw [if_neg (show ¬ (false = true) by decide)] at H; exact H
  clear H
  have H := H1
  clear H1
  replace H := hBi H
  obtain ⟨⟨t574, t575, t576, t577, t578, t579⟩, A270, H⟩ := H
  replace H : (some (t556, t557, t558, t559, t574, t575, t576, t577, t578, t579)) = some (r1, r2, r3, r4, r5, r6, r7, r8, r9, r10) := H
  have A27 := Aside0.mk A270
  clear A270
  simp only [Option.some.injEq, Prod.mk.injEq] at H
  obtain ⟨rfl, rfl, rfl, rfl, rfl, rfl, rfl, rfl, rfl, rfl⟩ := H
  go_enter Tryd.func63, Tryd.ntmps63
  try go_wp2_with (first | ((with_reducible refine gate_dst (N := 2) rfl ?_); refine hkBox (N := 2) (cs := #[.int .i64 0, .bool false, .int .i64 0, .int .i64 0]) (t := 33) ?_; intro gb554 hg w28 hbox hb; have n_ := hkA (Aside0.mk (IsS122.below (hkI122) hb)) (hkA (Aside0.mk (KeepBut.trans (hkKp) (KeepBut.of_below hb g none) (.inl rfl))) (hkA (Aside0.mk (below_step (hkJ122) hb)) (hkA (Aside0.mk (hbox)) (hkA (Aside0.mk ((by rw [hg]; exact (keep_size (w := w) (g := g) (row := none) (hkKp)) : w.heap.size ≤ gb554))) (hkA (Aside0.mk ((Nat.le_trans HW0.out (by rw [hg]; exact (keep_size (w := w) (g := g) (row := none) (hkKp)) : w.heap.size ≤ gb554) : w0.heap.size ≤ gb554))) (hkA (Aside0.mk ((by rw [hg]; exact Nat.ne_of_lt (IsS122.lt (show IsS122 w0 _ g s0_0 s0_1 s0_2 from hkI122)) : g ≠ gb554))) (Aside0.mk ((by rw [hg]; exact Nat.ne_of_gt (IsS122.lt (show IsS122 w0 _ g s0_0 s0_1 s0_2 from hkI122)) : gb554 ≠ g))))))))); clear HI0 HK HB; obtain ⟨HI0, HK, HB, BK554, GW554, GE554, NB0_554, NB554_0⟩ := n_; clear hb hbox hg) | ((with_reducible refine gate_dst (N := 3) rfl ?_); refine hkBox (N := 3) (cs := #[.int .i64 0, .bool false, .int .i64 0, .int .i64 0]) (t := 33) ?_; intro gb555 hg w29 hbox hb; have n_ := hkA (Aside0.mk (IsS122.below (hkI122) hb)) (hkA (hkBb BK554 hb) (hkA (Aside0.mk (KeepBut.trans (hkKp) (KeepBut.of_below hb g none) (.inl rfl))) (hkA (Aside0.mk (below_step (hkJ122) hb)) (hkA (Aside0.mk (hbox)) (hkA (Aside0.mk ((by rw [hg]; exact (keep_size (w := w) (g := g) (row := none) (hkKp)) : w.heap.size ≤ gb555))) (hkA (Aside0.mk ((Nat.le_trans HW0.out (by rw [hg]; exact (keep_size (w := w) (g := g) (row := none) (hkKp)) : w.heap.size ≤ gb555) : w0.heap.size ≤ gb555))) (hkA (hkN hg BK554) (hkA (hkM hg BK554) (hkA (Aside0.mk ((by rw [hg]; exact Nat.ne_of_lt (IsS122.lt (show IsS122 w0 _ g s0_0 s0_1 s0_2 from hkI122)) : g ≠ gb555))) (Aside0.mk ((by rw [hg]; exact Nat.ne_of_gt (IsS122.lt (show IsS122 w0 _ g s0_0 s0_1 s0_2 from hkI122)) : gb555 ≠ g)))))))))))); clear HI0 BK554 HK HB; obtain ⟨HI0, BK554, HK, HB, BK555, GW555, GE555, NB554_555, NB555_554, NB0_555, NB555_0⟩ := n_; clear hb hbox hg) | ((with_reducible refine gate_callee (f := 94) rfl ?_); refine hkGo (N := some 6) Tryd.func94 #[.pointer (some ⟨g, 0, none⟩)] ?_; (with_reducible refine (spec_l5bent.calls k g s0_0 s0_1 s0_2 t556 t557 t558 t559 t560 t561 w0 _ ?side1 ?side2 A2.out).mono ?_); (case side1 => exact hkI122); (case side2 => exact hkJ122); rintro e w30 ⟨rfl, hi, hb, hk⟩; refine ⟨_, rfl, ?_⟩; have n_ := hkA (Aside0.mk (KeepBut.blk hk (g' := gb554) (o := .cells #[.int .i64 0, .bool false, .int .i64 0, .int .i64 0] 33 (0, 0)) (hkB BK554) NB554_0.out (by simp))) (hkA (Aside0.mk (KeepBut.blk hk (g' := gb555) (o := .cells #[.int .i64 0, .bool false, .int .i64 0, .int .i64 0] 33 (0, 0)) (hkB BK555) NB555_0.out (by simp))) (hkA (Aside0.mk (KeepBut.trans (hkKp) hk (.inl rfl))) (hkA (Aside0.mk (hb)) (Aside0.mk (hi))))); clear BK554 BK555 HK HB HI0; obtain ⟨BK554, BK555, HK, HB, HI0⟩ := n_; (try clear hb); (try clear hk); (try clear hi)) | ((with_reducible refine gate_dst (N := 4) rfl ?_); refine hkBox (N := 4) (cs := #[.int .i64 0, .bool false, .int .i64 0, .int .i64 0]) (t := 33) ?_; intro gb562 hg w31 hbox hb; have n_ := hkA (Aside0.mk (IsS122.below (hkI122) hb)) (hkA (hkBb BK554 hb) (hkA (hkBb BK555 hb) (hkA (Aside0.mk (KeepBut.trans (hkKp) (KeepBut.of_below hb g none) (.inl rfl))) (hkA (Aside0.mk (below_step (hkJ122) hb)) (hkA (Aside0.mk (hbox)) (hkA (Aside0.mk ((by rw [hg]; exact (keep_size (w := w) (g := g) (row := none) (hkKp)) : w.heap.size ≤ gb562))) (hkA (Aside0.mk ((Nat.le_trans HW0.out (by rw [hg]; exact (keep_size (w := w) (g := g) (row := none) (hkKp)) : w.heap.size ≤ gb562) : w0.heap.size ≤ gb562))) (hkA (hkN hg BK554) (hkA (hkM hg BK554) (hkA (hkN hg BK555) (hkA (hkM hg BK555) (hkA (Aside0.mk ((by rw [hg]; exact Nat.ne_of_lt (IsS122.lt (show IsS122 w0 _ g s0_0 t560 t561 from hkI122)) : g ≠ gb562))) (Aside0.mk ((by rw [hg]; exact Nat.ne_of_gt (IsS122.lt (show IsS122 w0 _ g s0_0 t560 t561 from hkI122)) : gb562 ≠ g))))))))))))))); clear HI0 BK554 BK555 HK HB; obtain ⟨HI0, BK554, BK555, HK, HB, BK562, GW562, GE562, NB554_562, NB562_554, NB555_562, NB562_555, NB0_562, NB562_0⟩ := n_; clear hb hbox hg; have hnb32 := NB562_554.out; have hnc32 := NB554_562.out; have hnb33 := NB562_555.out; have hnc33 := NB555_562.out; have hnb34 := NB562_0.out; have hnc34 := NB0_562.out; obtain ⟨hcz35_0, hfz35_0, hcz35_1, hfz35_1, hcz35_2, hfz35_2, hcz35_3, hfz35_3⟩ := hkc4 BK562) | ((with_reducible refine gate_callee (f := 64) rfl ?_); refine hkGo (N := some 8) Tryd.func64 #[.pointer (some ⟨g, 0, none⟩), .int .i64 4] ?_; (with_reducible refine (spec_l1Once.calls g s0_0 t560 t561 4 false t564 t565 w0 _ ?side1 ?side2 A3.out).mono ?_); (case side1 => exact hkI122); (case side2 => exact hkJ122); rintro e w36 ⟨rfl, hi, hb, hk⟩; refine ⟨_, rfl, ?_⟩; have n_ := hkA (Aside0.mk (KeepBut.blk hk (g' := gb554) (o := .cells #[.int .i64 0, .bool false, .int .i64 0, .int .i64 0] 33 (0, 0)) hkPp NB554_0.out (by simp))) (hkA (Aside0.mk (KeepBut.blk hk (g' := gb555) (o := .cells #[.int .i64 0, .bool false, .int .i64 0, .int .i64 0] 33 (0, 0)) hkPp NB555_0.out (by simp))) (hkA (Aside0.mk (KeepBut.blk hk (g' := gb562) (o := .cells #[.int .i64 t556, .bool t557, .int .i64 t558, .int .i64 t559] 33 (0, 0)) hkPp NB562_0.out (by simp))) (hkA (Aside0.mk (KeepBut.trans (hkKp) hk (.inl rfl))) (hkA (Aside0.mk (hb)) (Aside0.mk (hi)))))); clear BK554 BK555 BK562 HK HB HI0; obtain ⟨BK554, BK555, BK562, HK, HB, HI0⟩ := n_; (try clear hb); (try clear hk); (try clear hi)))
  have n_ := hkA (Aside0.mk (blk_drew BK554.out)) (hkA (Aside0.mk (blk_drew BK555.out)) (hkA (Aside0.mk (blk_drew BK562.out)) (hkA (Aside0.mk (IsS122.drew HI0.out)) (hkA (Aside0.mk (keep_drew HK.out)) (Aside0.mk (below_drew1 HB.out))))))
  clear BK554 BK555 BK562 HI0 HK HB
  obtain ⟨BK554, BK555, BK562, HI0, HK, HB⟩ := n_
  refine start_ (n := 5) (S := fun w' => w'.cell? ⟨gb562, 0, none⟩ = some (.int .i64 t556) ∧ w'.cell? ⟨gb562, 1, none⟩ = some (.bool t557) ∧ w'.cell? ⟨gb562, 2, none⟩ = some (.int .i64 t558) ∧ w'.cell? ⟨gb562, 3, none⟩ = some (.int .i64 t559)) (ds := []) #[false, false, false, false, false] (by kernel_rfl) rfl rfl ⟨(blk_cell BK562.out 0).trans rfl, (blk_cell BK562.out 1).trans rfl, (blk_cell BK562.out 2).trans rfl, (blk_cell BK562.out 3).trans rfl⟩ (fun hHeld => ?_)
  generalize w36.drew = w37 at BK554 BK555 BK562 HI0 HK HB hHeld ⊢
  refine hkPu (i := 1) (N := some 14) ?_
  refine hkTk (i := 0) (N := some 13) hHeld ?_ (hy := by rintro w' ⟨s0, s1, s2, s3⟩; go_simp; with_reducible rfl)
  refine one_ (i := 2) (N := some 15) #[true, true, true, false, false] rfl rfl (by kernel_rfl) (by decide) (fun K hK => ?_)
  refine goes_ Tryd.func94 (by kernel_rfl) rfl #[.pointer (some ⟨g, 0, none⟩)] (by rfl) rfl rfl hkL ?_
  with_reducible refine (spec_l5bent.calls k g s0_0 t564 t565 t574 t575 t576 t577 t578 t579 w0 _ ?side1 ?side2 A27.out).mono ?_
  (case side1 => exact hkI122)
  (case side2 => exact hkJ122)
  rintro e w38 ⟨rfl, hi, hb, hk⟩
  refine ⟨_, rfl, ?_⟩
  have n_ := hkA (Aside0.mk (KeepBut.blk hk (g' := gb554) (o := .cells #[.int .i64 0, .bool false, .int .i64 0, .int .i64 0] 33 (0, 0)) (hkB BK554) NB554_0.out (by simp))) (hkA (Aside0.mk (KeepBut.blk hk (g' := gb555) (o := .cells #[.int .i64 0, .bool false, .int .i64 0, .int .i64 0] 33 (0, 0)) (hkB BK555) NB555_0.out (by simp))) (hkA (Aside0.mk (KeepBut.blk hk (g' := gb562) (o := .cells #[.int .i64 t556, .bool t557, .int .i64 t558, .int .i64 t559] 33 (0, 0)) (hkB BK562) NB562_0.out (by simp))) (hkA (Aside0.mk (KeepBut.trans (hkKp) hk (.inl rfl))) (hkA (Aside0.mk (hb)) (Aside0.mk (hi))))))
  clear BK554 BK555 BK562 HK HB HI0
  obtain ⟨BK554, BK555, BK562, HK, HB, HI0⟩ := n_
  (try clear hb); (try clear hk); (try clear hi)
  refine hK.out _ _ ⟨(blk_cell BK562.out 0).trans rfl, (blk_cell BK562.out 1).trans rfl, (blk_cell BK562.out 2).trans rfl, (blk_cell BK562.out 3).trans rfl⟩ (fun hHeld => ?_)
  clear hK K
  refine hkNo (N := some 15) ?_
  refine one_ (i := 3) (N := none) #[true, true, true, true, false] rfl rfl (by kernel_rfl) (by decide) (fun K hK => ?_)
  have hs39 : w38.cell? ⟨gb554, 0, none⟩ = some (.int .i64 0) := (blk_cell BK554.out 0).trans rfl
  have hfs39 := blk_frozen BK554.out 0
  have hns39_1 := NB555_554.out
  have hns39_2 := NB562_554.out
  have hms39_1 := NB554_555.out
  have hms39_2 := NB554_562.out
  have hs40 : w38.cell? ⟨gb554, 1, none⟩ = some (.bool false) := (blk_cell BK554.out 1).trans rfl
  have hfs40 := blk_frozen BK554.out 1
  have hns40_1 := NB555_554.out
  have hns40_2 := NB562_554.out
  have hms40_1 := NB554_555.out
  have hms40_2 := NB554_562.out
  have hs41 : w38.cell? ⟨gb554, 2, none⟩ = some (.int .i64 0) := (blk_cell BK554.out 2).trans rfl
  have hfs41 := blk_frozen BK554.out 2
  have hns41_1 := NB555_554.out
  have hns41_2 := NB562_554.out
  have hms41_1 := NB554_555.out
  have hms41_2 := NB554_562.out
  have hs42 : w38.cell? ⟨gb554, 3, none⟩ = some (.int .i64 0) := (blk_cell BK554.out 3).trans rfl
  have hfs42 := blk_frozen BK554.out 3
  have hns42_1 := NB555_554.out
  have hns42_2 := NB562_554.out
  have hms42_1 := NB554_555.out
  have hms42_2 := NB554_562.out
  refine skip_ (w1 := ?_) (by rfl) rfl ?_ ?_
  rotate_left
  ·go_simp
   rfl
  refine hK.out _ _ ⟨((cell_far (p := ⟨gb554, _, none⟩) NB562_554.out _).trans (((cell_far (p := ⟨gb554, _, none⟩) NB562_554.out _).trans (((cell_far (p := ⟨gb554, _, none⟩) NB562_554.out _).trans (((cell_far (p := ⟨gb554, _, none⟩) NB562_554.out _).trans (hHeld.1)))))))), ((cell_far (p := ⟨gb554, _, none⟩) NB562_554.out _).trans (((cell_far (p := ⟨gb554, _, none⟩) NB562_554.out _).trans (((cell_far (p := ⟨gb554, _, none⟩) NB562_554.out _).trans (((cell_far (p := ⟨gb554, _, none⟩) NB562_554.out _).trans (hHeld.2.1)))))))), ((cell_far (p := ⟨gb554, _, none⟩) NB562_554.out _).trans (((cell_far (p := ⟨gb554, _, none⟩) NB562_554.out _).trans (((cell_far (p := ⟨gb554, _, none⟩) NB562_554.out _).trans (((cell_far (p := ⟨gb554, _, none⟩) NB562_554.out _).trans (hHeld.2.2.1)))))))), ((cell_far (p := ⟨gb554, _, none⟩) NB562_554.out _).trans (((cell_far (p := ⟨gb554, _, none⟩) NB562_554.out _).trans (((cell_far (p := ⟨gb554, _, none⟩) NB562_554.out _).trans (((cell_far (p := ⟨gb554, _, none⟩) NB562_554.out _).trans (hHeld.2.2.2))))))))⟩ (fun hHeld => ?_)
  clear hK K
  refine one_ (i := 4) (N := none) #[true, true, true, true, true] rfl rfl (by kernel_rfl) (by decide) (fun K hK => ?_)
  have hs43 : w38.cell? ⟨gb555, 0, none⟩ = some (.int .i64 0) := (blk_cell BK555.out 0).trans rfl
  have hfs43 := blk_frozen BK555.out 0
  have hns43_0 := NB554_555.out
  have hns43_2 := NB562_555.out
  have hms43_0 := NB555_554.out
  have hms43_2 := NB555_562.out
  have hs44 : w38.cell? ⟨gb555, 1, none⟩ = some (.bool false) := (blk_cell BK555.out 1).trans rfl
  have hfs44 := blk_frozen BK555.out 1
  have hns44_0 := NB554_555.out
  have hns44_2 := NB562_555.out
  have hms44_0 := NB555_554.out
  have hms44_2 := NB555_562.out
  have hs45 : w38.cell? ⟨gb555, 2, none⟩ = some (.int .i64 0) := (blk_cell BK555.out 2).trans rfl
  have hfs45 := blk_frozen BK555.out 2
  have hns45_0 := NB554_555.out
  have hns45_2 := NB562_555.out
  have hms45_0 := NB555_554.out
  have hms45_2 := NB555_562.out
  have hs46 : w38.cell? ⟨gb555, 3, none⟩ = some (.int .i64 0) := (blk_cell BK555.out 3).trans rfl
  have hfs46 := blk_frozen BK555.out 3
  have hns46_0 := NB554_555.out
  have hns46_2 := NB562_555.out
  have hms46_0 := NB555_554.out
  have hms46_2 := NB555_562.out
  refine skip_ (w1 := ?_) (by rfl) rfl ?_ ?_
  rotate_left
  ·go_simp
   rfl
  refine hK.out _ _ ⟨((cell_far (p := ⟨gb555, _, none⟩) NB562_555.out _).trans (((cell_far (p := ⟨gb555, _, none⟩) NB562_555.out _).trans (((cell_far (p := ⟨gb555, _, none⟩) NB562_555.out _).trans (((cell_far (p := ⟨gb555, _, none⟩) NB562_555.out _).trans (hHeld.1)))))))), ((cell_far (p := ⟨gb555, _, none⟩) NB562_555.out _).trans (((cell_far (p := ⟨gb555, _, none⟩) NB562_555.out _).trans (((cell_far (p := ⟨gb555, _, none⟩) NB562_555.out _).trans (((cell_far (p := ⟨gb555, _, none⟩) NB562_555.out _).trans (hHeld.2.1)))))))), ((cell_far (p := ⟨gb555, _, none⟩) NB562_555.out _).trans (((cell_far (p := ⟨gb555, _, none⟩) NB562_555.out _).trans (((cell_far (p := ⟨gb555, _, none⟩) NB562_555.out _).trans (((cell_far (p := ⟨gb555, _, none⟩) NB562_555.out _).trans (hHeld.2.2.1)))))))), ((cell_far (p := ⟨gb555, _, none⟩) NB562_555.out _).trans (((cell_far (p := ⟨gb555, _, none⟩) NB562_555.out _).trans (((cell_far (p := ⟨gb555, _, none⟩) NB562_555.out _).trans (((cell_far (p := ⟨gb555, _, none⟩) NB562_555.out _).trans (hHeld.2.2.2))))))))⟩ (fun hHeld => ?_)
  clear hK K
  refine done_ (by kernel_rfl) ?_
  try go_wp2
  refine bodyPost_ret (results_cc rfl _ _ gb554 gb555 33 33 #[.int .i64 t556, .bool t557, .int .i64 t558, .int .i64 t559] #[.int .i64 t574, .bool t575, .int .i64 t576, .int .i64 t577] (0, 0) (0, 0) _ _ rfl hkPp Tryd.underlying33 rfl (by kernel_rfl) rfl hkPp Tryd.underlying33 rfl (by kernel_rfl)) rfl ?_
  exact ⟨hkE, hkI122, hkJ122, hkKp⟩

end Go.Proofs.YtgjpahofopoflaaDoor.PFnFlOrder
