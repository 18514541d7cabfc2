-- Written by our own driver (wip/hand/hprint.py) over the seat's translation.
import Derived.Test.YtgjpahofopoflaaPFnExactNatGcdx0
import Derived.Test.YtgjpahofopoflaaPFnExactNatGcdx5
import Derived.Test.YtgjpahofopoflaaPFnExactNatGcdx6
import Derived.Test.YtgjpahofopoflaaPFnExactNatGcdx7
namespace Go.Proofs.Ytgjpahofopoflaa.PFnExactNatGcd
open Go.RowKit Go.Proofs.YtgjpahofopoflaaW.PrintWords Go.Proofs.YtgjpahofopoflaaW.PrintLast Go.Proofs.YtgjpahofopoflaaW.PrintMore
attribute [local go_sem] max2_int min2_int max_two min_two max_three min_three max_four min_four   -- for this text's walks alone
set_option linter.unusedVariables false
set_option linter.unusedSimpArgs false

/-! ### spec_l2div: function 64 -/
mutual
def spec_l2div.l0 : Nat → List Int → Int → List Int → List Int → List Int → Option (List Int × List Int)
  | 0, _, _, _, _, _ => none
  | k + 1, x8, x10, x337000, x338000, x353000 => if x10 ≥ 0 then (if 0 ≤ x10 then (if x10 < (x337000.length : Int) then ((some (([rd x337000 x10] : List Int) : List Int)).bind fun y357 => (if y357.length + x353000.length < 17592186044416 then ((spec_l2norm.f k (y357 ++ x353000)).bind fun t363 => (spec_l2div.l1 k x8 x10 0 65536 x337000 x338000 t363)) else (none))) else (none)) else (none)) else ((spec_l2norm.f k x8).bind fun t353 => (some (t353, x353000)))
def spec_l2div.l1 : Nat → List Int → Int → Int → Int → List Int → List Int → List Int → Option (List Int × List Int)
  | 0, _, _, _, _, _, _, _ => none
  | k + 1, x8, x10, x11, x12, x337000, x338000, x353000 => if (wrap64 (x12 - x11)) > 1 then ((spec_l2of.f k (wrap64 (Int.tdiv (wrap64 (x11 + x12)) 2))).bind fun t376 => ((spec_l2mul.f k x338000 t376).bind fun t379 => ((spec_l2cmp.f k t379 x353000).bind fun t382 => (if t382 ≤ 0 then (spec_l2div.l1 k x8 x10 (wrap64 (Int.tdiv (wrap64 (x11 + x12)) 2)) x12 x337000 x338000 x353000) else (spec_l2div.l1 k x8 x10 x11 (wrap64 (Int.tdiv (wrap64 (x11 + x12)) 2)) x337000 x338000 x353000))))) else (if 0 ≤ x10 then (if x10 < (x8.length : Int) then ((spec_l2of.f k x11).bind fun t367 => ((spec_l2mul.f k x338000 t367).bind fun t370 => ((spec_l2sub.f k x353000 t370).bind fun t373 => (spec_l2div.l0 k (x8.set (x10 : Int).toNat x11) (wrap64 (x10 - 1)) x337000 x338000 t373)))) else (none)) else (none))
end
def spec_l2div.f (k : Nat) (l0_0 : List Int) (l1_0 : List Int) : Option (List Int × List Int) := if (l1_0.length : Int) = 1 then (if 0 < (l1_0.length : Int) then ((spec_l2small.f k l0_0 (rd l1_0 0)).bind fun bt341 => ((spec_l2of.f k bt341.2).bind fun t346 => (some (bt341.1, t346)))) else (none)) else (if 0 ≤ (l0_0.length : Int) then (if ((l0_0.length : Int) : Int).toNat ≤ 35184372088832 then (spec_l2div.l0 k (List.replicate ((l0_0.length : Int) : Int).toNat 0) (wrap64 ((l0_0.length : Int) - 1)) l0_0 l1_0 ([] : List Int)) else (none)) else (none))
theorem spec_l2div.mono_l : ∀ k, (∀ y0 y1 y2 y3 y4, LeO (spec_l2div.l0 k y0 y1 y2 y3 y4) (spec_l2div.l0 (k + 1) y0 y1 y2 y3 y4)) ∧ (∀ y0 y1 y2 y3 y4 y5 y6, LeO (spec_l2div.l1 k y0 y1 y2 y3 y4 y5 y6) (spec_l2div.l1 (k + 1) y0 y1 y2 y3 y4 y5 y6))
  | 0 => ⟨fun _ _ _ _ _ r h => by simp [spec_l2div.l0] at h, fun _ _ _ _ _ _ _ r h => by simp [spec_l2div.l1] at h⟩
  | k + 1 => by
    obtain ⟨ih0, ih1⟩ := spec_l2div.mono_l k
    refine ⟨?_, ?_⟩
    · intro y0 y1 y2 y3 y4
      unfold spec_l2div.l0
      repeat' first
      | (with_reducible exact ih0 _ _ _ _ _)
      | (with_reducible exact ih1 _ _ _ _ _ _ _)
      | (with_reducible exact spec_l2cmp.mono _ _ _)
      | (with_reducible exact spec_l2mul.mono _ _ _)
      | (with_reducible exact spec_l2norm.mono _ _)
      | (with_reducible exact spec_l2of.mono _ _)
      | (with_reducible exact spec_l2small.mono _ _ _)
      | (with_reducible exact spec_l2sub.mono _ _ _)
      | (with_reducible exact LeO.refl _)
      | (with_reducible exact LeO.none _)
      | (with_reducible refine LeO.ite ?_ ?_)
      | (with_reducible refine LeO.bind ?_ (fun _ => ?_))
      | exact ih0 _ _ _ _ _
      | exact ih1 _ _ _ _ _ _ _
      | exact spec_l2cmp.mono _ _ _
      | exact spec_l2mul.mono _ _ _
      | exact spec_l2norm.mono _ _
      | exact spec_l2of.mono _ _
      | exact spec_l2small.mono _ _ _
      | exact spec_l2sub.mono _ _ _
      | exact LeO.none _
      | refine LeO.ite ?_ ?_
      | refine LeO.bind ?_ (fun _ => ?_)
    · intro y0 y1 y2 y3 y4 y5 y6
      unfold spec_l2div.l1
      repeat' first
      | (with_reducible exact ih0 _ _ _ _ _)
      | (with_reducible exact ih1 _ _ _ _ _ _ _)
      | (with_reducible exact spec_l2cmp.mono _ _ _)
      | (with_reducible exact spec_l2mul.mono _ _ _)
      | (with_reducible exact spec_l2norm.mono _ _)
      | (with_reducible exact spec_l2of.mono _ _)
      | (with_reducible exact spec_l2small.mono _ _ _)
      | (with_reducible exact spec_l2sub.mono _ _ _)
      | (with_reducible exact LeO.refl _)
      | (with_reducible exact LeO.none _)
      | (with_reducible refine LeO.ite ?_ ?_)
      | (with_reducible refine LeO.bind ?_ (fun _ => ?_))
      | exact ih0 _ _ _ _ _
      | exact ih1 _ _ _ _ _ _ _
      | exact spec_l2cmp.mono _ _ _
      | exact spec_l2mul.mono _ _ _
      | exact spec_l2norm.mono _ _
      | exact spec_l2of.mono _ _
      | exact spec_l2small.mono _ _ _
      | exact spec_l2sub.mono _ _ _
      | exact LeO.none _
      | refine LeO.ite ?_ ?_
      | refine LeO.bind ?_ (fun _ => ?_)
theorem spec_l2div.mono : ∀ a0 a1 k, LeO (spec_l2div.f k a0 a1) (spec_l2div.f (k + 1) a0 a1) := by
  intro a0 a1 k
  obtain ⟨ih0, ih1⟩ := spec_l2div.mono_l k
  unfold spec_l2div.f
  repeat' first
      | (with_reducible exact ih0 _ _ _ _ _)
      | (with_reducible exact ih1 _ _ _ _ _ _ _)
      | (with_reducible exact spec_l2cmp.mono _ _ _)
      | (with_reducible exact spec_l2mul.mono _ _ _)
      | (with_reducible exact spec_l2norm.mono _ _)
      | (with_reducible exact spec_l2of.mono _ _)
      | (with_reducible exact spec_l2small.mono _ _ _)
      | (with_reducible exact spec_l2sub.mono _ _ _)
      | (with_reducible exact LeO.refl _)
      | (with_reducible exact LeO.none _)
      | (with_reducible refine LeO.ite ?_ ?_)
      | (with_reducible refine LeO.bind ?_ (fun _ => ?_))
      | exact ih0 _ _ _ _ _
      | exact ih1 _ _ _ _ _ _ _
      | exact spec_l2cmp.mono _ _ _
      | exact spec_l2mul.mono _ _ _
      | exact spec_l2norm.mono _ _
      | exact spec_l2of.mono _ _
      | exact spec_l2small.mono _ _ _
      | exact spec_l2sub.mono _ _ _
      | exact LeO.none _
      | refine LeO.ite ?_ ?_
      | refine LeO.bind ?_ (fun _ => ?_)
def spec_l2div.T2 : Bool × List (List Nat × List Nat) := (true, [([], []), ([], []), ([1], [1]), ([2], [2]), ([3], [3]), ([0, 4], [0, 4]), ([5], [5]), ([6], [6]), ([6], [6]), ([], []), ([9, 7, 5, 0, 1, 2, 3, 4, 5, 6, 7, 9], [7, 9]), ([8, 10, 0, 1, 2, 3, 4, 5, 6, 7, 8, 9, 10], [8])])
def spec_l2div.B2 : List Nat := [0, 0, 2, 6, 14, 31, 63, 127, 127, 0, 767, 2047]
theorem spec_l2div.tab2 : rtab .any (opsOf Try.f64 2) = spec_l2div.T2 := by kernel_rfl
theorem spec_l2div.bits2 : waitsOk spec_l2div.T2.2 spec_l2div.B2 = true := by kernel_rfl
def spec_l2div.T9 : Bool × List (List Nat × List Nat) := (true, [([], []), ([0], [0]), ([], []), ([1, 2], [1, 2]), ([3], [3]), ([4], [4]), ([], []), ([6], [6]), ([5, 7], [5, 7]), ([8, 8], [8]), ([9, 9, 0, 1, 2, 3, 4, 5, 6, 7, 8, 9], [9])])
def spec_l2div.B9 : List Nat := [0, 1, 0, 7, 15, 31, 0, 64, 255, 511, 1023]
theorem spec_l2div.tab9 : rtab .any (opsOf Try.f64 9) = spec_l2div.T9 := by kernel_rfl
theorem spec_l2div.bits9 : waitsOk spec_l2div.T9.2 spec_l2div.B9 = true := by kernel_rfl
set_option maxHeartbeats 8000000 in
set_option maxRecDepth 100000 in
theorem spec_l2div.calls (k : Nat) (A0_0 : Option Addr) (c0_0 : Nat) (l0_0 : List Int) (A1_0 : Option Addr) (c1_0 : Nat) (l1_0 : List Int) (r1 : List Int) (r2 : List Int) (w : World) (hr0_0 : Kd.C (Kd.int .i64) w A0_0 l0_0.length l0_0) (hc0_0 : l0_0.length ≤ c0_0) (hr1_0 : Kd.C (Kd.int .i64) w A1_0 l1_0.length l1_0) (hc1_0 : l1_0.length ≤ c1_0) (h : spec_l2div.f k l0_0 l1_0 = some (r1, r2)) :
    Calls Try.prog 64 #[.agg #[.slice A0_0 l0_0.length c0_0], .agg #[.slice A1_0 l1_0.length c1_0]] w fun e w' => ∃ v0_ v1_ : Value, e = .returned (.tuple #[.agg #[v0_], .agg #[v1_]]) ∧ Kd.R (Kd.int .i64) 3 w' w.heap.size (fun k_ => some k_ ≠ (v1_ : Value).ownBlock) v0_ r1 ∧ Kd.R (Kd.int .i64) 3 w' w.heap.size (fun k_ => some k_ ≠ (v0_ : Value).ownBlock) v1_ r2 ∧ Below w.heap.size w w' := by
  have hu38 := Try.underlying38
  have HR0_0 := Aside0.mk hr0_0
  have HC0_0 := Aside0.mk hc0_0
  clear hr0_0 hc0_0
  have HR1_0 := Aside0.mk hr1_0
  have HC1_0 := Aside0.mk hc1_0
  clear hr1_0 hc1_0
  have HB := Aside0.mk (Below.refl w.heap.size w)
  have H : (if (l1_0.length : Int) = 1 then (if 0 < (l1_0.length : Int) then ((spec_l2small.f k l0_0 (rd l1_0 0)).bind fun bt341 => ((spec_l2of.f k bt341.2).bind fun t346 => (some (bt341.1, t346)))) else (none)) else (if 0 ≤ (l0_0.length : Int) then (if ((l0_0.length : Int) : Int).toNat ≤ 35184372088832 then (spec_l2div.l0 k (List.replicate ((l0_0.length : Int) : Int).toNat 0) (wrap64 ((l0_0.length : Int) - 1)) l0_0 l1_0 ([] : List Int)) else (none)) else (none))) = some (r1, r2) := h
  clear h
  by_cases c3 : (l1_0.length : Int) = 1
  · rw [if_pos c3] at H
    have c3b0 : ((l1_0.length : Int) == 1) = true := beq_iff_eq.mpr c3
    have c3b1 : ((l1_0.length : Int) != 1) = false := bne_eq_false_iff_eq.mpr c3
    clear c3
    by_cases c4 : 0 < (l1_0.length : Int)
    · rw [if_pos c4] at H
      have c4b0 : decide (0 < (l1_0.length : Int)) = true := decide_eq_true c4
      have c4b1 : decide (0 < l1_0.length) = true := decide_eq_true (by omega)
      clear c4
      replace H := Option.bind_eq_some_iff.mp H
      obtain ⟨⟨t341, t344⟩, A50, H⟩ := H
      replace H : ((spec_l2of.f k t344).bind fun t346 => (some (t341, t346))) = some (r1, r2) := H
      have A5 := Aside0.mk A50
      clear A50
      replace H := Option.bind_eq_some_iff.mp H
      obtain ⟨t346, A60, H⟩ := H
      replace H : (some (t341, t346)) = some (r1, r2) := H
      have A6 := Aside0.mk A60
      clear A60
      simp only [Option.some.injEq, Prod.mk.injEq] at H
      obtain ⟨rfl, rfl⟩ := H
      go_enter Try.func64, Try.ntmps64
      try go_wp2_with (first | ((with_reducible refine gate_dst (N := 2) rfl ?_); refine box_event ?hg (N := 2) ?hd (cs := #[.slice A0_0 l0_0.length c0_0]) (t := 38) ?hr ?_; (case hd => rfl); (case hg => rfl); (case hr => first | (go_simp; done) | (go_simp; rfl)); intro gb336 hg w7 hbox hb; have n0_ := Aside0.mk (below_step (hkS HB) hb); have n1_ := Aside0.mk (hbox); have n2_ := hkG hg (hkS HB); have n3_ := hkG hg (hkS HB); clear HB; have HB := n0_; have BK336 := n1_; have GW336 := n2_; have GE336 := n3_; clear n0_ n1_ n2_ n3_; clear hb hbox hg) | ((with_reducible refine gate_dst (N := 3) rfl ?_); refine box_event ?hg (N := 3) ?hd (cs := #[.slice A1_0 l1_0.length c1_0]) (t := 38) ?hr ?_; (case hd => rfl); (case hg => rfl); (case hr => first | (go_simp; done) | (go_simp; rfl)); intro gb337 hg w8 hbox hb; have n0_ := hkBb BK336 hb; have n1_ := Aside0.mk (below_step (hkS HB) hb); have n2_ := Aside0.mk (hbox); have n3_ := hkG hg (hkS HB); have n4_ := hkG hg (hkS HB); have n5_ := hkN hg BK336; have n6_ := hkM hg BK336; clear BK336; clear HB; have BK336 := n0_; have HB := n1_; have BK337 := n2_; have GW337 := n3_; have GE337 := n4_; have NB336_337 := n5_; have NB337_336 := n6_; clear n0_ n1_ n2_ n3_ n4_ n5_ n6_; clear hb hbox hg) | ((with_reducible refine gate_dst (N := 4) rfl ?_); refine box_event ?hg (N := 4) ?hd (cs := #[.slice none 0 0]) (t := 38) ?hr ?_; (case hd => rfl); (case hg => rfl); (case hr => first | (go_simp; done) | (go_simp; rfl)); intro gb338 hg w9 hbox hb; have n0_ := hkBb BK336 hb; have n1_ := hkBb BK337 hb; have n2_ := Aside0.mk (below_step (hkS HB) hb); have n3_ := Aside0.mk (hbox); have n4_ := hkG hg (hkS HB); have n5_ := hkG hg (hkS HB); have n6_ := hkN hg BK336; have n7_ := hkM hg BK336; have n8_ := hkN hg BK337; have n9_ := hkM hg BK337; clear BK336; clear BK337; clear HB; have BK336 := n0_; have BK337 := n1_; have HB := n2_; have BK338 := n3_; have GW338 := n4_; have GE338 := n5_; have NB336_338 := n6_; have NB338_336 := n7_; have NB337_338 := n8_; have NB338_337 := n9_; clear n0_ n1_ n2_ n3_ n4_ n5_ n6_ n7_ n8_ n9_; clear hb hbox hg) | ((with_reducible refine gate_dst (N := 5) rfl ?_); refine box_event ?hg (N := 5) ?hd (cs := #[.slice none 0 0]) (t := 38) ?hr ?_; (case hd => rfl); (case hg => rfl); (case hr => first | (go_simp; done) | (go_simp; rfl)); intro gb339 hg w10 hbox hb; have n0_ := hkBb BK336 hb; have n1_ := hkBb BK337 hb; have n2_ := hkBb BK338 hb; have n3_ := Aside0.mk (below_step (hkS HB) hb); have n4_ := Aside0.mk (hbox); have n5_ := hkG hg (hkS HB); have n6_ := hkG hg (hkS HB); have n7_ := hkN hg BK336; have n8_ := hkM hg BK336; have n9_ := hkN hg BK337; have n10_ := hkM hg BK337; have n11_ := hkN hg BK338; have n12_ := hkM hg BK338; clear BK336; clear BK337; clear BK338; clear HB; have BK336 := n0_; have BK337 := n1_; have BK338 := n2_; have HB := n3_; have BK339 := n4_; have GW339 := n5_; have GE339 := n6_; have NB336_339 := n7_; have NB339_336 := n8_; have NB337_339 := n9_; have NB339_337 := n10_; have NB338_339 := n11_; have NB339_338 := n12_; clear n0_ n1_ n2_ n3_ n4_ n5_ n6_ n7_ n8_ n9_ n10_ n11_ n12_; clear hb hbox hg; have hnb11 := NB337_336.out; have hnc11 := NB336_337.out; have hnb12 := NB337_338.out; have hnc12 := NB338_337.out; have hnb13 := NB337_339.out; have hnc13 := NB339_337.out; have hcz14_0 : w10.cell? ⟨gb337, 0, none⟩ = some (.slice A1_0 l1_0.length c1_0) := (blk_cell BK337.out 0).trans rfl; have hfz14_0 := blk_frozen BK337.out 0))
      have n0_ := Aside0.mk (blk_drew BK336.out)
      have n1_ := Aside0.mk (blk_drew BK337.out)
      have n2_ := Aside0.mk (blk_drew BK338.out)
      have n3_ := Aside0.mk (blk_drew BK339.out)
      have n4_ := Aside0.mk (below_drew1 HB.out)
      clear BK336
      clear BK337
      clear BK338
      clear BK339
      clear HB
      have BK336 := n0_
      have BK337 := n1_
      have BK338 := n2_
      have BK339 := n3_
      have HB := n4_
      clear n0_ n1_ n2_ n3_ n4_
      have p340 : 0 ≤ (0 : Int) := (by omega)
      have q340 : 0 < (l1_0.length : Int) := of_decide_eq_true (by first | (with_reducible assumption) | assumption)
      obtain ⟨ad340, e340, hx340_0⟩ := Kd.at_int HR1_0.out 0 p340 q340
      have hw340_0 := hx340_0
      (try rw [show ((0 : Int)).toNat = 0 from rfl] at hw340_0)
      (try rw [show 0 * 1 = 0 from rfl] at hw340_0)
      (try rw [Addr.add_zero'] at hw340_0)
      cases e340
      have qi340 : (0 < l1_0.length) = True := eq_true (by omega)
      (try rw [show ((0 : Int)).toNat = 0 from rfl] at hx340_0)
      (try rw [Addr.add_zero'] at hx340_0)
      replace hx340_0 := (HB.out.cell (World.block_lt_of_cell? w _ hx340_0)).trans hx340_0
      replace p340 := eq_true p340
      replace q340 := eq_true q340
      refine start_ (n := 12) (S := fun w' => w'.cell? ⟨gb336, 0, none⟩ = some (.slice A0_0 l0_0.length c0_0) ∧ w'.cell? ⟨gb337, 0, none⟩ = some (.slice (some ad340) l1_0.length c1_0) ∧ w'.cell? ad340 = some (.int .i64 (rd l1_0 0))) (ds := []) #[false, false, false, false, false, false, false, false, false, false, false, false] (by kernel_rfl) rfl rfl ⟨(blk_cell BK336.out 0).trans rfl, (blk_cell BK337.out 0).trans rfl, ((HB.out.cell (World.block_lt_of_cell? w _ hw340_0)).trans hw340_0)⟩ (fun hHeld => ?_); refine with_tabW spec_l2div.tab2 spec_l2div.bits2 (fun HT_ HW_ => ?_)
      generalize w10.drew = w15 at BK336 BK337 BK338 BK339 HB hx340_0 hHeld ⊢
      refine pure_ (i := 1) (N := some 20) (v := ?_) (a' := ?_) #[false, true, false, false, false, false, false, false, false, false, false, false] rfl rfl (any_of HT_.out (by kernel_rfl)) (fun _ _ _ h => h) (Or.inl ⟨by rfl, ?_⟩) ?_ ?_
      rotate_left
      · intro w'
        go_simp
        with_reducible rfl
      rotate_left
      · simp only [Act.put, List.setIfInBounds_toArray, List.set_cons_zero, List.set_cons_succ, i64_w, i32_w]
        rfl
      refine take_ (i := 0) (N := some 19) (v := ?_) (a' := ?_) #[true, true, false, false, false, false, false, false, false, false, false, false] rfl rfl (take_ofW HT_.out HW_.out (by kernel_rfl)) (fun _ _ _ h => h) (Or.inl ⟨by rfl, ?_⟩) hHeld ?_ ?_
      rotate_left
      · rintro w' ⟨s0, s1, s2⟩
        go_simp
        with_reducible rfl
      rotate_left
      · simp only [Act.put, List.setIfInBounds_toArray, List.set_cons_zero, List.set_cons_succ, i64_w, i32_w]
        rfl
      refine take_ (i := 2) (N := some 21) (v := ?_) (a' := ?_) #[true, true, true, false, false, false, false, false, false, false, false, false] rfl rfl (take_ofW HT_.out HW_.out (by kernel_rfl)) (fun _ _ _ h => h) (Or.inl ⟨by rfl, ?_⟩) hHeld ?_ ?_
      rotate_left
      · rintro w' ⟨s0, s1, s2⟩
        go_simp
        with_reducible rfl
      rotate_left
      · simp only [Act.put, List.setIfInBounds_toArray, List.set_cons_zero, List.set_cons_succ, i64_w, i32_w]
        rfl
      refine pure_ (i := 3) (N := some 22) (v := ?_) (a' := ?_) #[true, true, true, true, false, false, false, false, false, false, false, false] rfl rfl (any_of HT_.out (by kernel_rfl)) (fun _ _ _ h => h) (Or.inl ⟨by rfl, ?_⟩) ?_ ?_
      rotate_left
      · intro w'
        go_simp
        with_reducible rfl
      rotate_left
      · simp only [Act.put, List.setIfInBounds_toArray, List.set_cons_zero, List.set_cons_succ, i64_w, i32_w]
        rfl
      refine take_ (i := 4) (N := some 23) (v := ?_) (a' := ?_) #[true, true, true, true, true, false, false, false, false, false, false, false] rfl rfl (take_ofW HT_.out HW_.out (by kernel_rfl)) (fun _ _ _ h => h) (Or.inl ⟨by rfl, ?_⟩) hHeld ?_ ?_
      rotate_left
      · rintro w' ⟨s0, s1, s2⟩
        go_simp
        with_reducible rfl
      rotate_left
      · simp only [Act.put, List.setIfInBounds_toArray, List.set_cons_zero, List.set_cons_succ, i64_w, i32_w]
        rfl
      refine join_ (σ := Value × Nat) 2 #[true, true, true, true, true, true, true, true, true, true, false, false] (fun s_ => [(24, .tuple #[.agg #[s_.1], .int .i64 t344]), (6, .pointer (some ⟨s_.2, 0, none⟩)), (18, .tuple #[.agg #[s_.1], .int .i64 t344]), (25, .agg #[s_.1]), (26, .int .i64 t344)]) (fun s_ w' => (w'.cell? ⟨gb336, 0, none⟩ = some (.slice A0_0 l0_0.length c0_0) ∧ w'.cell? ⟨gb337, 0, none⟩ = some (.slice (some ad340) l1_0.length c1_0) ∧ w'.cell? ad340 = some (.int .i64 (rd l1_0 0))) ∧ (Kd.R (Kd.int .i64) 3 w' w.heap.size (fun _ => True) s_.1 t341) ∧ (w'.heap[gb336]? = some (.cells #[.slice A0_0 l0_0.length c0_0] 38 (0, 0))) ∧ (w'.heap[gb337]? = some (.cells #[.slice (some ad340) l1_0.length c1_0] 38 (0, 0))) ∧ (w'.heap[gb338]? = some (.cells #[.slice none 0 0] 38 (0, 0))) ∧ (w'.heap[gb339]? = some (.cells #[.slice none 0 0] 38 (0, 0))) ∧ (w'.heap[s_.2]? = some (.cells #[.slice none 0 0] 38 (0, 0))) ∧ (w.heap.size ≤ s_.2) ∧ (w.heap.size ≤ s_.2) ∧ (gb336 ≠ s_.2) ∧ (s_.2 ≠ gb336) ∧ (gb337 ≠ s_.2) ∧ (s_.2 ≠ gb337) ∧ (gb338 ≠ s_.2) ∧ (s_.2 ≠ gb338) ∧ (gb339 ≠ s_.2) ∧ (s_.2 ≠ gb339) ∧ (Below w.heap.size w w')) ?_ ?_
      rotate_left
      · intro hCont
        refine two_ (i := 5) (j := 9) (Ni := some 24) (Nj := some 6) #[true, true, true, true, true, true, false, false, false, false, false, false] #[true, true, true, true, true, false, false, false, false, true, false, false] rfl rfl rfl rfl (two_of HT_.out (by kernel_rfl)) (by decide) (by decide) (fun K hK => ?_) (fun K hK => ?_)
        · skip
          refine goes_ Try.func111 (by kernel_rfl) rfl #[.agg #[.slice A0_0 l0_0.length c0_0], .int .i64 (rd l1_0 0)] (by rfl) rfl rfl hkL ?_
          with_reducible refine (spec_l2small.calls k _ _ l0_0 (rd l1_0 0) t341 t344 _ ?side1 ?side2 A5.out).mono ?_
          (case side1 => repeat (first | exact (Kd.C_below HR0_0.out HB.out) | (with_reducible refine Kd.C_alloc ?_ _) | (with_reducible refine Kd.C_drewN ?_ _) | (with_reducible refine Kd.C_drew ?_)))
          (case side2 => exact HC0_0.out)
          rintro e w16 ⟨v342, rfl, ho0, hb⟩
          refine ⟨_, rfl, ?_⟩
          have n0_ := Aside0.mk (Kd.R_lower ho0 (below_size (hkS HB)))
          have n1_ := hkBb BK336 hb
          have n2_ := hkBb BK337 hb
          have n3_ := hkBb BK338 hb
          have n4_ := hkBb BK339 hb
          have n5_ := Aside0.mk (below_step (hkS HB) hb)
          clear BK336
          clear BK337
          clear BK338
          clear BK339
          clear HB
          have HO343 := n0_
          have BK336 := n1_
          have BK337 := n2_
          have BK338 := n3_
          have BK339 := n4_
          have HB := n5_
          clear n0_ n1_ n2_ n3_ n4_ n5_
          (try clear hb)
          (try clear hb2)
          (try clear hk)
          (try clear hi)
          (try clear ho0)
          refine hK.out _ _ ⟨(blk_cell BK336.out 0).trans rfl, (blk_cell BK337.out 0).trans rfl, ((HB.out.cell (World.block_lt_of_cell? w _ hw340_0)).trans hw340_0)⟩ (fun hHeld => ?_)
          clear hK K
          refine norm_ (a' := ?_) ?_ ?_
          rotate_left
          · show Act.put _ (some 24) _ = _
            simp only [Act.put, List.setIfInBounds_toArray, List.set_cons_zero, List.set_cons_succ, i64_w, i32_w]
            rfl
          refine pure_ (i := 6) (N := some 18) (v := ?_) (a' := ?_) #[true, true, true, true, true, true, true, false, false, false, false, false] rfl rfl (any_of HT_.out (by kernel_rfl)) (fun _ _ _ h => h) (Or.inl ⟨by rfl, ?_⟩) ?_ ?_
          rotate_left
          · intro w'
            go_simp
            with_reducible rfl
          rotate_left
          · simp only [Act.put, List.setIfInBounds_toArray, List.set_cons_zero, List.set_cons_succ, i64_w, i32_w]
            rfl
          refine pure_ (i := 7) (N := some 25) (v := ?_) (a' := ?_) #[true, true, true, true, true, true, true, true, false, false, false, false] rfl rfl (any_of HT_.out (by kernel_rfl)) (fun _ _ _ h => h) (Or.inl ⟨by rfl, ?_⟩) ?_ ?_
          rotate_left
          · intro w'
            go_simp
            with_reducible rfl
          rotate_left
          · simp only [Act.put, List.setIfInBounds_toArray, List.set_cons_zero, List.set_cons_succ, i64_w, i32_w]
            rfl
          refine pure_ (i := 8) (N := some 26) (v := ?_) (a' := ?_) #[true, true, true, true, true, true, true, true, true, false, false, false] rfl rfl (any_of HT_.out (by kernel_rfl)) (fun _ _ _ h => h) (Or.inl ⟨by rfl, ?_⟩) ?_ ?_
          rotate_left
          · intro w'
            go_simp
            with_reducible rfl
          rotate_left
          · simp only [Act.put, List.setIfInBounds_toArray, List.set_cons_zero, List.set_cons_succ, i64_w, i32_w]
            rfl
          refine one_ (i := 9) (N := some 6) #[true, true, true, true, true, true, true, true, true, true, false, false] rfl rfl (one_of HT_.out (by kernel_rfl)) (by decide) (fun K hK => ?_)
          refine box_step ?hg (N := 6) ?hd (cs := #[.slice none 0 0]) (t := 38) ?hr ?_; (case hd => rfl); (case hg => rfl); (case hr => first | (go_simp; done) | (go_simp; rfl))
          intro gb345 hg w17 hbox hb
          have n0_ := hkRb HO343 hb
          have n1_ := hkBb BK336 hb
          have n2_ := hkBb BK337 hb
          have n3_ := hkBb BK338 hb
          have n4_ := hkBb BK339 hb
          have n5_ := Aside0.mk (below_step (hkS HB) hb)
          have n6_ := Aside0.mk (hbox)
          have n7_ := hkG hg (hkS HB)
          have n8_ := hkG hg (hkS HB)
          have n9_ := hkN hg BK336
          have n10_ := hkM hg BK336
          have n11_ := hkN hg BK337
          have n12_ := hkM hg BK337
          have n13_ := hkN hg BK338
          have n14_ := hkM hg BK338
          have n15_ := hkN hg BK339
          have n16_ := hkM hg BK339
          clear HO343
          clear BK336
          clear BK337
          clear BK338
          clear BK339
          clear HB
          have HO343 := n0_
          have BK336 := n1_
          have BK337 := n2_
          have BK338 := n3_
          have BK339 := n4_
          have HB := n5_
          have BK345 := n6_
          have GW345 := n7_
          have GE345 := n8_
          have NB336_345 := n9_
          have NB345_336 := n10_
          have NB337_345 := n11_
          have NB345_337 := n12_
          have NB338_345 := n13_
          have NB345_338 := n14_
          have NB339_345 := n15_
          have NB345_339 := n16_
          clear n0_ n1_ n2_ n3_ n4_ n5_ n6_ n7_ n8_ n9_ n10_ n11_ n12_ n13_ n14_ n15_ n16_
          clear hb hbox hg
          refine hK.out _ _ ⟨(blk_cell BK336.out 0).trans rfl, (blk_cell BK337.out 0).trans rfl, ((HB.out.cell (World.block_lt_of_cell? w _ hw340_0)).trans hw340_0)⟩ (fun hHeld => ?_)
          clear hK K
          refine norm_ (a' := ?_) ?_ ?_
          rotate_left
          · show Act.put _ (some 6) _ = _
            simp only [Act.put, List.setIfInBounds_toArray, List.set_cons_zero, List.set_cons_succ, i64_w, i32_w]
            rfl
          exact norm_ (by simp only [putAll, Act.put, List.setIfInBounds_toArray, List.set_cons_zero, List.set_cons_succ]) (hCont (v342, gb345) _ ⟨hHeld, (hkR HO343), (hkB BK336), (hkB BK337), (hkB BK338), (hkB BK339), (hkB BK345), GW345.out, GE345.out, NB336_345.out, NB345_336.out, NB337_345.out, NB345_337.out, NB338_345.out, NB345_338.out, NB339_345.out, NB345_339.out, (hkS HB)⟩)
        · skip
          refine box_step ?hg (N := 6) ?hd (cs := #[.slice none 0 0]) (t := 38) ?hr ?_; (case hd => rfl); (case hg => rfl); (case hr => first | (go_simp; done) | (go_simp; rfl))
          intro gb345 hg w16 hbox hb
          have n0_ := hkBb BK336 hb
          have n1_ := hkBb BK337 hb
          have n2_ := hkBb BK338 hb
          have n3_ := hkBb BK339 hb
          have n4_ := Aside0.mk (below_step (hkS HB) hb)
          have n5_ := Aside0.mk (hbox)
          have n6_ := hkG hg (hkS HB)
          have n7_ := hkG hg (hkS HB)
          have n8_ := hkN hg BK336
          have n9_ := hkM hg BK336
          have n10_ := hkN hg BK337
          have n11_ := hkM hg BK337
          have n12_ := hkN hg BK338
          have n13_ := hkM hg BK338
          have n14_ := hkN hg BK339
          have n15_ := hkM hg BK339
          clear BK336
          clear BK337
          clear BK338
          clear BK339
          clear HB
          have BK336 := n0_
          have BK337 := n1_
          have BK338 := n2_
          have BK339 := n3_
          have HB := n4_
          have BK345 := n5_
          have GW345 := n6_
          have GE345 := n7_
          have NB336_345 := n8_
          have NB345_336 := n9_
          have NB337_345 := n10_
          have NB345_337 := n11_
          have NB338_345 := n12_
          have NB345_338 := n13_
          have NB339_345 := n14_
          have NB345_339 := n15_
          clear n0_ n1_ n2_ n3_ n4_ n5_ n6_ n7_ n8_ n9_ n10_ n11_ n12_ n13_ n14_ n15_
          clear hb hbox hg
          refine hK.out _ _ ⟨(blk_cell BK336.out 0).trans rfl, (blk_cell BK337.out 0).trans rfl, ((HB.out.cell (World.block_lt_of_cell? w _ hw340_0)).trans hw340_0)⟩ (fun hHeld => ?_)
          clear hK K
          refine norm_ (a' := ?_) ?_ ?_
          rotate_left
          · show Act.put _ (some 6) _ = _
            simp only [Act.put, List.setIfInBounds_toArray, List.set_cons_zero, List.set_cons_succ, i64_w, i32_w]
            rfl
          refine one_ (i := 5) (N := some 24) #[true, true, true, true, true, true, false, false, false, true, false, false] rfl rfl (one_of HT_.out (by kernel_rfl)) (by decide) (fun K hK => ?_)
          refine goes_ Try.func111 (by kernel_rfl) rfl #[.agg #[.slice A0_0 l0_0.length c0_0], .int .i64 (rd l1_0 0)] (by rfl) rfl rfl hkL ?_
          with_reducible refine (spec_l2small.calls k _ _ l0_0 (rd l1_0 0) t341 t344 _ ?side1 ?side2 A5.out).mono ?_
          (case side1 => repeat (first | exact (Kd.C_below HR0_0.out HB.out) | (with_reducible refine Kd.C_alloc ?_ _) | (with_reducible refine Kd.C_drewN ?_ _) | (with_reducible refine Kd.C_drew ?_)))
          (case side2 => exact HC0_0.out)
          rintro e w17 ⟨v342, rfl, ho0, hb⟩
          refine ⟨_, rfl, ?_⟩
          have n0_ := Aside0.mk (Kd.R_lower ho0 (below_size (hkS HB)))
          have n1_ := hkBb BK336 hb
          have n2_ := hkBb BK337 hb
          have n3_ := hkBb BK338 hb
          have n4_ := hkBb BK339 hb
          have n5_ := hkBb BK345 hb
          have n6_ := Aside0.mk (below_step (hkS HB) hb)
          clear BK336
          clear BK337
          clear BK338
          clear BK339
          clear BK345
          clear HB
          have HO343 := n0_
          have BK336 := n1_
          have BK337 := n2_
          have BK338 := n3_
          have BK339 := n4_
          have BK345 := n5_
          have HB := n6_
          clear n0_ n1_ n2_ n3_ n4_ n5_ n6_
          (try clear hb)
          (try clear hb2)
          (try clear hk)
          (try clear hi)
          (try clear ho0)
          refine hK.out _ _ ⟨(blk_cell BK336.out 0).trans rfl, (blk_cell BK337.out 0).trans rfl, ((HB.out.cell (World.block_lt_of_cell? w _ hw340_0)).trans hw340_0)⟩ (fun hHeld => ?_)
          clear hK K
          refine norm_ (a' := ?_) ?_ ?_
          rotate_left
          · show Act.put _ (some 24) _ = _
            simp only [Act.put, List.setIfInBounds_toArray, List.set_cons_zero, List.set_cons_succ, i64_w, i32_w]
            rfl
          refine pure_ (i := 6) (N := some 18) (v := ?_) (a' := ?_) #[true, true, true, true, true, true, true, false, false, true, false, false] rfl rfl (any_of HT_.out (by kernel_rfl)) (fun _ _ _ h => h) (Or.inl ⟨by rfl, ?_⟩) ?_ ?_
          rotate_left
          · intro w'
            go_simp
            with_reducible rfl
          rotate_left
          · simp only [Act.put, List.setIfInBounds_toArray, List.set_cons_zero, List.set_cons_succ, i64_w, i32_w]
            rfl
          refine pure_ (i := 7) (N := some 25) (v := ?_) (a' := ?_) #[true, true, true, true, true, true, true, true, false, true, false, false] rfl rfl (any_of HT_.out (by kernel_rfl)) (fun _ _ _ h => h) (Or.inl ⟨by rfl, ?_⟩) ?_ ?_
          rotate_left
          · intro w'
            go_simp
            with_reducible rfl
          rotate_left
          · simp only [Act.put, List.setIfInBounds_toArray, List.set_cons_zero, List.set_cons_succ, i64_w, i32_w]
            rfl
          refine pure_ (i := 8) (N := some 26) (v := ?_) (a' := ?_) #[true, true, true, true, true, true, true, true, true, true, false, false] rfl rfl (any_of HT_.out (by kernel_rfl)) (fun _ _ _ h => h) (Or.inl ⟨by rfl, ?_⟩) ?_ ?_
          rotate_left
          · intro w'
            go_simp
            with_reducible rfl
          rotate_left
          · simp only [Act.put, List.setIfInBounds_toArray, List.set_cons_zero, List.set_cons_succ, i64_w, i32_w]
            rfl
          exact norm_ (by simp only [putAll, Act.put, List.setIfInBounds_toArray, List.set_cons_zero, List.set_cons_succ]) (hCont (v342, gb345) _ ⟨hHeld, (hkR HO343), (hkB BK336), (hkB BK337), (hkB BK338), (hkB BK339), (hkB BK345), GW345.out, GE345.out, NB336_345.out, NB345_336.out, NB337_345.out, NB345_337.out, NB338_345.out, NB345_338.out, NB339_345.out, NB345_339.out, (hkS HB)⟩)
      rintro ⟨v342, gb345⟩ w18 ⟨hS_, h0_, h1_, h2_, h3_, h4_, h5_, h6_, h7_, h8_, h9_, h10_, h11_, h12_, h13_, h14_, h15_, h16_⟩
      have n0_ : Aside0 (Kd.R (Kd.int .i64) 3 w18 w.heap.size (fun _ => True) v342 t341) := ⟨h0_⟩
      have n1_ : Aside0 (w18.heap[gb336]? = some (.cells #[.slice A0_0 l0_0.length c0_0] 38 (0, 0))) := ⟨h1_⟩
      have n2_ : Aside0 (w18.heap[gb337]? = some (.cells #[.slice (some ad340) l1_0.length c1_0] 38 (0, 0))) := ⟨h2_⟩
      have n3_ : Aside0 (w18.heap[gb338]? = some (.cells #[.slice none 0 0] 38 (0, 0))) := ⟨h3_⟩
      have n4_ : Aside0 (w18.heap[gb339]? = some (.cells #[.slice none 0 0] 38 (0, 0))) := ⟨h4_⟩
      have n5_ : Aside0 (w18.heap[gb345]? = some (.cells #[.slice none 0 0] 38 (0, 0))) := ⟨h5_⟩
      have n6_ : Aside0 (w.heap.size ≤ gb345) := ⟨h6_⟩
      have n7_ : Aside0 (w.heap.size ≤ gb345) := ⟨h7_⟩
      have n8_ : Aside0 (gb336 ≠ gb345) := ⟨h8_⟩
      have n9_ : Aside0 (gb345 ≠ gb336) := ⟨h9_⟩
      have n10_ : Aside0 (gb337 ≠ gb345) := ⟨h10_⟩
      have n11_ : Aside0 (gb345 ≠ gb337) := ⟨h11_⟩
      have n12_ : Aside0 (gb338 ≠ gb345) := ⟨h12_⟩
      have n13_ : Aside0 (gb345 ≠ gb338) := ⟨h13_⟩
      have n14_ : Aside0 (gb339 ≠ gb345) := ⟨h14_⟩
      have n15_ : Aside0 (gb345 ≠ gb339) := ⟨h15_⟩
      have n16_ : Aside0 (Below w.heap.size w w18) := ⟨h16_⟩
      clear BK336
      clear BK337
      clear BK338
      clear BK339
      clear HB
      clear h0_ h1_ h2_ h3_ h4_ h5_ h6_ h7_ h8_ h9_ h10_ h11_ h12_ h13_ h14_ h15_ h16_
      have HO343 := n0_
      have BK336 := n1_
      have BK337 := n2_
      have BK338 := n3_
      have BK339 := n4_
      have BK345 := n5_
      have GW345 := n6_
      have GE345 := n7_
      have NB336_345 := n8_
      have NB345_336 := n9_
      have NB337_345 := n10_
      have NB345_337 := n11_
      have NB338_345 := n12_
      have NB345_338 := n13_
      have NB339_345 := n14_
      have NB345_339 := n15_
      have HB := n16_
      clear n0_ n1_ n2_ n3_ n4_ n5_ n6_ n7_ n8_ n9_ n10_ n11_ n12_ n13_ n14_ n15_ n16_
      have hHeld : w18.cell? ⟨gb336, 0, none⟩ = some (.slice A0_0 l0_0.length c0_0) ∧ w18.cell? ⟨gb337, 0, none⟩ = some (.slice (some ad340) l1_0.length c1_0) ∧ w18.cell? ad340 = some (.int .i64 (rd l1_0 0)) := hS_
      obtain ⟨Ao19, co19, eo19⟩ := Kd.R_slice HO343.out
      (first | subst eo19 | (injection eo19 with f1_ f2_ f3_; have f4_ := f1_.symm; have f5_ := f3_.symm; clear f1_ f2_ f3_; subst f4_; subst f5_))
      refine norm_ (a' := ?_) ?_ ?_
      rotate_left
      · simp only [putAll, Act.put, List.setIfInBounds_toArray, List.set_cons_zero, List.set_cons_succ]
        rfl
      refine one_ (i := 10) (N := none) #[true, true, true, true, true, true, true, true, true, true, true, false] rfl rfl (one_of HT_.out (by kernel_rfl)) (by decide) (fun K hK => ?_)
      have hs20 : w18.cell? ⟨gb345, 0, none⟩ = some (.slice none 0 0) := (blk_cell BK345.out 0).trans rfl
      have hfs20 := blk_frozen BK345.out 0
      have hns20_0 := NB336_345.out
      have hns20_1 := NB337_345.out
      have hns20_2 := NB338_345.out
      have hns20_3 := NB339_345.out
      have hms20_0 := NB345_336.out
      have hms20_1 := NB345_337.out
      have hms20_2 := NB345_338.out
      have hms20_3 := NB345_339.out
      refine skip_ (w1 := ?_) (by rfl) rfl ?_ ?_
      rotate_left
      · go_simp
        rfl
      refine hK.out _ _ ⟨((cell_far (p := ⟨gb345, _, none⟩) NB336_345.out _).trans (hHeld.1)), ((cell_far (p := ⟨gb345, _, none⟩) NB337_345.out _).trans (hHeld.2.1)), ((cell_far (p := ⟨gb345, _, none⟩) (by first | exact Nat.ne_of_lt (Nat.lt_of_lt_of_le (by have := World.block_lt_of_cell? _ _ hw340_0; first | rwa [add_block] at this | exact this) GW345.out) | (rw [add_block]; exact Nat.ne_of_lt (Nat.lt_of_lt_of_le (by have := World.block_lt_of_cell? _ _ hw340_0; first | rwa [add_block] at this | exact this) GW345.out)) | (show (Addr.add _ _).block ≠ _; rw [add_block]; exact Nat.ne_of_lt (Nat.lt_of_lt_of_le (by have := World.block_lt_of_cell? _ _ hw340_0; first | rwa [add_block] at this | exact this) GW345.out)) | (dsimp only; exact Nat.ne_of_lt (Nat.lt_of_lt_of_le (by have := World.block_lt_of_cell? _ _ hw340_0; first | rwa [add_block] at this | exact this) GW345.out))) _).trans (hHeld.2.2))⟩ (fun hHeld => ?_)
      clear hK K
      refine pure_ (i := 11) (N := some 7) (v := ?_) (a' := ?_) #[true, true, true, true, true, true, true, true, true, true, true, true] rfl rfl (any_of HT_.out (by kernel_rfl)) (fun _ _ _ h => h) (Or.inl ⟨by rfl, ?_⟩) ?_ ?_
      rotate_left
      · intro w'
        go_simp
        with_reducible rfl
      rotate_left
      · simp only [Act.put, List.setIfInBounds_toArray, List.set_cons_zero, List.set_cons_succ, i64_w, i32_w]
        rfl
      refine done_ (done_of HT_.out (by kernel_rfl)) ?_
      try go_wp2
      have n0_ : Aside0 (Kd.R (Kd.int .i64) 3 (w18.setCell ⟨gb345, 0, none⟩ (.slice Ao19 t341.length co19)) w.heap.size (fun _ => True) (.slice Ao19 t341.length co19) t341) := ⟨by (with_reducible repeat (first | apply Kd.R_alloc | apply Kd.R_drewN | apply Kd.R_drew)); exact Kd.R_mono (Kd.R_far (p := ⟨gb345, 0, none⟩) (Kd.R_types HO343.out BK345.out (by decide)) (fun _ hk => hk.2) (.slice Ao19 t341.length co19)) (fun _ hk => trivial)⟩
      have n1_ : Aside0 ((w18.setCell ⟨gb345, 0, none⟩ (.slice Ao19 t341.length co19)).heap[gb336]? = some (.cells #[.slice A0_0 l0_0.length c0_0] 38 (0, 0))) := ⟨by (with_reducible repeat (first | refine blk_drewN ?_ _ | refine blk_drew ?_ | refine blk_alloc ?_ _)); refine blk_far ?_ NB336_345.out _; (with_reducible repeat (first | refine blk_drewN ?_ _ | refine blk_drew ?_ | refine blk_alloc ?_ _)); exact BK336.out⟩
      have n2_ : Aside0 ((w18.setCell ⟨gb345, 0, none⟩ (.slice Ao19 t341.length co19)).heap[gb337]? = some (.cells #[.slice (some ad340) l1_0.length c1_0] 38 (0, 0))) := ⟨by (with_reducible repeat (first | refine blk_drewN ?_ _ | refine blk_drew ?_ | refine blk_alloc ?_ _)); refine blk_far ?_ NB337_345.out _; (with_reducible repeat (first | refine blk_drewN ?_ _ | refine blk_drew ?_ | refine blk_alloc ?_ _)); exact BK337.out⟩
      have n3_ : Aside0 ((w18.setCell ⟨gb345, 0, none⟩ (.slice Ao19 t341.length co19)).heap[gb338]? = some (.cells #[.slice none 0 0] 38 (0, 0))) := ⟨by (with_reducible repeat (first | refine blk_drewN ?_ _ | refine blk_drew ?_ | refine blk_alloc ?_ _)); refine blk_far ?_ NB338_345.out _; (with_reducible repeat (first | refine blk_drewN ?_ _ | refine blk_drew ?_ | refine blk_alloc ?_ _)); exact BK338.out⟩
      have n4_ : Aside0 ((w18.setCell ⟨gb345, 0, none⟩ (.slice Ao19 t341.length co19)).heap[gb339]? = some (.cells #[.slice none 0 0] 38 (0, 0))) := ⟨by (with_reducible repeat (first | refine blk_drewN ?_ _ | refine blk_drew ?_ | refine blk_alloc ?_ _)); refine blk_far ?_ NB339_345.out _; (with_reducible repeat (first | refine blk_drewN ?_ _ | refine blk_drew ?_ | refine blk_alloc ?_ _)); exact BK339.out⟩
      have n5_ : Aside0 ((w18.setCell ⟨gb345, 0, none⟩ (.slice Ao19 t341.length co19)).heap[gb345]? = some (.cells #[.slice Ao19 t341.length co19] 38 (0, 0))) := ⟨by (with_reducible repeat (first | refine blk_drewN ?_ _ | refine blk_drew ?_ | refine blk_alloc ?_ _)); refine blk_put (cs := #[.slice none 0 0]) ?_ 0 _ rfl; (with_reducible repeat (first | refine blk_drewN ?_ _ | refine blk_drew ?_ | refine blk_alloc ?_ _)); exact BK345.out⟩
      have n6_ : Aside0 (Below w.heap.size w (w18.setCell ⟨gb345, 0, none⟩ (.slice Ao19 t341.length co19))) := ⟨by repeat (first | (with_reducible first | exact HB.out | apply below_alloc | apply pw_below_drewN | apply below_drew1 | refine below_set ?_ GE336.out | refine below_set ?_ GE337.out | refine below_set ?_ GE338.out | refine below_set ?_ GE339.out | refine below_set ?_ GE345.out) | exact HB.out)⟩
      (try clear HO343)
      (try clear BK336)
      (try clear BK337)
      (try clear BK338)
      (try clear BK339)
      (try clear BK345)
      (try clear HB)
      generalize (w18.setCell ⟨gb345, 0, none⟩ (.slice Ao19 t341.length co19)) = w21 at n0_ n1_ n2_ n3_ n4_ n5_ n6_ ⊢
      have HO343 := n0_
      have BK336 := n1_
      have BK337 := n2_
      have BK338 := n3_
      have BK339 := n4_
      have BK345 := n5_
      have HB := n6_
      clear n0_ n1_ n2_ n3_ n4_ n5_ n6_
      have n0_ := Aside0.mk (Kd.R_drew HO343.out)
      have n1_ := Aside0.mk (blk_drew BK336.out)
      have n2_ := Aside0.mk (blk_drew BK337.out)
      have n3_ := Aside0.mk (blk_drew BK338.out)
      have n4_ := Aside0.mk (blk_drew BK339.out)
      have n5_ := Aside0.mk (blk_drew BK345.out)
      have n6_ := Aside0.mk (below_drew1 HB.out)
      clear HO343
      clear BK336
      clear BK337
      clear BK338
      clear BK339
      clear BK345
      clear HB
      have HO343 := n0_
      have BK336 := n1_
      have BK337 := n2_
      have BK338 := n3_
      have BK339 := n4_
      have BK345 := n5_
      have HB := n6_
      clear n0_ n1_ n2_ n3_ n4_ n5_ n6_
      refine start_ (n := 5) (S := fun w' => w'.cell? ⟨gb345, 0, none⟩ = some (.slice Ao19 t341.length co19)) (ds := []) #[false, false, false, false, false] (by kernel_rfl) rfl rfl ((blk_cell BK345.out 0).trans rfl) (fun hHeld => ?_)
      generalize w21.drew = w22 at HO343 BK336 BK337 BK338 BK339 BK345 HB hHeld ⊢
      refine pure_ (i := 1) (N := some 28) (v := ?_) (a' := ?_) #[false, true, false, false, false] rfl rfl (by kernel_rfl) (fun _ _ _ h => h) (Or.inl ⟨by rfl, ?_⟩) ?_ ?_
      rotate_left
      · intro w'
        go_simp
        with_reducible rfl
      rotate_left
      · simp only [Act.put, List.setIfInBounds_toArray, List.set_cons_zero, List.set_cons_succ, i64_w, i32_w]
        rfl
      refine take_ (i := 0) (N := some 27) (v := ?_) (a' := ?_) #[true, true, false, false, false] rfl rfl (by kernel_rfl) (fun _ _ _ h => h) (Or.inl ⟨by rfl, ?_⟩) hHeld ?_ ?_
      rotate_left
      · intro w' s0
        go_simp
        with_reducible rfl
      rotate_left
      · simp only [Act.put, List.setIfInBounds_toArray, List.set_cons_zero, List.set_cons_succ, i64_w, i32_w]
        rfl
      refine one_ (i := 2) (N := some 29) #[true, true, true, false, false] rfl rfl (by kernel_rfl) (by decide) (fun K hK => ?_)
      refine goes_ Try.func56 (by kernel_rfl) rfl #[.int .i64 t344] (by rfl) rfl rfl hkL ?_
      with_reducible refine (spec_l2of.calls k t344 t346 _ A6.out).mono ?_
      rintro e w23 ⟨v347, rfl, ho0, hb⟩
      refine ⟨_, rfl, ?_⟩
      have n0_ := Aside0.mk (Kd.R_elder' (hkR HO343) (Kd.R_base ho0) hb)
      have n1_ := Aside0.mk (Kd.R_lower (Kd.R_new' ho0 (Kd.R_lt (hkR HO343))) (below_size (hkS HB)))
      have n2_ := hkBb BK336 hb
      have n3_ := hkBb BK337 hb
      have n4_ := hkBb BK338 hb
      have n5_ := hkBb BK339 hb
      have n6_ := hkBb BK345 hb
      have n7_ := Aside0.mk (below_step (hkS HB) hb)
      clear HO343
      clear BK336
      clear BK337
      clear BK338
      clear BK339
      clear BK345
      clear HB
      have HO343 := n0_
      have HO348 := n1_
      have BK336 := n2_
      have BK337 := n3_
      have BK338 := n4_
      have BK339 := n5_
      have BK345 := n6_
      have HB := n7_
      clear n0_ n1_ n2_ n3_ n4_ n5_ n6_ n7_
      (try clear hb)
      (try clear hb2)
      (try clear hk)
      (try clear hi)
      (try clear ho0)
      obtain ⟨Ao25, co25, eo25⟩ := Kd.R_slice HO348.out
      (first | subst eo25 | (injection eo25 with f1_ f2_ f3_; have f4_ := f1_.symm; have f5_ := f3_.symm; clear f1_ f2_ f3_; subst f4_; subst f5_))
      refine hK.out _ _ ((blk_cell BK345.out 0).trans rfl) (fun hHeld => ?_)
      clear hK K
      refine norm_ (a' := ?_) ?_ ?_
      rotate_left
      · show Act.put _ (some 29) _ = _
        simp only [Act.put, List.setIfInBounds_toArray, List.set_cons_zero, List.set_cons_succ, i64_w, i32_w]
        rfl
      refine one_ (i := 3) (N := none) #[true, true, true, true, false] rfl rfl (by kernel_rfl) (by decide) (fun K hK => ?_)
      have hs24 : w23.cell? ⟨gb338, 0, none⟩ = some (.slice none 0 0) := (blk_cell BK338.out 0).trans rfl
      have hfs24 := blk_frozen BK338.out 0
      have hns24_0 := NB336_338.out
      have hns24_1 := NB337_338.out
      have hns24_3 := NB339_338.out
      have hns24_4 := NB345_338.out
      have hms24_0 := NB338_336.out
      have hms24_1 := NB338_337.out
      have hms24_3 := NB338_339.out
      have hms24_4 := NB338_345.out
      refine skip_ (w1 := ?_) (by rfl) rfl ?_ ?_
      rotate_left
      · go_simp
        rfl
      refine hK.out _ _ (((cell_far (p := ⟨gb338, _, none⟩) NB345_338.out _).trans (hHeld))) (fun hHeld => ?_)
      clear hK K
      refine one_ (i := 4) (N := none) #[true, true, true, true, true] rfl rfl (by kernel_rfl) (by decide) (fun K hK => ?_)
      have hs26 : w23.cell? ⟨gb339, 0, none⟩ = some (.slice none 0 0) := (blk_cell BK339.out 0).trans rfl
      have hfs26 := blk_frozen BK339.out 0
      have hns26_0 := NB336_339.out
      have hns26_1 := NB337_339.out
      have hns26_2 := NB338_339.out
      have hns26_4 := NB345_339.out
      have hms26_0 := NB339_336.out
      have hms26_1 := NB339_337.out
      have hms26_2 := NB339_338.out
      have hms26_4 := NB339_345.out
      refine skip_ (w1 := ?_) (by rfl) rfl ?_ ?_
      rotate_left
      · go_simp
        rfl
      refine hK.out _ _ (((cell_far (p := ⟨gb339, _, none⟩) NB345_339.out _).trans (hHeld))) (fun hHeld => ?_)
      clear hK K
      refine done_ (by kernel_rfl) ?_
      try go_wp2
      refine bodyPost_ret (results_cc rfl _ _ gb338 gb339 38 38 #[.slice Ao19 t341.length co19] #[.slice Ao25 t346.length co25] (0, 0) (0, 0) _ _ rfl (by (with_reducible repeat (first | refine blk_drewN ?_ _ | refine blk_drew ?_ | refine blk_alloc ?_ _)); refine blk_far ?_ NB338_339.out _; (with_reducible repeat (first | refine blk_drewN ?_ _ | refine blk_drew ?_ | refine blk_alloc ?_ _)); refine blk_put (cs := #[.slice none 0 0]) ?_ 0 _ rfl; (with_reducible repeat (first | refine blk_drewN ?_ _ | refine blk_drew ?_ | refine blk_alloc ?_ _)); exact BK338.out) Try.underlying38 rfl (by kernel_rfl) rfl (by (with_reducible repeat (first | refine blk_drewN ?_ _ | refine blk_drew ?_ | refine blk_alloc ?_ _)); refine blk_put (cs := #[.slice none 0 0]) ?_ 0 _ rfl; (with_reducible repeat (first | refine blk_drewN ?_ _ | refine blk_drew ?_ | refine blk_alloc ?_ _)); refine blk_far ?_ NB339_338.out _; (with_reducible repeat (first | refine blk_drewN ?_ _ | refine blk_drew ?_ | refine blk_alloc ?_ _)); exact BK339.out) Try.underlying38 rfl (by kernel_rfl)) rfl ?_
      exact ⟨_, _, by first | rfl | (simp [errW_none, errW_some] <;> rfl) | (simp [*, errW_none, errW_some] <;> rfl), by (with_reducible repeat (first | apply Kd.R_alloc | apply Kd.R_drewN | apply Kd.R_drew)); exact Kd.R_mono (Kd.R_far (p := ⟨gb339, 0, none⟩) (Kd.R_far (p := ⟨gb338, 0, none⟩) (Kd.R_types (Kd.R_types HO343.out BK338.out (by decide)) BK339.out (by decide)) (fun _ hk => hk.1.2) (.slice Ao19 t341.length co19)) (fun _ hk => hk.2) (.slice Ao25 t346.length co25)) (fun _ hk => hk.1.1.2), by (with_reducible repeat (first | apply Kd.R_alloc | apply Kd.R_drewN | apply Kd.R_drew)); exact Kd.R_mono (Kd.R_far (p := ⟨gb339, 0, none⟩) (Kd.R_far (p := ⟨gb338, 0, none⟩) (Kd.R_types (Kd.R_types HO348.out BK338.out (by decide)) BK339.out (by decide)) (fun _ hk => hk.1.2) (.slice Ao19 t341.length co19)) (fun _ hk => hk.2) (.slice Ao25 t346.length co25)) (fun _ hk => hk.1.1.2), by repeat (first | (with_reducible first | exact HB.out | apply below_alloc | apply pw_below_drewN | apply below_drew1 | refine below_set ?_ GE336.out | refine below_set ?_ GE337.out | refine below_set ?_ GE338.out | refine below_set ?_ GE339.out | refine below_set ?_ GE345.out) | exact HB.out)⟩
    · rw [if_neg c4] at H
      exact absurd H (by simp)
  · rw [if_neg c3] at H
    have c3b0 : ((l1_0.length : Int) == 1) = false := beq_eq_false_iff_ne.mpr c3
    have c3b1 : ((l1_0.length : Int) != 1) = true := bne_iff_ne.mpr c3
    by_cases c27 : 0 ≤ (l0_0.length : Int)
    · rw [if_pos c27] at H
      have c27b0 := eq_true c27
      have c27b1 : decide (0 ≤ (l0_0.length : Int)) = true := decide_eq_true c27
      clear c27
      by_cases c28 : ((l0_0.length : Int) : Int).toNat ≤ 35184372088832
      · rw [if_pos c28] at H
        have c28b0 := eq_true c28
        have c28b1 : decide (((l0_0.length : Int) : Int).toNat ≤ 35184372088832) = true := decide_eq_true c28
        clear c28
        obtain ⟨y349, hy349⟩ : ∃ y_ : List Int, y_ = (List.replicate ((l0_0.length : Int) : Int).toNat 0) := ⟨_, rfl⟩
        replace H : (spec_l2div.l0 k y349 (wrap64 ((l0_0.length : Int) - 1)) l0_0 l1_0 ([] : List Int)) = some (r1, r2) := by first | (rw [hy349]; with_reducible exact H) | (have H2_ := (Option.bind_some _ _).symm.trans H; rw [hy349]; with_reducible exact H2_) | (have H2_ := (Option.bind_some _ _).symm.trans H; with_reducible exact H2_) | with_reducible exact H | (rw [hy349]; exact H) | exact H
        have Ny349 := Aside0.mk hy349
        clear hy349
        have H' := Aside0.mk H
        clear H
        go_enter Try.func64, Try.ntmps64
        go_wp2_with (first | ((with_reducible refine gate_dst (N := 2) rfl ?_); refine box_event ?hg (N := 2) ?hd (cs := #[.slice A0_0 l0_0.length c0_0]) (t := 38) ?hr ?_; (case hd => rfl); (case hg => rfl); (case hr => first | (go_simp; done) | (go_simp; rfl)); intro gb336 hg w29 hbox hb; have n0_ := Aside0.mk (below_step (hkS HB) hb); have n1_ := Aside0.mk (hbox); have n2_ := hkG hg (hkS HB); have n3_ := hkG hg (hkS HB); clear HB; have HB := n0_; have BK336 := n1_; have GW336 := n2_; have GE336 := n3_; clear n0_ n1_ n2_ n3_; clear hb hbox hg) | ((with_reducible refine gate_dst (N := 3) rfl ?_); refine box_event ?hg (N := 3) ?hd (cs := #[.slice A1_0 l1_0.length c1_0]) (t := 38) ?hr ?_; (case hd => rfl); (case hg => rfl); (case hr => first | (go_simp; done) | (go_simp; rfl)); intro gb337 hg w30 hbox hb; have n0_ := hkBb BK336 hb; have n1_ := Aside0.mk (below_step (hkS HB) hb); have n2_ := Aside0.mk (hbox); have n3_ := hkG hg (hkS HB); have n4_ := hkG hg (hkS HB); have n5_ := hkN hg BK336; have n6_ := hkM hg BK336; clear BK336; clear HB; have BK336 := n0_; have HB := n1_; have BK337 := n2_; have GW337 := n3_; have GE337 := n4_; have NB336_337 := n5_; have NB337_336 := n6_; clear n0_ n1_ n2_ n3_ n4_ n5_ n6_; clear hb hbox hg) | ((with_reducible refine gate_dst (N := 4) rfl ?_); refine box_event ?hg (N := 4) ?hd (cs := #[.slice none 0 0]) (t := 38) ?hr ?_; (case hd => rfl); (case hg => rfl); (case hr => first | (go_simp; done) | (go_simp; rfl)); intro gb338 hg w31 hbox hb; have n0_ := hkBb BK336 hb; have n1_ := hkBb BK337 hb; have n2_ := Aside0.mk (below_step (hkS HB) hb); have n3_ := Aside0.mk (hbox); have n4_ := hkG hg (hkS HB); have n5_ := hkG hg (hkS HB); have n6_ := hkN hg BK336; have n7_ := hkM hg BK336; have n8_ := hkN hg BK337; have n9_ := hkM hg BK337; clear BK336; clear BK337; clear HB; have BK336 := n0_; have BK337 := n1_; have HB := n2_; have BK338 := n3_; have GW338 := n4_; have GE338 := n5_; have NB336_338 := n6_; have NB338_336 := n7_; have NB337_338 := n8_; have NB338_337 := n9_; clear n0_ n1_ n2_ n3_ n4_ n5_ n6_ n7_ n8_ n9_; clear hb hbox hg) | ((with_reducible refine gate_dst (N := 5) rfl ?_); refine box_event ?hg (N := 5) ?hd (cs := #[.slice none 0 0]) (t := 38) ?hr ?_; (case hd => rfl); (case hg => rfl); (case hr => first | (go_simp; done) | (go_simp; rfl)); intro gb339 hg w32 hbox hb; have n0_ := hkBb BK336 hb; have n1_ := hkBb BK337 hb; have n2_ := hkBb BK338 hb; have n3_ := Aside0.mk (below_step (hkS HB) hb); have n4_ := Aside0.mk (hbox); have n5_ := hkG hg (hkS HB); have n6_ := hkG hg (hkS HB); have n7_ := hkN hg BK336; have n8_ := hkM hg BK336; have n9_ := hkN hg BK337; have n10_ := hkM hg BK337; have n11_ := hkN hg BK338; have n12_ := hkM hg BK338; clear BK336; clear BK337; clear BK338; clear HB; have BK336 := n0_; have BK337 := n1_; have BK338 := n2_; have HB := n3_; have BK339 := n4_; have GW339 := n5_; have GE339 := n6_; have NB336_339 := n7_; have NB339_336 := n8_; have NB337_339 := n9_; have NB339_337 := n10_; have NB338_339 := n11_; have NB339_338 := n12_; clear n0_ n1_ n2_ n3_ n4_ n5_ n6_ n7_ n8_ n9_ n10_ n11_ n12_; clear hb hbox hg; have hnb33 := NB337_336.out; have hnc33 := NB336_337.out; have hnb34 := NB337_338.out; have hnc34 := NB338_337.out; have hnb35 := NB337_339.out; have hnc35 := NB339_337.out; have hcz36_0 : w32.cell? ⟨gb337, 0, none⟩ = some (.slice A1_0 l1_0.length c1_0) := (blk_cell BK337.out 0).trans rfl; have hfz36_0 := blk_frozen BK337.out 0; have hnb37 := NB336_338.out; have hnc37 := NB338_336.out; have hnb38 := NB336_339.out; have hnc38 := NB339_336.out; have hcz39_0 : w32.cell? ⟨gb336, 0, none⟩ = some (.slice A0_0 l0_0.length c0_0) := (blk_cell BK336.out 0).trans rfl; have hfz39_0 := blk_frozen BK336.out 0) | ((with_reducible refine gate_dst (N := 33) rfl ?_); refine Kd.R_make (Kd.int .i64) _ 3 rfl (N := 33) rfl 29 _ _ rfl (l0_0.length : Int) rfl rfl Try.underlying29 (.int .i64 0) 8 info3 rfl (by decide) (by omega) 0 (ok := fun _ => True) (okp := fun _ => True) rfl (fun _ hk => hk) trivial (of_decide_eq_true (by first | (with_reducible assumption) | assumption)) (Nat.le_trans (Nat.mul_le_mul_right _ (of_decide_eq_true (by first | (with_reducible assumption) | assumption) : (l0_0.length : Int).toNat ≤ 35184372088832)) (by omega)) (Below.refl _ _) (Nat.le_refl _) ?_; intro v350 w40 ho41 hb hg_ hnew_; clear hg_ hnew_; (first | rw [← Ny349.out] at ho41 | (simp only [Int.reduceToNat] at ho41; rw [← Ny349.out] at ho41) | (simp only [Int.toNat_zero, List.replicate_zero] at ho41; rw [← Ny349.out] at ho41)); have n0_ := Aside0.mk (Kd.R_lower ho41 (below_size (hkS HB))); have n1_ := hkBb BK336 hb; have n2_ := hkBb BK337 hb; have n3_ := hkBb BK338 hb; have n4_ := hkBb BK339 hb; have n5_ := Aside0.mk (below_step (hkS HB) hb); clear BK336; clear BK337; clear BK338; clear BK339; clear HB; have HO351 := n0_; have BK336 := n1_; have BK337 := n2_; have BK338 := n3_; have BK339 := n4_; have HB := n5_; clear n0_ n1_ n2_ n3_ n4_ n5_; clear hb ho41) | ((with_reducible refine gate_dst (N := 9) rfl ?_); refine box_event ?hg (N := 9) ?hd (cs := #[.slice none 0 0]) (t := 38) ?hr ?_; (case hd => rfl); (case hg => rfl); (case hr => first | (go_simp; done) | (go_simp; rfl)); intro gb352 hg w42 hbox hb; have n0_ := hkRb HO351 hb; have n1_ := hkBb BK336 hb; have n2_ := hkBb BK337 hb; have n3_ := hkBb BK338 hb; have n4_ := hkBb BK339 hb; have n5_ := Aside0.mk (below_step (hkS HB) hb); have n6_ := Aside0.mk (hbox); have n7_ := hkG hg (hkS HB); have n8_ := hkG hg (hkS HB); have n9_ := hkN hg BK336; have n10_ := hkM hg BK336; have n11_ := hkN hg BK337; have n12_ := hkM hg BK337; have n13_ := hkN hg BK338; have n14_ := hkM hg BK338; have n15_ := hkN hg BK339; have n16_ := hkM hg BK339; clear HO351; clear BK336; clear BK337; clear BK338; clear BK339; clear HB; have HO351 := n0_; have BK336 := n1_; have BK337 := n2_; have BK338 := n3_; have BK339 := n4_; have HB := n5_; have BK352 := n6_; have GW352 := n7_; have GE352 := n8_; have NB336_352 := n9_; have NB352_336 := n10_; have NB337_352 := n11_; have NB352_337 := n12_; have NB338_352 := n13_; have NB352_338 := n14_; have NB339_352 := n15_; have NB352_339 := n16_; clear n0_ n1_ n2_ n3_ n4_ n5_ n6_ n7_ n8_ n9_ n10_ n11_ n12_ n13_ n14_ n15_ n16_; clear hb hbox hg; have hnb43 := NB336_352.out; have hnc43 := NB352_336.out; have hcz44_0 : w42.cell? ⟨gb336, 0, none⟩ = some (.slice A0_0 l0_0.length c0_0) := (blk_cell BK336.out 0).trans rfl; have hfz44_0 := blk_frozen BK336.out 0))
        go_loopg [10] k (fun kq v10 w' => ∃ (x8_1 : List Int) (x10_1 : Int) (x353000_1 : List Int) (u353000 : Value), v10 = .int .i64 x10_1 ∧ Aside0 (spec_l2div.l0 kq x8_1 x10_1 l0_0 l1_0 x353000_1 = some (r1, r2)) ∧ Aside0 (kq ≤ k) ∧ Aside0 (Kd.R (Kd.int .i64) 3 w' w.heap.size (fun k_ => some k_ ≠ (u353000 : Value).ownBlock) v350 x8_1) ∧ Aside0 (Kd.R (Kd.int .i64) 3 w' w.heap.size (fun k_ => some k_ ≠ (v350 : Value).ownBlock) u353000 x353000_1) ∧ Aside0 (w'.heap[gb336]? = some (.cells #[(.slice A0_0 l0_0.length c0_0)] 38 (0, 0))) ∧ Aside0 (w'.heap[gb337]? = some (.cells #[(.slice A1_0 l1_0.length c1_0)] 38 (0, 0))) ∧ Aside0 (w'.heap[gb338]? = some (.cells #[(.slice none 0 0)] 38 (0, 0))) ∧ Aside0 (w'.heap[gb339]? = some (.cells #[(.slice none 0 0)] 38 (0, 0))) ∧ Aside0 (w'.heap[gb352]? = some (.cells #[u353000] 38 (0, 0))) ∧ Aside0 (Below w.heap.size w w'))
        case atStart => exact ⟨(y349), (wrap64 ((l0_0.length : Int) - 1)), (([] : List Int)), (.slice none 0 0), (by first | rfl | (simp; done) | (simp [*]; done)), H', ⟨Nat.le_refl _⟩, ⟨by (with_reducible repeat (first | apply Kd.R_alloc | apply Kd.R_drewN | apply Kd.R_drew)); exact Kd.R_mono HO351.out (fun _ hk => (by simp [Value.ownBlock]))⟩, ⟨by first | exact Kd.R_nil _ _ _ _ _ | exact Kd.N_nil _ _ _ _ _ | exact Kd.V_nil _ _ _ _ _ | exact Kd.Q_nil _ _ _ _ _ | exact Kd.S_nil _ _ _ _ _⟩, ⟨by (with_reducible repeat (first | refine blk_drewN ?_ _ | refine blk_drew ?_ | refine blk_alloc ?_ _)); exact BK336.out⟩, ⟨by (with_reducible repeat (first | refine blk_drewN ?_ _ | refine blk_drew ?_ | refine blk_alloc ?_ _)); exact BK337.out⟩, ⟨by (with_reducible repeat (first | refine blk_drewN ?_ _ | refine blk_drew ?_ | refine blk_alloc ?_ _)); exact BK338.out⟩, ⟨by (with_reducible repeat (first | refine blk_drewN ?_ _ | refine blk_drew ?_ | refine blk_alloc ?_ _)); exact BK339.out⟩, ⟨by (with_reducible repeat (first | refine blk_drewN ?_ _ | refine blk_drew ?_ | refine blk_alloc ?_ _)); exact BK352.out⟩, ⟨by repeat (first | (with_reducible first | exact HB.out | apply below_alloc | apply pw_below_drewN | apply below_drew1 | refine below_set ?_ GE336.out | refine below_set ?_ GE337.out | refine below_set ?_ GE338.out | refine below_set ?_ GE339.out | refine below_set ?_ GE352.out) | exact HB.out)⟩⟩
        case round =>
          clear H'
          try clear c1
          try clear c2
          try clear p2
          try clear c3
          try clear c3b0
          try clear c3b1
          try clear p3
          try clear q3
          try clear hx3
          try clear qi3
          try clear c4
          try clear c4b0
          try clear c4b1
          try clear c5
          try clear c6
          try clear p6
          try clear c11
          try clear c12
          try clear c13
          try clear c27
          try clear c27b0
          try clear c27b1
          try clear c28
          try clear c28b0
          try clear c28b1
          try clear c33
          try clear c34
          try clear p34
          try clear q34
          try clear hx34
          try clear qi34
          try clear c35
          try clear c37
          try clear c38
          try clear c43
          try clear hcz14_0
          try clear hcz36_0
          try clear hcz39_0
          try clear hcz44_0
          try clear hfz14_0
          try clear hfz36_0
          try clear hfz39_0
          try clear hfz44_0
          try clear hx340_0
          try clear p340
          try clear q340
          obtain ⟨x8_1, x10_1, x353000_1, u353000, rfl, HA, HK1, HO_8, HO_353000, BK336, BK337, BK338, BK339, BK352, HB⟩ := hrel
          cases gk with
          | zero => exact absurd HA.out (by simp [spec_l2div.l0])
          | succ k1 =>
            have H := HA.out
            clear HA
            simp only [spec_l2div.l0] at H
            by_cases c45 : x10_1 ≥ 0
            · rw [if_pos c45] at H
              have c45b0 : decide (0 ≤ x10_1) = true := decide_eq_true c45
              clear c45
              by_cases c46 : 0 ≤ x10_1
              · rw [if_pos c46] at H
                have c46b0 : decide (0 ≤ x10_1) = true := decide_eq_true c46
                clear c46
                by_cases c47 : x10_1 < (l0_0.length : Int)
                · rw [if_pos c47] at H
                  have c47b0 : decide (x10_1 < (l0_0.length : Int)) = true := decide_eq_true c47
                  clear c47
                  obtain ⟨y357, hy357⟩ : ∃ y_ : List Int, y_ = (([rd l0_0 x10_1] : List Int)) := ⟨_, rfl⟩
                  replace H : (if y357.length + x353000_1.length < 17592186044416 then ((spec_l2norm.f k1 (y357 ++ x353000_1)).bind fun t363 => (spec_l2div.l1 k1 x8_1 x10_1 0 65536 l0_0 l1_0 t363)) else (none)) = some (r1, r2) := by first | (rw [hy357]; with_reducible exact H) | (have H2_ := (Option.bind_some _ _).symm.trans H; rw [hy357]; with_reducible exact H2_) | (have H2_ := (Option.bind_some _ _).symm.trans H; with_reducible exact H2_) | with_reducible exact H | (rw [hy357]; exact H) | exact H
                  have Ny357 := Aside0.mk hy357
                  clear hy357
                  by_cases c48 : y357.length + x353000_1.length < 17592186044416
                  · rw [if_pos c48] at H
                    have LMc48 := Aside0.mk c48
                    clear c48
                    obtain ⟨y360, hy360⟩ : ∃ y_ : List Int, y_ = (y357 ++ x353000_1) := ⟨_, rfl⟩
                    replace H : ((spec_l2norm.f k1 y360).bind fun t363 => (spec_l2div.l1 k1 x8_1 x10_1 0 65536 l0_0 l1_0 t363)) = some (r1, r2) := by first | (rw [hy360]; with_reducible exact H) | (have H2_ := (Option.bind_some _ _).symm.trans H; rw [hy360]; with_reducible exact H2_) | (have H2_ := (Option.bind_some _ _).symm.trans H; with_reducible exact H2_) | with_reducible exact H | (rw [hy360]; exact H) | exact H
                    have Ny360 := Aside0.mk hy360
                    clear hy360
                    replace H := Option.bind_eq_some_iff.mp H
                    obtain ⟨t363, A490, H⟩ := H
                    replace H : (spec_l2div.l1 k1 x8_1 x10_1 0 65536 l0_0 l1_0 t363) = some (r1, r2) := H
                    have A49 := Aside0.mk A490
                    clear A490
                    have H' := Aside0.mk H
                    clear H
                    try go_wp2
                    have n0_ := Aside0.mk (Kd.R_drew HO_8.out)
                    have n1_ := Aside0.mk (Kd.R_drew HO_353000.out)
                    have n2_ := Aside0.mk (blk_drew BK336.out)
                    have n3_ := Aside0.mk (blk_drew BK337.out)
                    have n4_ := Aside0.mk (blk_drew BK338.out)
                    have n5_ := Aside0.mk (blk_drew BK339.out)
                    have n6_ := Aside0.mk (blk_drew BK352.out)
                    have n7_ := Aside0.mk (below_drew1 HB.out)
                    clear HO_8
                    clear HO_353000
                    clear BK336
                    clear BK337
                    clear BK338
                    clear BK339
                    clear BK352
                    clear HB
                    have HO_8 := n0_
                    have HO_353000 := n1_
                    have BK336 := n2_
                    have BK337 := n3_
                    have BK338 := n4_
                    have BK339 := n5_
                    have BK352 := n6_
                    have HB := n7_
                    clear n0_ n1_ n2_ n3_ n4_ n5_ n6_ n7_
                    have p356 : 0 ≤ (x10_1 : Int) := of_decide_eq_true (by first | (with_reducible assumption) | assumption)
                    have q356 : x10_1 < (l0_0.length : Int) := of_decide_eq_true (by first | (with_reducible assumption) | assumption)
                    obtain ⟨ad356, e356, hx356_0⟩ := Kd.at_int HR0_0.out x10_1 p356 q356
                    have hw356_0 := hx356_0
                    cases e356
                    replace hx356_0 := (HB.out.cell (World.block_lt_of_cell? w _ hx356_0)).trans hx356_0
                    replace p356 := eq_true p356
                    replace q356 := eq_true q356
                    refine start_ (n := 11) (S := fun w' => w'.cell? ⟨gb336, 0, none⟩ = some (.slice (some ad356) l0_0.length c0_0) ∧ w'.cell? ⟨gb352, 0, none⟩ = some (u353000) ∧ w'.cell? (ad356.add (x10_1).toNat) = some (.int .i64 (rd l0_0 x10_1))) (ds := [10]) #[false, false, false, false, false, false, false, false, false, false, false] (by kernel_rfl) rfl rfl ⟨(blk_cell BK336.out 0).trans rfl, (blk_cell BK352.out 0).trans rfl, ((HB.out.cell (World.block_lt_of_cell? w _ hw356_0)).trans hw356_0)⟩ (fun hHeld => ?_); refine with_tabW spec_l2div.tab9 spec_l2div.bits9 (fun HT_ HW_ => ?_)
                    generalize wr.drew = w50 at HO_8 HO_353000 BK336 BK337 BK338 BK339 BK352 HB hx356_0 hHeld ⊢
                    refine pure_ (i := 0) (N := some 42) (v := ?_) (a' := ?_) #[true, false, false, false, false, false, false, false, false, false, false] rfl rfl (any_of HT_.out (by kernel_rfl)) (fun _ _ _ h => h) (Or.inl ⟨by rfl, ?_⟩) ?_ ?_
                    rotate_left
                    · intro w'
                      go_simp
                      with_reducible rfl
                    rotate_left
                    · simp only [Act.put, List.setIfInBounds_toArray, List.set_cons_zero, List.set_cons_succ, i64_w, i32_w]
                      rfl
                    refine pure_ (i := 2) (N := some 44) (v := ?_) (a' := ?_) #[true, false, true, false, false, false, false, false, false, false, false] rfl rfl (any_of HT_.out (by kernel_rfl)) (fun _ _ _ h => h) (Or.inl ⟨by rfl, ?_⟩) ?_ ?_
                    rotate_left
                    · intro w'
                      go_simp
                      with_reducible rfl
                    rotate_left
                    · simp only [Act.put, List.setIfInBounds_toArray, List.set_cons_zero, List.set_cons_succ, i64_w, i32_w]
                      rfl
                    refine pure_ (i := 6) (N := some 48) (v := ?_) (a' := ?_) #[true, false, true, false, false, false, true, false, false, false, false] rfl rfl (any_of HT_.out (by kernel_rfl)) (fun _ _ _ h => h) (Or.inl ⟨by rfl, ?_⟩) ?_ ?_
                    rotate_left
                    · intro w'
                      go_simp
                      with_reducible rfl
                    rotate_left
                    · simp only [Act.put, List.setIfInBounds_toArray, List.set_cons_zero, List.set_cons_succ, i64_w, i32_w]
                      rfl
                    refine take_ (i := 1) (N := some 43) (v := ?_) (a' := ?_) #[true, true, true, false, false, false, true, false, false, false, false] rfl rfl (take_ofW HT_.out HW_.out (by kernel_rfl)) (fun _ _ _ h => h) (Or.inl ⟨by rfl, ?_⟩) hHeld ?_ ?_
                    rotate_left
                    · rintro w' ⟨s0, s1, s2⟩
                      go_simp
                      with_reducible rfl
                    rotate_left
                    · simp only [Act.put, List.setIfInBounds_toArray, List.set_cons_zero, List.set_cons_succ, i64_w, i32_w]
                      rfl
                    refine pure_ (i := 3) (N := some 45) (v := ?_) (a' := ?_) #[true, true, true, true, false, false, true, false, false, false, false] rfl rfl (any_of HT_.out (by kernel_rfl)) (fun _ _ _ h => h) (Or.inl ⟨by rfl, ?_⟩) ?_ ?_
                    rotate_left
                    · intro w'
                      go_simp
                      with_reducible rfl
                    rotate_left
                    · simp only [Act.put, List.setIfInBounds_toArray, List.set_cons_zero, List.set_cons_succ, i64_w, i32_w]
                      rfl
                    refine take_ (i := 4) (N := some 46) (v := ?_) (a' := ?_) #[true, true, true, true, true, false, true, false, false, false, false] rfl rfl (take_ofW HT_.out HW_.out (by kernel_rfl)) (fun _ _ _ h => h) (Or.inl ⟨by rfl, ?_⟩) hHeld ?_ ?_
                    rotate_left
                    · rintro w' ⟨s0, s1, s2⟩
                      go_simp
                      with_reducible rfl
                    rotate_left
                    · simp only [Act.put, List.setIfInBounds_toArray, List.set_cons_zero, List.set_cons_succ, i64_w, i32_w]
                      rfl
                    refine take_ (i := 7) (N := some 49) (v := ?_) (a' := ?_) #[true, true, true, true, true, false, true, true, false, false, false] rfl rfl (take_ofW HT_.out HW_.out (by kernel_rfl)) (fun _ _ _ h => h) (Or.inl ⟨by rfl, ?_⟩) hHeld ?_ ?_
                    rotate_left
                    · rintro w' ⟨s0, s1, s2⟩
                      go_simp
                      with_reducible rfl
                    rotate_left
                    · simp only [Act.put, List.setIfInBounds_toArray, List.set_cons_zero, List.set_cons_succ, i64_w, i32_w]
                      rfl
                    refine one_ (i := 5) (N := some 47) #[true, true, true, true, true, true, true, true, false, false, false] rfl rfl (one_of HT_.out (by kernel_rfl)) (by decide) (fun K hK => ?_)
                    refine Kd.R_lit_step (Kd.int .i64) _ 3 ?hg (N := 47) ?hd (xs := ([rd l0_0 x10_1] : List Int)) (inner := [.int .i64 (rd l0_0 x10_1)]) (ok := fun _ => True) (okp := fun _ => True) ?hr ?hp (fun _ hk => hk) trivial (Below.refl _ _) (Nat.le_refl _) (by simp) ?_; (case hd => rfl); (case hg => rfl); (case hr => first | (go_simp; done) | (go_simp; rfl)); (case hp => exact (Reps.one (show Kd.M (Kd.int .i64) _ _ _ (rd l0_0 x10_1) [.int .i64 (rd l0_0 x10_1)] from rfl) (Reps.none _ _)))
                    intro v358 w51 ho52 hb hg_ hnew_
                    clear hg_ hnew_
                    (first | rw [← Ny357.out] at ho52 | (simp only [Int.reduceToNat] at ho52; rw [← Ny357.out] at ho52) | (simp only [Int.toNat_zero, List.replicate_zero] at ho52; rw [← Ny357.out] at ho52))
                    have n0_ := Aside0.mk (Kd.R_elder' (hkR HO_8) (Kd.R_base ho52) hb)
                    have n1_ := Aside0.mk (Kd.R_elder' (hkR HO_353000) (Kd.R_base ho52) hb)
                    have n2_ := Aside0.mk (Kd.R_lower (Kd.R_new' (Kd.R_new' ho52 (Kd.R_lt (hkR HO_8))) (Kd.R_lt (hkR HO_353000))) (below_size (hkS HB)))
                    have n3_ := hkBb BK336 hb
                    have n4_ := hkBb BK337 hb
                    have n5_ := hkBb BK338 hb
                    have n6_ := hkBb BK339 hb
                    have n7_ := hkBb BK352 hb
                    have n8_ := Aside0.mk (below_step (hkS HB) hb)
                    clear HO_8
                    clear HO_353000
                    clear BK336
                    clear BK337
                    clear BK338
                    clear BK339
                    clear BK352
                    clear HB
                    have HO_8 := n0_
                    have HO_353000 := n1_
                    have HO359 := n2_
                    have BK336 := n3_
                    have BK337 := n4_
                    have BK338 := n5_
                    have BK339 := n6_
                    have BK352 := n7_
                    have HB := n8_
                    clear n0_ n1_ n2_ n3_ n4_ n5_ n6_ n7_ n8_
                    clear hb ho52
                    obtain ⟨Ao54, co54, eo54⟩ := Kd.R_slice HO_353000.out
                    (first | subst eo54 | (injection eo54 with f1_ f2_ f3_; have f4_ := f1_.symm; have f5_ := f3_.symm; clear f1_ f2_ f3_; subst f4_; subst f5_))
                    refine hK.out _ _ ⟨(blk_cell BK336.out 0).trans rfl, (blk_cell BK352.out 0).trans rfl, ((HB.out.cell (World.block_lt_of_cell? w _ hw356_0)).trans hw356_0)⟩ (fun hHeld => ?_)
                    clear hK K
                    refine norm_ (a' := ?_) ?_ ?_
                    rotate_left
                    · show Act.put _ (some 47) _ = _
                      simp only [Act.put, List.setIfInBounds_toArray, List.set_cons_zero, List.set_cons_succ, i64_w, i32_w]
                      rfl
                    refine one_ (i := 8) (N := some 50) #[true, true, true, true, true, true, true, true, true, false, false] rfl rfl (one_of HT_.out (by kernel_rfl)) (by decide) (fun K hK => ?_)
                    refine Kd.R_append_rows_step (Kd.int .i64) (w0 := w) w.heap.size (by rfl) (.tmp 47) (.tmp 49) 29 3 (.int .i64 0) 8 rfl Try.underlying29 info3 rfl (by decide) (by omega) v358 y357 x353000_1 _ _ _ (fun k_ => some k_ ≠ (v350 : Value).ownBlock ∧ some k_ ≠ (.slice Ao54 x353000_1.length co54 : Value).ownBlock) (fun _ => False) rfl rfl ?aO ?aR (fun _ _ h => h) (fun _ h => h.elim) ?aF ?aB ?aS ?aL ?_
                    (case aR => repeat (first | exact (Kd.R_reads' HO_353000.out).2.2 | (with_reducible refine Kd.C_alloc ?_ _) | (with_reducible refine Kd.C_drewN ?_ _) | (with_reducible refine Kd.C_drew ?_)))
                    (case aB => exact (hkS HB))
                    (case aF => exact (fun k_ hk => ⟨Kd.fresh' (Kd.R_lt (hkR HO_8)) k_ hk, Kd.fresh' (Kd.R_lt (hkR HO_353000)) k_ hk⟩))
                    (case aO => exact (by (with_reducible repeat (first | apply Kd.R_alloc | apply Kd.R_drewN | apply Kd.R_drew)); exact Kd.R_mono HO359.out (fun _ hk => ⟨hk.1.2, hk.2⟩)))
                    (case aS => exact (below_size (hkS HB)))
                    (case aL => have := LMc48.out; omega)
                    intro v361 w53 ho hb hg hat
                    rw [← Ny360.out] at ho
                    have n0_ := Aside0.mk (Kd.R_after (ok := (fun k_ => some k_ ≠ (.slice Ao54 x353000_1.length co54 : Value).ownBlock)) (hkR HO_8) hg hat)
                    have n1_ := Aside0.mk (Kd.R_after (ok := (fun k_ => some k_ ≠ (v350 : Value).ownBlock)) (hkR HO_353000) hg hat)
                    have n2_ := Aside0.mk (blk_grown (g := gb336) (o := .cells #[.slice (some ad356) l0_0.length c0_0] 38 (0, 0)) (hkB BK336) hg (Kd.R_ne HO359.out BK336.out (by decide)))
                    have n3_ := Aside0.mk (blk_grown (g := gb337) (o := .cells #[.slice A1_0 l1_0.length c1_0] 38 (0, 0)) (hkB BK337) hg (Kd.R_ne HO359.out BK337.out (by decide)))
                    have n4_ := Aside0.mk (blk_grown (g := gb338) (o := .cells #[.slice none 0 0] 38 (0, 0)) (hkB BK338) hg (Kd.R_ne HO359.out BK338.out (by decide)))
                    have n5_ := Aside0.mk (blk_grown (g := gb339) (o := .cells #[.slice none 0 0] 38 (0, 0)) (hkB BK339) hg (Kd.R_ne HO359.out BK339.out (by decide)))
                    have n6_ := Aside0.mk (blk_grown (g := gb352) (o := .cells #[.slice Ao54 x353000_1.length co54] 38 (0, 0)) (hkB BK352) hg (Kd.R_ne HO359.out BK352.out (by decide)))
                    have n7_ := Aside0.mk (hb)
                    have n8_ := Aside0.mk (ho)
                    clear HO_8
                    clear HO_353000
                    clear BK336
                    clear BK337
                    clear BK338
                    clear BK339
                    clear BK352
                    clear HB
                    clear HO359
                    have HO_8 := n0_
                    have HO_353000 := n1_
                    have BK336 := n2_
                    have BK337 := n3_
                    have BK338 := n4_
                    have BK339 := n5_
                    have BK352 := n6_
                    have HB := n7_
                    have HO362 := n8_
                    clear n0_ n1_ n2_ n3_ n4_ n5_ n6_ n7_ n8_
                    clear ho hb hg hat
                    obtain ⟨Ao55, co55, eo55⟩ := Kd.R_slice HO362.out
                    (first | subst eo55 | (injection eo55 with f1_ f2_ f3_; have f4_ := f1_.symm; have f5_ := f3_.symm; clear f1_ f2_ f3_; subst f4_; subst f5_))
                    refine hK.out _ _ ⟨(blk_cell BK336.out 0).trans rfl, (blk_cell BK352.out 0).trans rfl, ((HB.out.cell (World.block_lt_of_cell? w _ hw356_0)).trans hw356_0)⟩ (fun hHeld => ?_)
                    clear hK K
                    refine norm_ (a' := ?_) ?_ ?_
                    rotate_left
                    · show Act.put _ (some 50) _ = _
                      simp only [Act.put, List.setIfInBounds_toArray, List.set_cons_zero, List.set_cons_succ, i64_w, i32_w]
                      rfl
                    refine one_ (i := 9) (N := some 51) #[true, true, true, true, true, true, true, true, true, true, false] rfl rfl (one_of HT_.out (by kernel_rfl)) (by decide) (fun K hK => ?_)
                    refine goes_ Try.func99 (by kernel_rfl) rfl #[.slice Ao55 y360.length co55] (by rfl) rfl rfl hkL ?_
                    with_reducible refine (spec_l2norm.calls k1 _ _ y360 t363 _ ?side1 ?side2 A49.out).mono ?_
                    (case side1 => repeat (first | exact (Kd.R_reads' HO362.out).2.2 | (with_reducible refine Kd.C_alloc ?_ _) | (with_reducible refine Kd.C_drewN ?_ _) | (with_reducible refine Kd.C_drew ?_)))
                    (case side2 => exact (Kd.R_reads' HO362.out).2.1)
                    rintro e w56 ⟨v364, rfl, ho0, hb⟩
                    refine ⟨_, rfl, ?_⟩
                    have n0_ := Aside0.mk (Kd.R_elder' (hkR HO_8) (Kd.R_base ho0) hb)
                    have n1_ := Aside0.mk (Kd.R_elder' (hkR HO_353000) (Kd.R_base ho0) hb)
                    have n2_ := Aside0.mk (Kd.R_elder' (hkR HO362) (Kd.R_base ho0) hb)
                    have n3_ := Aside0.mk (Kd.R_lower (Kd.R_new' (Kd.R_new' (Kd.R_new' ho0 (Kd.R_lt (hkR HO_8))) (Kd.R_lt (hkR HO_353000))) (Kd.R_lt (hkR HO362))) (below_size (hkS HB)))
                    have n4_ := hkBb BK336 hb
                    have n5_ := hkBb BK337 hb
                    have n6_ := hkBb BK338 hb
                    have n7_ := hkBb BK339 hb
                    have n8_ := hkBb BK352 hb
                    have n9_ := Aside0.mk (below_step (hkS HB) hb)
                    clear HO_8
                    clear HO_353000
                    clear HO362
                    clear BK336
                    clear BK337
                    clear BK338
                    clear BK339
                    clear BK352
                    clear HB
                    have HO_8 := n0_
                    have HO_353000 := n1_
                    have HO362 := n2_
                    have HO365 := n3_
                    have BK336 := n4_
                    have BK337 := n5_
                    have BK338 := n6_
                    have BK339 := n7_
                    have BK352 := n8_
                    have HB := n9_
                    clear n0_ n1_ n2_ n3_ n4_ n5_ n6_ n7_ n8_ n9_
                    (try clear hb)
                    (try clear hb2)
                    (try clear hk)
                    (try clear hi)
                    (try clear ho0)
                    obtain ⟨Ao57, co57, eo57⟩ := Kd.R_slice HO365.out
                    (first | subst eo57 | (injection eo57 with f1_ f2_ f3_; have f4_ := f1_.symm; have f5_ := f3_.symm; clear f1_ f2_ f3_; subst f4_; subst f5_))
                    refine hK.out _ _ ⟨(blk_cell BK336.out 0).trans rfl, (blk_cell BK352.out 0).trans rfl, ((HB.out.cell (World.block_lt_of_cell? w _ hw356_0)).trans hw356_0)⟩ (fun hHeld => ?_)
                    clear hK K
                    refine norm_ (a' := ?_) ?_ ?_
                    rotate_left
                    · show Act.put _ (some 51) _ = _
                      simp only [Act.put, List.setIfInBounds_toArray, List.set_cons_zero, List.set_cons_succ, i64_w, i32_w]
                      rfl
                    refine last_ (i := 10) (N := none) #[true, true, true, true, true, true, true, true, true, true, true] rfl rfl (one_of HT_.out (by kernel_rfl)) (by decide) (fun K hK => ?_)
                    have hs58 : w56.cell? ⟨gb352, 0, none⟩ = some (.slice Ao54 x353000_1.length co54) := (blk_cell BK352.out 0).trans rfl
                    have hfs58 := blk_frozen BK352.out 0
                    have hns58_0 := NB336_352.out
                    have hns58_1 := NB337_352.out
                    have hns58_2 := NB338_352.out
                    have hns58_3 := NB339_352.out
                    have hms58_0 := NB352_336.out
                    have hms58_1 := NB352_337.out
                    have hms58_2 := NB352_338.out
                    have hms58_3 := NB352_339.out
                    refine skip_ (w1 := ?_) (by rfl) rfl ?_ ?_
                    rotate_left
                    · go_simp
                      rfl
                    refine hK.out _ _ ?_
                    clear hK K
                    refine done_ (done_of HT_.out (by kernel_rfl)) ?_
                    try go_wp2
                    go_loopg [11, 12] k1 (fun kq v11 v12 w' => ∃ (x11_2 : Int) (x12_2 : Int), v11 = .int .i64 x11_2 ∧ v12 = .int .i64 x12_2 ∧ Aside0 (spec_l2div.l1 kq x8_1 x10_1 x11_2 x12_2 l0_0 l1_0 t363 = some (r1, r2)) ∧ Aside0 (kq ≤ k1) ∧ Aside0 (Kd.R (Kd.int .i64) 3 w' w.heap.size (fun k_ => some k_ ≠ ((.slice Ao57 t363.length co57) : Value).ownBlock) v350 x8_1) ∧ Aside0 (Kd.R (Kd.int .i64) 3 w' w.heap.size (fun k_ => some k_ ≠ (v350 : Value).ownBlock) (.slice Ao57 t363.length co57) t363) ∧ Aside0 (w'.heap[gb336]? = some (.cells #[(.slice (some ad356) l0_0.length c0_0)] 38 (0, 0))) ∧ Aside0 (w'.heap[gb337]? = some (.cells #[(.slice A1_0 l1_0.length c1_0)] 38 (0, 0))) ∧ Aside0 (w'.heap[gb338]? = some (.cells #[(.slice none 0 0)] 38 (0, 0))) ∧ Aside0 (w'.heap[gb339]? = some (.cells #[(.slice none 0 0)] 38 (0, 0))) ∧ Aside0 (w'.heap[gb352]? = some (.cells #[(.slice Ao57 t363.length co57)] 38 (0, 0))) ∧ Aside0 (Below w.heap.size w w'))
                    case atStart => exact ⟨(0), (65536), (by first | rfl | (simp; done) | (simp [*]; done)), (by first | rfl | (simp; done) | (simp [*]; done)), H', ⟨Nat.le_refl _⟩, ⟨by (with_reducible repeat (first | apply Kd.R_alloc | apply Kd.R_drewN | apply Kd.R_drew)); exact Kd.R_mono (Kd.R_far (p := ⟨gb352, 0, none⟩) (Kd.R_types HO_8.out BK352.out (by decide)) (fun _ hk => hk.2) (.slice Ao57 t363.length co57)) (fun _ hk => hk.1.2)⟩, ⟨by (with_reducible repeat (first | apply Kd.R_alloc | apply Kd.R_drewN | apply Kd.R_drew)); exact Kd.R_mono (Kd.R_far (p := ⟨gb352, 0, none⟩) (Kd.R_types HO365.out BK352.out (by decide)) (fun _ hk => hk.2) (.slice Ao57 t363.length co57)) (fun _ hk => hk.1.1.1.2)⟩, ⟨by (with_reducible repeat (first | refine blk_drewN ?_ _ | refine blk_drew ?_ | refine blk_alloc ?_ _)); refine blk_far ?_ NB336_352.out _; (with_reducible repeat (first | refine blk_drewN ?_ _ | refine blk_drew ?_ | refine blk_alloc ?_ _)); exact BK336.out⟩, ⟨by (with_reducible repeat (first | refine blk_drewN ?_ _ | refine blk_drew ?_ | refine blk_alloc ?_ _)); refine blk_far ?_ NB337_352.out _; (with_reducible repeat (first | refine blk_drewN ?_ _ | refine blk_drew ?_ | refine blk_alloc ?_ _)); exact BK337.out⟩, ⟨by (with_reducible repeat (first | refine blk_drewN ?_ _ | refine blk_drew ?_ | refine blk_alloc ?_ _)); refine blk_far ?_ NB338_352.out _; (with_reducible repeat (first | refine blk_drewN ?_ _ | refine blk_drew ?_ | refine blk_alloc ?_ _)); exact BK338.out⟩, ⟨by (with_reducible repeat (first | refine blk_drewN ?_ _ | refine blk_drew ?_ | refine blk_alloc ?_ _)); refine blk_far ?_ NB339_352.out _; (with_reducible repeat (first | refine blk_drewN ?_ _ | refine blk_drew ?_ | refine blk_alloc ?_ _)); exact BK339.out⟩, ⟨by (with_reducible repeat (first | refine blk_drewN ?_ _ | refine blk_drew ?_ | refine blk_alloc ?_ _)); refine blk_put (cs := #[.slice Ao54 x353000_1.length co54]) ?_ 0 _ rfl; (with_reducible repeat (first | refine blk_drewN ?_ _ | refine blk_drew ?_ | refine blk_alloc ?_ _)); exact BK352.out⟩, ⟨by repeat (first | (with_reducible first | exact HB.out | apply below_alloc | apply pw_below_drewN | apply below_drew1 | refine below_set ?_ GE336.out | refine below_set ?_ GE337.out | refine below_set ?_ GE338.out | refine below_set ?_ GE339.out | refine below_set ?_ GE352.out) | exact HB.out)⟩⟩
                    case round =>
                      clear H'
                      try clear c1
                      try clear c2
                      try clear p2
                      try clear c3
                      try clear c3b0
                      try clear c3b1
                      try clear p3
                      try clear q3
                      try clear hx3
                      try clear qi3
                      try clear c4
                      try clear c4b0
                      try clear c4b1
                      try clear c5
                      try clear c6
                      try clear p6
                      try clear c9
                      try clear c11
                      try clear c12
                      try clear c13
                      try clear c27
                      try clear c27b0
                      try clear c27b1
                      try clear c28
                      try clear c28b0
                      try clear c28b1
                      try clear c33
                      try clear c34
                      try clear p34
                      try clear q34
                      try clear hx34
                      try clear qi34
                      try clear c35
                      try clear p35
                      try clear q35
                      try clear hx35
                      try clear c37
                      try clear c38
                      try clear c43
                      try clear c45
                      try clear c45b0
                      try clear c46
                      try clear c46b0
                      try clear c47
                      try clear c47b0
                      try clear c48
                      try clear c56
                      try clear hcz14_0
                      try clear hcz36_0
                      try clear hcz39_0
                      try clear hcz44_0
                      try clear hfz14_0
                      try clear hfz36_0
                      try clear hfz39_0
                      try clear hfz44_0
                      try clear hx340_0
                      try clear hx356_0
                      try clear p2
                      try clear p3
                      try clear p34
                      try clear p340
                      try clear p356
                      try clear p6
                      try clear q3
                      try clear q34
                      try clear q340
                      try clear q356
                      obtain ⟨x11_2, x12_2, rfl, rfl, HA, HK2, HO_8, HO_353000, BK336, BK337, BK338, BK339, BK352, HB⟩ := hrel
                      cases gk with
                      | zero => exact absurd HA.out (by simp [spec_l2div.l1])
                      | succ k2 =>
                        have H := HA.out
                        clear HA
                        simp only [spec_l2div.l1] at H
                        by_cases c59 : (wrap64 (x12_2 - x11_2)) > 1
                        · rw [if_pos c59] at H
                          have c59b0 : decide (1 < (wrap64 (x12_2 - x11_2))) = true := decide_eq_true c59
                          clear c59
                          replace H := Option.bind_eq_some_iff.mp H
                          obtain ⟨t376, A600, H⟩ := H
                          replace H : ((spec_l2mul.f k2 l1_0 t376).bind fun t379 => ((spec_l2cmp.f k2 t379 t363).bind fun t382 => (if t382 ≤ 0 then (spec_l2div.l1 k2 x8_1 x10_1 (wrap64 (Int.tdiv (wrap64 (x11_2 + x12_2)) 2)) x12_2 l0_0 l1_0 t363) else (spec_l2div.l1 k2 x8_1 x10_1 x11_2 (wrap64 (Int.tdiv (wrap64 (x11_2 + x12_2)) 2)) l0_0 l1_0 t363)))) = some (r1, r2) := H
                          have A60 := Aside0.mk A600
                          clear A600
                          replace H := Option.bind_eq_some_iff.mp H
                          obtain ⟨t379, A610, H⟩ := H
                          replace H : ((spec_l2cmp.f k2 t379 t363).bind fun t382 => (if t382 ≤ 0 then (spec_l2div.l1 k2 x8_1 x10_1 (wrap64 (Int.tdiv (wrap64 (x11_2 + x12_2)) 2)) x12_2 l0_0 l1_0 t363) else (spec_l2div.l1 k2 x8_1 x10_1 x11_2 (wrap64 (Int.tdiv (wrap64 (x11_2 + x12_2)) 2)) l0_0 l1_0 t363))) = some (r1, r2) := H
                          have A61 := Aside0.mk A610
                          clear A610
                          replace H := Option.bind_eq_some_iff.mp H
                          obtain ⟨t382, A620, H⟩ := H
                          replace H : (if t382 ≤ 0 then (spec_l2div.l1 k2 x8_1 x10_1 (wrap64 (Int.tdiv (wrap64 (x11_2 + x12_2)) 2)) x12_2 l0_0 l1_0 t363) else (spec_l2div.l1 k2 x8_1 x10_1 x11_2 (wrap64 (Int.tdiv (wrap64 (x11_2 + x12_2)) 2)) l0_0 l1_0 t363)) = some (r1, r2) := H
                          have A62 := Aside0.mk A620
                          clear A620
                          by_cases c63 : t382 ≤ 0
                          · rw [if_pos c63] at H
                            have c63b0 : decide (t382 ≤ 0) = true := decide_eq_true c63
                            clear c63
                            have H' := Aside0.mk H
                            clear H
                            try go_wp2
                            have n0_ := Aside0.mk (Kd.R_drew HO_8.out)
                            have n1_ := Aside0.mk (Kd.R_drew HO_353000.out)
                            have n2_ := Aside0.mk (blk_drew BK336.out)
                            have n3_ := Aside0.mk (blk_drew BK337.out)
                            have n4_ := Aside0.mk (blk_drew BK338.out)
                            have n5_ := Aside0.mk (blk_drew BK339.out)
                            have n6_ := Aside0.mk (blk_drew BK352.out)
                            have n7_ := Aside0.mk (below_drew1 HB.out)
                            clear HO_8
                            clear HO_353000
                            clear BK336
                            clear BK337
                            clear BK338
                            clear BK339
                            clear BK352
                            clear HB
                            have HO_8 := n0_
                            have HO_353000 := n1_
                            have BK336 := n2_
                            have BK337 := n3_
                            have BK338 := n4_
                            have BK339 := n5_
                            have BK352 := n6_
                            have HB := n7_
                            clear n0_ n1_ n2_ n3_ n4_ n5_ n6_ n7_
                            refine start_ (n := 7) (S := fun w' => w'.cell? ⟨gb337, 0, none⟩ = some (.slice A1_0 l1_0.length c1_0) ∧ w'.cell? ⟨gb352, 0, none⟩ = some (.slice Ao57 t363.length co57)) (ds := []) #[false, false, false, false, false, false, false] (by kernel_rfl) rfl rfl ⟨(blk_cell BK337.out 0).trans rfl, (blk_cell BK352.out 0).trans rfl⟩ (fun hHeld => ?_)
                            generalize wr.drew = w64 at HO_8 HO_353000 BK336 BK337 BK338 BK339 BK352 HB hHeld ⊢
                            refine pure_ (i := 1) (N := some 61) (v := ?_) (a' := ?_) #[false, true, false, false, false, false, false] rfl rfl (by kernel_rfl) (fun _ _ _ h => h) (Or.inl ⟨by rfl, ?_⟩) ?_ ?_
                            rotate_left
                            · intro w'
                              go_simp
                              with_reducible rfl
                            rotate_left
                            · simp only [Act.put, List.setIfInBounds_toArray, List.set_cons_zero, List.set_cons_succ, i64_w, i32_w]
                              rfl
                            refine take_ (i := 0) (N := some 60) (v := ?_) (a' := ?_) #[true, true, false, false, false, false, false] rfl rfl (by kernel_rfl) (fun _ _ _ h => h) (Or.inl ⟨by rfl, ?_⟩) hHeld ?_ ?_
                            rotate_left
                            · rintro w' ⟨s0, s1⟩
                              go_simp
                              with_reducible rfl
                            rotate_left
                            · simp only [Act.put, List.setIfInBounds_toArray, List.set_cons_zero, List.set_cons_succ, i64_w, i32_w]
                              rfl
                            refine take_ (i := 4) (N := some 64) (v := ?_) (a' := ?_) #[true, true, false, false, true, false, false] rfl rfl (by kernel_rfl) (fun _ _ _ h => h) (Or.inl ⟨by rfl, ?_⟩) hHeld ?_ ?_
                            rotate_left
                            · rintro w' ⟨s0, s1⟩
                              go_simp
                              with_reducible rfl
                            rotate_left
                            · simp only [Act.put, List.setIfInBounds_toArray, List.set_cons_zero, List.set_cons_succ, i64_w, i32_w]
                              rfl
                            refine one_ (i := 2) (N := some 62) #[true, true, true, false, true, false, false] rfl rfl (by kernel_rfl) (by decide) (fun K hK => ?_)
                            refine goes_ Try.func56 (by kernel_rfl) rfl #[.int .i64 (wrap64 (Int.tdiv (wrap64 (x11_2 + x12_2)) 2))] (by rfl) rfl rfl hkL ?_
                            with_reducible refine (spec_l2of.calls k2 (wrap64 (Int.tdiv (wrap64 (x11_2 + x12_2)) 2)) t376 _ A60.out).mono ?_
                            rintro e w65 ⟨v377, rfl, ho0, hb⟩
                            refine ⟨_, rfl, ?_⟩
                            have n0_ := Aside0.mk (Kd.R_elder' (hkR HO_8) (Kd.R_base ho0) hb)
                            have n1_ := Aside0.mk (Kd.R_elder' (hkR HO_353000) (Kd.R_base ho0) hb)
                            have n2_ := Aside0.mk (Kd.R_lower (Kd.R_new' (Kd.R_new' ho0 (Kd.R_lt (hkR HO_8))) (Kd.R_lt (hkR HO_353000))) (below_size (hkS HB)))
                            have n3_ := hkBb BK336 hb
                            have n4_ := hkBb BK337 hb
                            have n5_ := hkBb BK338 hb
                            have n6_ := hkBb BK339 hb
                            have n7_ := hkBb BK352 hb
                            have n8_ := Aside0.mk (below_step (hkS HB) hb)
                            clear HO_8
                            clear HO_353000
                            clear BK336
                            clear BK337
                            clear BK338
                            clear BK339
                            clear BK352
                            clear HB
                            have HO_8 := n0_
                            have HO_353000 := n1_
                            have HO378 := n2_
                            have BK336 := n3_
                            have BK337 := n4_
                            have BK338 := n5_
                            have BK339 := n6_
                            have BK352 := n7_
                            have HB := n8_
                            clear n0_ n1_ n2_ n3_ n4_ n5_ n6_ n7_ n8_
                            (try clear hb)
                            (try clear hb2)
                            (try clear hk)
                            (try clear hi)
                            (try clear ho0)
                            obtain ⟨Ao66, co66, eo66⟩ := Kd.R_slice HO378.out
                            (first | subst eo66 | (injection eo66 with f1_ f2_ f3_; have f4_ := f1_.symm; have f5_ := f3_.symm; clear f1_ f2_ f3_; subst f4_; subst f5_))
                            refine hK.out _ _ ⟨(blk_cell BK337.out 0).trans rfl, (blk_cell BK352.out 0).trans rfl⟩ (fun hHeld => ?_)
                            clear hK K
                            refine norm_ (a' := ?_) ?_ ?_
                            rotate_left
                            · show Act.put _ (some 62) _ = _
                              simp only [Act.put, List.setIfInBounds_toArray, List.set_cons_zero, List.set_cons_succ, i64_w, i32_w]
                              rfl
                            refine one_ (i := 3) (N := some 63) #[true, true, true, true, true, false, false] rfl rfl (by kernel_rfl) (by decide) (fun K hK => ?_)
                            refine goes_ Try.func58 (by kernel_rfl) rfl #[.agg #[.slice A1_0 l1_0.length c1_0], .agg #[.slice Ao66 t376.length co66]] (by rfl) rfl rfl hkL ?_
                            with_reducible refine (spec_l2mul.calls k2 _ _ l1_0 _ _ t376 t379 _ ?side1 ?side2 ?side3 ?side4 A61.out).mono ?_
                            (case side1 => repeat (first | exact (Kd.C_below HR1_0.out HB.out) | (with_reducible refine Kd.C_alloc ?_ _) | (with_reducible refine Kd.C_drewN ?_ _) | (with_reducible refine Kd.C_drew ?_)))
                            (case side2 => exact HC1_0.out)
                            (case side3 => repeat (first | exact (Kd.R_reads' HO378.out).2.2 | (with_reducible refine Kd.C_alloc ?_ _) | (with_reducible refine Kd.C_drewN ?_ _) | (with_reducible refine Kd.C_drew ?_)))
                            (case side4 => exact (Kd.R_reads' HO378.out).2.1)
                            rintro e w67 ⟨v380, rfl, ho0, hb⟩
                            refine ⟨_, rfl, ?_⟩
                            have n0_ := Aside0.mk (Kd.R_elder' (hkR HO_8) (Kd.R_base ho0) hb)
                            have n1_ := Aside0.mk (Kd.R_elder' (hkR HO_353000) (Kd.R_base ho0) hb)
                            have n2_ := Aside0.mk (Kd.R_elder' (hkR HO378) (Kd.R_base ho0) hb)
                            have n3_ := Aside0.mk (Kd.R_lower (Kd.R_new' (Kd.R_new' (Kd.R_new' ho0 (Kd.R_lt (hkR HO_8))) (Kd.R_lt (hkR HO_353000))) (Kd.R_lt (hkR HO378))) (below_size (hkS HB)))
                            have n4_ := hkBb BK336 hb
                            have n5_ := hkBb BK337 hb
                            have n6_ := hkBb BK338 hb
                            have n7_ := hkBb BK339 hb
                            have n8_ := hkBb BK352 hb
                            have n9_ := Aside0.mk (below_step (hkS HB) hb)
                            clear HO_8
                            clear HO_353000
                            clear HO378
                            clear BK336
                            clear BK337
                            clear BK338
                            clear BK339
                            clear BK352
                            clear HB
                            have HO_8 := n0_
                            have HO_353000 := n1_
                            have HO378 := n2_
                            have HO381 := n3_
                            have BK336 := n4_
                            have BK337 := n5_
                            have BK338 := n6_
                            have BK339 := n7_
                            have BK352 := n8_
                            have HB := n9_
                            clear n0_ n1_ n2_ n3_ n4_ n5_ n6_ n7_ n8_ n9_
                            (try clear hb)
                            (try clear hb2)
                            (try clear hk)
                            (try clear hi)
                            (try clear ho0)
                            obtain ⟨Ao68, co68, eo68⟩ := Kd.R_slice HO381.out
                            (first | subst eo68 | (injection eo68 with f1_ f2_ f3_; have f4_ := f1_.symm; have f5_ := f3_.symm; clear f1_ f2_ f3_; subst f4_; subst f5_))
                            refine hK.out _ _ ⟨(blk_cell BK337.out 0).trans rfl, (blk_cell BK352.out 0).trans rfl⟩ (fun hHeld => ?_)
                            clear hK K
                            refine norm_ (a' := ?_) ?_ ?_
                            rotate_left
                            · show Act.put _ (some 63) _ = _
                              simp only [Act.put, List.setIfInBounds_toArray, List.set_cons_zero, List.set_cons_succ, i64_w, i32_w]
                              rfl
                            refine one_ (i := 5) (N := some 65) #[true, true, true, true, true, true, false] rfl rfl (by kernel_rfl) (by decide) (fun K hK => ?_)
                            refine goes_ Try.func112 (by kernel_rfl) rfl #[.agg #[.slice Ao68 t379.length co68], .agg #[.slice Ao57 t363.length co57]] (by rfl) rfl rfl hkL ?_
                            with_reducible refine (spec_l2cmp.calls k2 _ _ t379 _ _ t363 t382 _ ?side1 ?side2 ?side3 ?side4 A62.out).mono ?_
                            (case side1 => repeat (first | exact (Kd.R_reads' HO381.out).2.2 | (with_reducible refine Kd.C_alloc ?_ _) | (with_reducible refine Kd.C_drewN ?_ _) | (with_reducible refine Kd.C_drew ?_)))
                            (case side2 => exact (Kd.R_reads' HO381.out).2.1)
                            (case side3 => repeat (first | exact (Kd.R_reads' HO_353000.out).2.2 | (with_reducible refine Kd.C_alloc ?_ _) | (with_reducible refine Kd.C_drewN ?_ _) | (with_reducible refine Kd.C_drew ?_)))
                            (case side4 => exact (Kd.R_reads' HO_353000.out).2.1)
                            rintro e w69 ⟨rfl, hb⟩
                            refine ⟨_, rfl, ?_⟩
                            have n0_ := hkRb HO_8 hb
                            have n1_ := hkRb HO_353000 hb
                            have n2_ := hkRb HO378 hb
                            have n3_ := hkRb HO381 hb
                            have n4_ := hkBb BK336 hb
                            have n5_ := hkBb BK337 hb
                            have n6_ := hkBb BK338 hb
                            have n7_ := hkBb BK339 hb
                            have n8_ := hkBb BK352 hb
                            have n9_ := Aside0.mk (below_step (hkS HB) hb)
                            clear HO_8
                            clear HO_353000
                            clear HO378
                            clear HO381
                            clear BK336
                            clear BK337
                            clear BK338
                            clear BK339
                            clear BK352
                            clear HB
                            have HO_8 := n0_
                            have HO_353000 := n1_
                            have HO378 := n2_
                            have HO381 := n3_
                            have BK336 := n4_
                            have BK337 := n5_
                            have BK338 := n6_
                            have BK339 := n7_
                            have BK352 := n8_
                            have HB := n9_
                            clear n0_ n1_ n2_ n3_ n4_ n5_ n6_ n7_ n8_ n9_
                            (try clear hb)
                            (try clear hb2)
                            (try clear hk)
                            (try clear hi)
                            refine hK.out _ _ ⟨(blk_cell BK337.out 0).trans rfl, (blk_cell BK352.out 0).trans rfl⟩ (fun hHeld => ?_)
                            clear hK K
                            refine norm_ (a' := ?_) ?_ ?_
                            rotate_left
                            · show Act.put _ (some 65) _ = _
                              simp only [Act.put, List.setIfInBounds_toArray, List.set_cons_zero, List.set_cons_succ, i64_w, i32_w]
                              rfl
                            refine pure_ (i := 6) (N := some 66) (v := ?_) (a' := ?_) #[true, true, true, true, true, true, true] rfl rfl (by kernel_rfl) (fun _ _ _ h => h) (Or.inl ⟨by rfl, ?_⟩) ?_ ?_
                            rotate_left
                            · intro w'
                              go_simp
                              with_reducible rfl
                            rotate_left
                            · simp only [Act.put, List.setIfInBounds_toArray, List.set_cons_zero, List.set_cons_succ, i64_w, i32_w]
                              rfl
                            refine done_ (by kernel_rfl) ?_
                            try go_wp2
                            go_roundg k2
                            case measure => have := HK1.out; have := HK2.out; omega
                            case rel => exact ⟨(wrap64 (Int.tdiv (wrap64 (x11_2 + x12_2)) 2)), (x12_2), (by first | rfl | (simp; done) | (simp [*]; done)), (by first | rfl | (simp; done) | (simp [*]; done)), H', ⟨by have := HK1.out; have := HK2.out; omega⟩, ⟨by (with_reducible repeat (first | apply Kd.R_alloc | apply Kd.R_drewN | apply Kd.R_drew)); exact Kd.R_mono HO_8.out (fun _ hk => hk.1.1)⟩, ⟨by (with_reducible repeat (first | apply Kd.R_alloc | apply Kd.R_drewN | apply Kd.R_drew)); exact Kd.R_mono HO_353000.out (fun _ hk => hk.1.1)⟩, ⟨by (with_reducible repeat (first | refine blk_drewN ?_ _ | refine blk_drew ?_ | refine blk_alloc ?_ _)); exact BK336.out⟩, ⟨by (with_reducible repeat (first | refine blk_drewN ?_ _ | refine blk_drew ?_ | refine blk_alloc ?_ _)); exact BK337.out⟩, ⟨by (with_reducible repeat (first | refine blk_drewN ?_ _ | refine blk_drew ?_ | refine blk_alloc ?_ _)); exact BK338.out⟩, ⟨by (with_reducible repeat (first | refine blk_drewN ?_ _ | refine blk_drew ?_ | refine blk_alloc ?_ _)); exact BK339.out⟩, ⟨by (with_reducible repeat (first | refine blk_drewN ?_ _ | refine blk_drew ?_ | refine blk_alloc ?_ _)); exact BK352.out⟩, ⟨by repeat (first | (with_reducible first | exact HB.out | apply below_alloc | apply pw_below_drewN | apply below_drew1 | refine below_set ?_ GE336.out | refine below_set ?_ GE337.out | refine below_set ?_ GE338.out | refine below_set ?_ GE339.out | refine below_set ?_ GE352.out) | exact HB.out)⟩⟩
                          · rw [if_neg c63] at H
                            have c63b0 : decide (t382 ≤ 0) = false := decide_eq_false c63
                            clear c63
                            have H' := Aside0.mk H
                            clear H
                            try go_wp2
                            have n0_ := Aside0.mk (Kd.R_drew HO_8.out)
                            have n1_ := Aside0.mk (Kd.R_drew HO_353000.out)
                            have n2_ := Aside0.mk (blk_drew BK336.out)
                            have n3_ := Aside0.mk (blk_drew BK337.out)
                            have n4_ := Aside0.mk (blk_drew BK338.out)
                            have n5_ := Aside0.mk (blk_drew BK339.out)
                            have n6_ := Aside0.mk (blk_drew BK352.out)
                            have n7_ := Aside0.mk (below_drew1 HB.out)
                            clear HO_8
                            clear HO_353000
                            clear BK336
                            clear BK337
                            clear BK338
                            clear BK339
                            clear BK352
                            clear HB
                            have HO_8 := n0_
                            have HO_353000 := n1_
                            have BK336 := n2_
                            have BK337 := n3_
                            have BK338 := n4_
                            have BK339 := n5_
                            have BK352 := n6_
                            have HB := n7_
                            clear n0_ n1_ n2_ n3_ n4_ n5_ n6_ n7_
                            refine start_ (n := 7) (S := fun w' => w'.cell? ⟨gb337, 0, none⟩ = some (.slice A1_0 l1_0.length c1_0) ∧ w'.cell? ⟨gb352, 0, none⟩ = some (.slice Ao57 t363.length co57)) (ds := []) #[false, false, false, false, false, false, false] (by kernel_rfl) rfl rfl ⟨(blk_cell BK337.out 0).trans rfl, (blk_cell BK352.out 0).trans rfl⟩ (fun hHeld => ?_)
                            generalize wr.drew = w70 at HO_8 HO_353000 BK336 BK337 BK338 BK339 BK352 HB hHeld ⊢
                            refine pure_ (i := 1) (N := some 61) (v := ?_) (a' := ?_) #[false, true, false, false, false, false, false] rfl rfl (by kernel_rfl) (fun _ _ _ h => h) (Or.inl ⟨by rfl, ?_⟩) ?_ ?_
                            rotate_left
                            · intro w'
                              go_simp
                              with_reducible rfl
                            rotate_left
                            · simp only [Act.put, List.setIfInBounds_toArray, List.set_cons_zero, List.set_cons_succ, i64_w, i32_w]
                              rfl
                            refine take_ (i := 0) (N := some 60) (v := ?_) (a' := ?_) #[true, true, false, false, false, false, false] rfl rfl (by kernel_rfl) (fun _ _ _ h => h) (Or.inl ⟨by rfl, ?_⟩) hHeld ?_ ?_
                            rotate_left
                            · rintro w' ⟨s0, s1⟩
                              go_simp
                              with_reducible rfl
                            rotate_left
                            · simp only [Act.put, List.setIfInBounds_toArray, List.set_cons_zero, List.set_cons_succ, i64_w, i32_w]
                              rfl
                            refine take_ (i := 4) (N := some 64) (v := ?_) (a' := ?_) #[true, true, false, false, true, false, false] rfl rfl (by kernel_rfl) (fun _ _ _ h => h) (Or.inl ⟨by rfl, ?_⟩) hHeld ?_ ?_
                            rotate_left
                            · rintro w' ⟨s0, s1⟩
                              go_simp
                              with_reducible rfl
                            rotate_left
                            · simp only [Act.put, List.setIfInBounds_toArray, List.set_cons_zero, List.set_cons_succ, i64_w, i32_w]
                              rfl
                            refine one_ (i := 2) (N := some 62) #[true, true, true, false, true, false, false] rfl rfl (by kernel_rfl) (by decide) (fun K hK => ?_)
                            refine goes_ Try.func56 (by kernel_rfl) rfl #[.int .i64 (wrap64 (Int.tdiv (wrap64 (x11_2 + x12_2)) 2))] (by rfl) rfl rfl hkL ?_
                            with_reducible refine (spec_l2of.calls k2 (wrap64 (Int.tdiv (wrap64 (x11_2 + x12_2)) 2)) t376 _ A60.out).mono ?_
                            rintro e w71 ⟨v377, rfl, ho0, hb⟩
                            refine ⟨_, rfl, ?_⟩
                            have n0_ := Aside0.mk (Kd.R_elder' (hkR HO_8) (Kd.R_base ho0) hb)
                            have n1_ := Aside0.mk (Kd.R_elder' (hkR HO_353000) (Kd.R_base ho0) hb)
                            have n2_ := Aside0.mk (Kd.R_lower (Kd.R_new' (Kd.R_new' ho0 (Kd.R_lt (hkR HO_8))) (Kd.R_lt (hkR HO_353000))) (below_size (hkS HB)))
                            have n3_ := hkBb BK336 hb
                            have n4_ := hkBb BK337 hb
                            have n5_ := hkBb BK338 hb
                            have n6_ := hkBb BK339 hb
                            have n7_ := hkBb BK352 hb
                            have n8_ := Aside0.mk (below_step (hkS HB) hb)
                            clear HO_8
                            clear HO_353000
                            clear BK336
                            clear BK337
                            clear BK338
                            clear BK339
                            clear BK352
                            clear HB
                            have HO_8 := n0_
                            have HO_353000 := n1_
                            have HO378 := n2_
                            have BK336 := n3_
                            have BK337 := n4_
                            have BK338 := n5_
                            have BK339 := n6_
                            have BK352 := n7_
                            have HB := n8_
                            clear n0_ n1_ n2_ n3_ n4_ n5_ n6_ n7_ n8_
                            (try clear hb)
                            (try clear hb2)
                            (try clear hk)
                            (try clear hi)
                            (try clear ho0)
                            obtain ⟨Ao72, co72, eo72⟩ := Kd.R_slice HO378.out
                            (first | subst eo72 | (injection eo72 with f1_ f2_ f3_; have f4_ := f1_.symm; have f5_ := f3_.symm; clear f1_ f2_ f3_; subst f4_; subst f5_))
                            refine hK.out _ _ ⟨(blk_cell BK337.out 0).trans rfl, (blk_cell BK352.out 0).trans rfl⟩ (fun hHeld => ?_)
                            clear hK K
                            refine norm_ (a' := ?_) ?_ ?_
                            rotate_left
                            · show Act.put _ (some 62) _ = _
                              simp only [Act.put, List.setIfInBounds_toArray, List.set_cons_zero, List.set_cons_succ, i64_w, i32_w]
                              rfl
                            refine one_ (i := 3) (N := some 63) #[true, true, true, true, true, false, false] rfl rfl (by kernel_rfl) (by decide) (fun K hK => ?_)
                            refine goes_ Try.func58 (by kernel_rfl) rfl #[.agg #[.slice A1_0 l1_0.length c1_0], .agg #[.slice Ao72 t376.length co72]] (by rfl) rfl rfl hkL ?_
                            with_reducible refine (spec_l2mul.calls k2 _ _ l1_0 _ _ t376 t379 _ ?side1 ?side2 ?side3 ?side4 A61.out).mono ?_
                            (case side1 => repeat (first | exact (Kd.C_below HR1_0.out HB.out) | (with_reducible refine Kd.C_alloc ?_ _) | (with_reducible refine Kd.C_drewN ?_ _) | (with_reducible refine Kd.C_drew ?_)))
                            (case side2 => exact HC1_0.out)
                            (case side3 => repeat (first | exact (Kd.R_reads' HO378.out).2.2 | (with_reducible refine Kd.C_alloc ?_ _) | (with_reducible refine Kd.C_drewN ?_ _) | (with_reducible refine Kd.C_drew ?_)))
                            (case side4 => exact (Kd.R_reads' HO378.out).2.1)
                            rintro e w73 ⟨v380, rfl, ho0, hb⟩
                            refine ⟨_, rfl, ?_⟩
                            have n0_ := Aside0.mk (Kd.R_elder' (hkR HO_8) (Kd.R_base ho0) hb)
                            have n1_ := Aside0.mk (Kd.R_elder' (hkR HO_353000) (Kd.R_base ho0) hb)
                            have n2_ := Aside0.mk (Kd.R_elder' (hkR HO378) (Kd.R_base ho0) hb)
                            have n3_ := Aside0.mk (Kd.R_lower (Kd.R_new' (Kd.R_new' (Kd.R_new' ho0 (Kd.R_lt (hkR HO_8))) (Kd.R_lt (hkR HO_353000))) (Kd.R_lt (hkR HO378))) (below_size (hkS HB)))
                            have n4_ := hkBb BK336 hb
                            have n5_ := hkBb BK337 hb
                            have n6_ := hkBb BK338 hb
                            have n7_ := hkBb BK339 hb
                            have n8_ := hkBb BK352 hb
                            have n9_ := Aside0.mk (below_step (hkS HB) hb)
                            clear HO_8
                            clear HO_353000
                            clear HO378
                            clear BK336
                            clear BK337
                            clear BK338
                            clear BK339
                            clear BK352
                            clear HB
                            have HO_8 := n0_
                            have HO_353000 := n1_
                            have HO378 := n2_
                            have HO381 := n3_
                            have BK336 := n4_
                            have BK337 := n5_
                            have BK338 := n6_
                            have BK339 := n7_
                            have BK352 := n8_
                            have HB := n9_
                            clear n0_ n1_ n2_ n3_ n4_ n5_ n6_ n7_ n8_ n9_
                            (try clear hb)
                            (try clear hb2)
                            (try clear hk)
                            (try clear hi)
                            (try clear ho0)
                            obtain ⟨Ao74, co74, eo74⟩ := Kd.R_slice HO381.out
                            (first | subst eo74 | (injection eo74 with f1_ f2_ f3_; have f4_ := f1_.symm; have f5_ := f3_.symm; clear f1_ f2_ f3_; subst f4_; subst f5_))
                            refine hK.out _ _ ⟨(blk_cell BK337.out 0).trans rfl, (blk_cell BK352.out 0).trans rfl⟩ (fun hHeld => ?_)
                            clear hK K
                            refine norm_ (a' := ?_) ?_ ?_
                            rotate_left
                            · show Act.put _ (some 63) _ = _
                              simp only [Act.put, List.setIfInBounds_toArray, List.set_cons_zero, List.set_cons_succ, i64_w, i32_w]
                              rfl
                            refine one_ (i := 5) (N := some 65) #[true, true, true, true, true, true, false] rfl rfl (by kernel_rfl) (by decide) (fun K hK => ?_)
                            refine goes_ Try.func112 (by kernel_rfl) rfl #[.agg #[.slice Ao74 t379.length co74], .agg #[.slice Ao57 t363.length co57]] (by rfl) rfl rfl hkL ?_
                            with_reducible refine (spec_l2cmp.calls k2 _ _ t379 _ _ t363 t382 _ ?side1 ?side2 ?side3 ?side4 A62.out).mono ?_
                            (case side1 => repeat (first | exact (Kd.R_reads' HO381.out).2.2 | (with_reducible refine Kd.C_alloc ?_ _) | (with_reducible refine Kd.C_drewN ?_ _) | (with_reducible refine Kd.C_drew ?_)))
                            (case side2 => exact (Kd.R_reads' HO381.out).2.1)
                            (case side3 => repeat (first | exact (Kd.R_reads' HO_353000.out).2.2 | (with_reducible refine Kd.C_alloc ?_ _) | (with_reducible refine Kd.C_drewN ?_ _) | (with_reducible refine Kd.C_drew ?_)))
                            (case side4 => exact (Kd.R_reads' HO_353000.out).2.1)
                            rintro e w75 ⟨rfl, hb⟩
                            refine ⟨_, rfl, ?_⟩
                            have n0_ := hkRb HO_8 hb
                            have n1_ := hkRb HO_353000 hb
                            have n2_ := hkRb HO378 hb
                            have n3_ := hkRb HO381 hb
                            have n4_ := hkBb BK336 hb
                            have n5_ := hkBb BK337 hb
                            have n6_ := hkBb BK338 hb
                            have n7_ := hkBb BK339 hb
                            have n8_ := hkBb BK352 hb
                            have n9_ := Aside0.mk (below_step (hkS HB) hb)
                            clear HO_8
                            clear HO_353000
                            clear HO378
                            clear HO381
                            clear BK336
                            clear BK337
                            clear BK338
                            clear BK339
                            clear BK352
                            clear HB
                            have HO_8 := n0_
                            have HO_353000 := n1_
                            have HO378 := n2_
                            have HO381 := n3_
                            have BK336 := n4_
                            have BK337 := n5_
                            have BK338 := n6_
                            have BK339 := n7_
                            have BK352 := n8_
                            have HB := n9_
                            clear n0_ n1_ n2_ n3_ n4_ n5_ n6_ n7_ n8_ n9_
                            (try clear hb)
                            (try clear hb2)
                            (try clear hk)
                            (try clear hi)
                            refine hK.out _ _ ⟨(blk_cell BK337.out 0).trans rfl, (blk_cell BK352.out 0).trans rfl⟩ (fun hHeld => ?_)
                            clear hK K
                            refine norm_ (a' := ?_) ?_ ?_
                            rotate_left
                            · show Act.put _ (some 65) _ = _
                              simp only [Act.put, List.setIfInBounds_toArray, List.set_cons_zero, List.set_cons_succ, i64_w, i32_w]
                              rfl
                            refine pure_ (i := 6) (N := some 66) (v := ?_) (a' := ?_) #[true, true, true, true, true, true, true] rfl rfl (by kernel_rfl) (fun _ _ _ h => h) (Or.inl ⟨by rfl, ?_⟩) ?_ ?_
                            rotate_left
                            · intro w'
                              go_simp
                              with_reducible rfl
                            rotate_left
                            · simp only [Act.put, List.setIfInBounds_toArray, List.set_cons_zero, List.set_cons_succ, i64_w, i32_w]
                              rfl
                            refine done_ (by kernel_rfl) ?_
                            try go_wp2
                            go_roundg k2
                            case measure => have := HK1.out; have := HK2.out; omega
                            case rel => exact ⟨(x11_2), (wrap64 (Int.tdiv (wrap64 (x11_2 + x12_2)) 2)), (by first | rfl | (simp; done) | (simp [*]; done)), (by first | rfl | (simp; done) | (simp [*]; done)), H', ⟨by have := HK1.out; have := HK2.out; omega⟩, ⟨by (with_reducible repeat (first | apply Kd.R_alloc | apply Kd.R_drewN | apply Kd.R_drew)); exact Kd.R_mono HO_8.out (fun _ hk => hk.1.1)⟩, ⟨by (with_reducible repeat (first | apply Kd.R_alloc | apply Kd.R_drewN | apply Kd.R_drew)); exact Kd.R_mono HO_353000.out (fun _ hk => hk.1.1)⟩, ⟨by (with_reducible repeat (first | refine blk_drewN ?_ _ | refine blk_drew ?_ | refine blk_alloc ?_ _)); exact BK336.out⟩, ⟨by (with_reducible repeat (first | refine blk_drewN ?_ _ | refine blk_drew ?_ | refine blk_alloc ?_ _)); exact BK337.out⟩, ⟨by (with_reducible repeat (first | refine blk_drewN ?_ _ | refine blk_drew ?_ | refine blk_alloc ?_ _)); exact BK338.out⟩, ⟨by (with_reducible repeat (first | refine blk_drewN ?_ _ | refine blk_drew ?_ | refine blk_alloc ?_ _)); exact BK339.out⟩, ⟨by (with_reducible repeat (first | refine blk_drewN ?_ _ | refine blk_drew ?_ | refine blk_alloc ?_ _)); exact BK352.out⟩, ⟨by repeat (first | (with_reducible first | exact HB.out | apply below_alloc | apply pw_below_drewN | apply below_drew1 | refine below_set ?_ GE336.out | refine below_set ?_ GE337.out | refine below_set ?_ GE338.out | refine below_set ?_ GE339.out | refine below_set ?_ GE352.out) | exact HB.out)⟩⟩
                        · rw [if_neg c59] at H
                          have c59b0 : decide (1 < (wrap64 (x12_2 - x11_2))) = false := decide_eq_false c59
                          clear c59
                          by_cases c76 : 0 ≤ x10_1
                          · rw [if_pos c76] at H
                            have c76b0 : decide (0 ≤ x10_1) = true := decide_eq_true c76
                            clear c76
                            by_cases c77 : x10_1 < (x8_1.length : Int)
                            · rw [if_pos c77] at H
                              have c77b0 : decide (x10_1 < (x8_1.length : Int)) = true := decide_eq_true c77
                              clear c77
                              obtain ⟨y366, hy366⟩ : ∃ y_ : List Int, y_ = (x8_1.set (x10_1 : Int).toNat x11_2) := ⟨_, rfl⟩
                              replace H : ((spec_l2of.f k2 x11_2).bind fun t367 => ((spec_l2mul.f k2 l1_0 t367).bind fun t370 => ((spec_l2sub.f k2 t363 t370).bind fun t373 => (spec_l2div.l0 k2 y366 (wrap64 (x10_1 - 1)) l0_0 l1_0 t373)))) = some (r1, r2) := by first | (rw [hy366]; with_reducible exact H) | (have H2_ := (Option.bind_some _ _).symm.trans H; rw [hy366]; with_reducible exact H2_) | (have H2_ := (Option.bind_some _ _).symm.trans H; with_reducible exact H2_) | with_reducible exact H | (rw [hy366]; exact H) | exact H
                              have Ny366 := Aside0.mk hy366
                              clear hy366
                              replace H := Option.bind_eq_some_iff.mp H
                              obtain ⟨t367, A790, H⟩ := H
                              replace H : ((spec_l2mul.f k2 l1_0 t367).bind fun t370 => ((spec_l2sub.f k2 t363 t370).bind fun t373 => (spec_l2div.l0 k2 y366 (wrap64 (x10_1 - 1)) l0_0 l1_0 t373))) = some (r1, r2) := H
                              have A79 := Aside0.mk A790
                              clear A790
                              replace H := Option.bind_eq_some_iff.mp H
                              obtain ⟨t370, A800, H⟩ := H
                              replace H : ((spec_l2sub.f k2 t363 t370).bind fun t373 => (spec_l2div.l0 k2 y366 (wrap64 (x10_1 - 1)) l0_0 l1_0 t373)) = some (r1, r2) := H
                              have A80 := Aside0.mk A800
                              clear A800
                              replace H := Option.bind_eq_some_iff.mp H
                              obtain ⟨t373, A810, H⟩ := H
                              replace H : (spec_l2div.l0 k2 y366 (wrap64 (x10_1 - 1)) l0_0 l1_0 t373) = some (r1, r2) := H
                              have A81 := Aside0.mk A810
                              clear A810
                              have H' := Aside0.mk H
                              clear H
                              have p78 : 0 ≤ (x10_1 : Int) := of_decide_eq_true (by first | (with_reducible assumption) | assumption)
                              have q78 : (x10_1 : Int) < ((x8_1.length : Int) : Int) := of_decide_eq_true (by first | (with_reducible assumption) | assumption)
                              obtain ⟨go78, co78, eo78, gb78, gl78, cl78, HG78⟩ := Kd.R_form HO_8.out (by omega)
                              (first | cases eo78 | (injection eo78 with ea_ en_ ec_; (first | subst ea_ | (injection ea_ with ea_; subst ea_)); subst ec_; clear en_))
                              have GB78 := Aside0.mk gb78
                              have GG78 := Aside0.mk HG78
                              clear gb78 gl78 HG78
                              obtain ⟨hx78_0, hf78_0⟩ := Kd.R_celln 0 HO_8.out (x10_1 : Int) p78 q78
                              replace p78 := eq_true p78
                              replace q78 := eq_true q78
                              have HP82 := Kd.R_putg HO_8.out (x10_1 : Int) x11_2
                              try go_wp2_with (first | ((with_reducible refine gate_store (t := 3) (p := 72) rfl ?_); refine store_event (t := 3) (p := 72) (v := ?vo_w83) (w1 := (wr.setCell ⟨go78, (x10_1 : Int).toNat, none⟩ (.int .i64 x11_2))) ?hg ?ho ?hn ?hr ?_; (case ho => rfl); (case hg => rfl); (case hn => rfl); (case hr => first | (go_simp; done) | (go_simp; rfl)); intro w83 hw; have hg : wr.grownBy w83 (some go78) := (by rw [hw]; exact HP82.2); have hp_ : Kd.R (Kd.int .i64) 3 w83 w.heap.size (fun k_ => some k_ ≠ (.slice Ao57 t363.length co57 : Value).ownBlock) (.slice (some ⟨go78, 0, none⟩) x8_1.length co78) y366 := (by rw [hw, Ny366.out]; exact HP82.1); clear HP82; have n0_ := Aside0.mk (hp_); have n1_ := Aside0.mk (Kd.R_after (v := (.slice (some ⟨go78, 0, none⟩) x8_1.length co78)) (v1 := (.slice (some ⟨go78, 0, none⟩) x8_1.length co78)) (ok := (fun _ => True)) (by (with_reducible repeat (first | apply Kd.R_alloc | apply Kd.R_drewN | apply Kd.R_drew)); exact Kd.R_mono HO_353000.out (fun _ hk => ⟨trivial, hk⟩)) hg (.inl rfl)); have n2_ := Aside0.mk (blk_grown (g := gb336) (o := .cells #[.slice (some ad356) l0_0.length c0_0] 38 (0, 0)) (hkB BK336) hg (Kd.R_ne HO_8.out BK336.out (by decide))); have n3_ := Aside0.mk (blk_grown (g := gb337) (o := .cells #[.slice A1_0 l1_0.length c1_0] 38 (0, 0)) (hkB BK337) hg (Kd.R_ne HO_8.out BK337.out (by decide))); have n4_ := Aside0.mk (blk_grown (g := gb338) (o := .cells #[.slice none 0 0] 38 (0, 0)) (hkB BK338) hg (Kd.R_ne HO_8.out BK338.out (by decide))); have n5_ := Aside0.mk (blk_grown (g := gb339) (o := .cells #[.slice none 0 0] 38 (0, 0)) (hkB BK339) hg (Kd.R_ne HO_8.out BK339.out (by decide))); have n6_ := Aside0.mk (blk_grown (g := gb352) (o := .cells #[.slice Ao57 t363.length co57] 38 (0, 0)) (hkB BK352) hg (Kd.R_ne HO_8.out BK352.out (by decide))); have n7_ := Aside0.mk ((by rw [hw]; exact below_set (HB.out) GB78.out : Below w.heap.size w w83)); clear HO_8; clear HO_353000; clear BK336; clear BK337; clear BK338; clear BK339; clear BK352; clear HB; have HO_8 := n0_; have HO_353000 := n1_; have BK336 := n2_; have BK337 := n3_; have BK338 := n4_; have BK339 := n5_; have BK352 := n6_; have HB := n7_; clear n0_ n1_ n2_ n3_ n4_ n5_ n6_ n7_; clear hg hw hp_))
                              have n0_ := Aside0.mk (Kd.R_drew HO_8.out)
                              have n1_ := Aside0.mk (Kd.R_drew HO_353000.out)
                              have n2_ := Aside0.mk (blk_drew BK336.out)
                              have n3_ := Aside0.mk (blk_drew BK337.out)
                              have n4_ := Aside0.mk (blk_drew BK338.out)
                              have n5_ := Aside0.mk (blk_drew BK339.out)
                              have n6_ := Aside0.mk (blk_drew BK352.out)
                              have n7_ := Aside0.mk (below_drew1 HB.out)
                              clear HO_8
                              clear HO_353000
                              clear BK336
                              clear BK337
                              clear BK338
                              clear BK339
                              clear BK352
                              clear HB
                              have HO_8 := n0_
                              have HO_353000 := n1_
                              have BK336 := n2_
                              have BK337 := n3_
                              have BK338 := n4_
                              have BK339 := n5_
                              have BK352 := n6_
                              have HB := n7_
                              clear n0_ n1_ n2_ n3_ n4_ n5_ n6_ n7_
                              refine start_ (n := 7) (S := fun w' => w'.cell? ⟨gb352, 0, none⟩ = some (.slice Ao57 t363.length co57) ∧ w'.cell? ⟨gb337, 0, none⟩ = some (.slice A1_0 l1_0.length c1_0)) (ds := [6]) #[false, false, false, false, false, false, false] (by kernel_rfl) rfl rfl ⟨(blk_cell BK352.out 0).trans rfl, (blk_cell BK337.out 0).trans rfl⟩ (fun hHeld => ?_)
                              generalize w83.drew = w84 at HO_8 HO_353000 BK336 BK337 BK338 BK339 BK352 HB hHeld ⊢
                              refine pure_ (i := 2) (N := some 75) (v := ?_) (a' := ?_) #[false, false, true, false, false, false, false] rfl rfl (by kernel_rfl) (fun _ _ _ h => h) (Or.inl ⟨by rfl, ?_⟩) ?_ ?_
                              rotate_left
                              · intro w'
                                go_simp
                                with_reducible rfl
                              rotate_left
                              · simp only [Act.put, List.setIfInBounds_toArray, List.set_cons_zero, List.set_cons_succ, i64_w, i32_w]
                                rfl
                              refine take_ (i := 0) (N := some 73) (v := ?_) (a' := ?_) #[true, false, true, false, false, false, false] rfl rfl (by kernel_rfl) (fun _ _ _ h => h) (Or.inl ⟨by rfl, ?_⟩) hHeld ?_ ?_
                              rotate_left
                              · rintro w' ⟨s0, s1⟩
                                go_simp
                                with_reducible rfl
                              rotate_left
                              · simp only [Act.put, List.setIfInBounds_toArray, List.set_cons_zero, List.set_cons_succ, i64_w, i32_w]
                                rfl
                              refine take_ (i := 1) (N := some 74) (v := ?_) (a' := ?_) #[true, true, true, false, false, false, false] rfl rfl (by kernel_rfl) (fun _ _ _ h => h) (Or.inl ⟨by rfl, ?_⟩) hHeld ?_ ?_
                              rotate_left
                              · rintro w' ⟨s0, s1⟩
                                go_simp
                                with_reducible rfl
                              rotate_left
                              · simp only [Act.put, List.setIfInBounds_toArray, List.set_cons_zero, List.set_cons_succ, i64_w, i32_w]
                                rfl
                              refine one_ (i := 3) (N := some 76) #[true, true, true, true, false, false, false] rfl rfl (by kernel_rfl) (by decide) (fun K hK => ?_)
                              refine goes_ Try.func56 (by kernel_rfl) rfl #[.int .i64 x11_2] (by rfl) rfl rfl hkL ?_
                              with_reducible refine (spec_l2of.calls k2 x11_2 t367 _ A79.out).mono ?_
                              rintro e w85 ⟨v368, rfl, ho0, hb⟩
                              refine ⟨_, rfl, ?_⟩
                              have n0_ := Aside0.mk (Kd.R_elder' (hkR HO_8) (Kd.R_base ho0) hb)
                              have n1_ := Aside0.mk (Kd.R_elder' (hkR HO_353000) (Kd.R_base ho0) hb)
                              have n2_ := Aside0.mk (Kd.R_lower (Kd.R_new' (Kd.R_new' ho0 (Kd.R_lt (hkR HO_8))) (Kd.R_lt (hkR HO_353000))) (below_size (hkS HB)))
                              have n3_ := hkBb BK336 hb
                              have n4_ := hkBb BK337 hb
                              have n5_ := hkBb BK338 hb
                              have n6_ := hkBb BK339 hb
                              have n7_ := hkBb BK352 hb
                              have n8_ := Aside0.mk (below_step (hkS HB) hb)
                              clear HO_8
                              clear HO_353000
                              clear BK336
                              clear BK337
                              clear BK338
                              clear BK339
                              clear BK352
                              clear HB
                              have HO_8 := n0_
                              have HO_353000 := n1_
                              have HO369 := n2_
                              have BK336 := n3_
                              have BK337 := n4_
                              have BK338 := n5_
                              have BK339 := n6_
                              have BK352 := n7_
                              have HB := n8_
                              clear n0_ n1_ n2_ n3_ n4_ n5_ n6_ n7_ n8_
                              (try clear hb)
                              (try clear hb2)
                              (try clear hk)
                              (try clear hi)
                              (try clear ho0)
                              obtain ⟨Ao86, co86, eo86⟩ := Kd.R_slice HO369.out
                              (first | subst eo86 | (injection eo86 with f1_ f2_ f3_; have f4_ := f1_.symm; have f5_ := f3_.symm; clear f1_ f2_ f3_; subst f4_; subst f5_))
                              refine hK.out _ _ ⟨(blk_cell BK352.out 0).trans rfl, (blk_cell BK337.out 0).trans rfl⟩ (fun hHeld => ?_)
                              clear hK K
                              refine norm_ (a' := ?_) ?_ ?_
                              rotate_left
                              · show Act.put _ (some 76) _ = _
                                simp only [Act.put, List.setIfInBounds_toArray, List.set_cons_zero, List.set_cons_succ, i64_w, i32_w]
                                rfl
                              refine one_ (i := 4) (N := some 77) #[true, true, true, true, true, false, false] rfl rfl (by kernel_rfl) (by decide) (fun K hK => ?_)
                              refine goes_ Try.func58 (by kernel_rfl) rfl #[.agg #[.slice A1_0 l1_0.length c1_0], .agg #[.slice Ao86 t367.length co86]] (by rfl) rfl rfl hkL ?_
                              with_reducible refine (spec_l2mul.calls k2 _ _ l1_0 _ _ t367 t370 _ ?side1 ?side2 ?side3 ?side4 A80.out).mono ?_
                              (case side1 => repeat (first | exact (Kd.C_below HR1_0.out HB.out) | (with_reducible refine Kd.C_alloc ?_ _) | (with_reducible refine Kd.C_drewN ?_ _) | (with_reducible refine Kd.C_drew ?_)))
                              (case side2 => exact HC1_0.out)
                              (case side3 => repeat (first | exact (Kd.R_reads' HO369.out).2.2 | (with_reducible refine Kd.C_alloc ?_ _) | (with_reducible refine Kd.C_drewN ?_ _) | (with_reducible refine Kd.C_drew ?_)))
                              (case side4 => exact (Kd.R_reads' HO369.out).2.1)
                              rintro e w87 ⟨v371, rfl, ho0, hb⟩
                              refine ⟨_, rfl, ?_⟩
                              have n0_ := Aside0.mk (Kd.R_elder' (hkR HO_8) (Kd.R_base ho0) hb)
                              have n1_ := Aside0.mk (Kd.R_elder' (hkR HO_353000) (Kd.R_base ho0) hb)
                              have n2_ := Aside0.mk (Kd.R_elder' (hkR HO369) (Kd.R_base ho0) hb)
                              have n3_ := Aside0.mk (Kd.R_lower (Kd.R_new' (Kd.R_new' (Kd.R_new' ho0 (Kd.R_lt (hkR HO_8))) (Kd.R_lt (hkR HO_353000))) (Kd.R_lt (hkR HO369))) (below_size (hkS HB)))
                              have n4_ := hkBb BK336 hb
                              have n5_ := hkBb BK337 hb
                              have n6_ := hkBb BK338 hb
                              have n7_ := hkBb BK339 hb
                              have n8_ := hkBb BK352 hb
                              have n9_ := Aside0.mk (below_step (hkS HB) hb)
                              clear HO_8
                              clear HO_353000
                              clear HO369
                              clear BK336
                              clear BK337
                              clear BK338
                              clear BK339
                              clear BK352
                              clear HB
                              have HO_8 := n0_
                              have HO_353000 := n1_
                              have HO369 := n2_
                              have HO372 := n3_
                              have BK336 := n4_
                              have BK337 := n5_
                              have BK338 := n6_
                              have BK339 := n7_
                              have BK352 := n8_
                              have HB := n9_
                              clear n0_ n1_ n2_ n3_ n4_ n5_ n6_ n7_ n8_ n9_
                              (try clear hb)
                              (try clear hb2)
                              (try clear hk)
                              (try clear hi)
                              (try clear ho0)
                              obtain ⟨Ao88, co88, eo88⟩ := Kd.R_slice HO372.out
                              (first | subst eo88 | (injection eo88 with f1_ f2_ f3_; have f4_ := f1_.symm; have f5_ := f3_.symm; clear f1_ f2_ f3_; subst f4_; subst f5_))
                              refine hK.out _ _ ⟨(blk_cell BK352.out 0).trans rfl, (blk_cell BK337.out 0).trans rfl⟩ (fun hHeld => ?_)
                              clear hK K
                              refine norm_ (a' := ?_) ?_ ?_
                              rotate_left
                              · show Act.put _ (some 77) _ = _
                                simp only [Act.put, List.setIfInBounds_toArray, List.set_cons_zero, List.set_cons_succ, i64_w, i32_w]
                                rfl
                              refine one_ (i := 5) (N := some 78) #[true, true, true, true, true, true, false] rfl rfl (by kernel_rfl) (by decide) (fun K hK => ?_)
                              refine goes_ Try.func113 (by kernel_rfl) rfl #[.agg #[.slice Ao57 t363.length co57], .agg #[.slice Ao88 t370.length co88]] (by rfl) rfl rfl hkL ?_
                              with_reducible refine (spec_l2sub.calls k2 _ _ t363 _ _ t370 t373 _ ?side1 ?side2 ?side3 ?side4 A81.out).mono ?_
                              (case side1 => repeat (first | exact (Kd.R_reads' HO_353000.out).2.2 | (with_reducible refine Kd.C_alloc ?_ _) | (with_reducible refine Kd.C_drewN ?_ _) | (with_reducible refine Kd.C_drew ?_)))
                              (case side2 => exact (Kd.R_reads' HO_353000.out).2.1)
                              (case side3 => repeat (first | exact (Kd.R_reads' HO372.out).2.2 | (with_reducible refine Kd.C_alloc ?_ _) | (with_reducible refine Kd.C_drewN ?_ _) | (with_reducible refine Kd.C_drew ?_)))
                              (case side4 => exact (Kd.R_reads' HO372.out).2.1)
                              rintro e w89 ⟨v374, rfl, ho0, hb⟩
                              refine ⟨_, rfl, ?_⟩
                              have n0_ := Aside0.mk (Kd.R_elder' (hkR HO_8) (Kd.R_base ho0) hb)
                              have n1_ := Aside0.mk (Kd.R_elder' (hkR HO_353000) (Kd.R_base ho0) hb)
                              have n2_ := Aside0.mk (Kd.R_elder' (hkR HO369) (Kd.R_base ho0) hb)
                              have n3_ := Aside0.mk (Kd.R_elder' (hkR HO372) (Kd.R_base ho0) hb)
                              have n4_ := Aside0.mk (Kd.R_lower (Kd.R_new' (Kd.R_new' (Kd.R_new' (Kd.R_new' ho0 (Kd.R_lt (hkR HO_8))) (Kd.R_lt (hkR HO_353000))) (Kd.R_lt (hkR HO369))) (Kd.R_lt (hkR HO372))) (below_size (hkS HB)))
                              have n5_ := hkBb BK336 hb
                              have n6_ := hkBb BK337 hb
                              have n7_ := hkBb BK338 hb
                              have n8_ := hkBb BK339 hb
                              have n9_ := hkBb BK352 hb
                              have n10_ := Aside0.mk (below_step (hkS HB) hb)
                              clear HO_8
                              clear HO_353000
                              clear HO369
                              clear HO372
                              clear BK336
                              clear BK337
                              clear BK338
                              clear BK339
                              clear BK352
                              clear HB
                              have HO_8 := n0_
                              have HO_353000 := n1_
                              have HO369 := n2_
                              have HO372 := n3_
                              have HO375 := n4_
                              have BK336 := n5_
                              have BK337 := n6_
                              have BK338 := n7_
                              have BK339 := n8_
                              have BK352 := n9_
                              have HB := n10_
                              clear n0_ n1_ n2_ n3_ n4_ n5_ n6_ n7_ n8_ n9_ n10_
                              (try clear hb)
                              (try clear hb2)
                              (try clear hk)
                              (try clear hi)
                              (try clear ho0)
                              obtain ⟨Ao90, co90, eo90⟩ := Kd.R_slice HO375.out
                              (first | subst eo90 | (injection eo90 with f1_ f2_ f3_; have f4_ := f1_.symm; have f5_ := f3_.symm; clear f1_ f2_ f3_; subst f4_; subst f5_))
                              refine hK.out _ _ ⟨(blk_cell BK352.out 0).trans rfl, (blk_cell BK337.out 0).trans rfl⟩ (fun hHeld => ?_)
                              clear hK K
                              refine norm_ (a' := ?_) ?_ ?_
                              rotate_left
                              · show Act.put _ (some 78) _ = _
                                simp only [Act.put, List.setIfInBounds_toArray, List.set_cons_zero, List.set_cons_succ, i64_w, i32_w]
                                rfl
                              refine last_ (i := 6) (N := none) #[true, true, true, true, true, true, true] rfl rfl (by kernel_rfl) (by decide) (fun K hK => ?_)
                              have hs91 : w89.cell? ⟨gb352, 0, none⟩ = some (.slice Ao57 t363.length co57) := (blk_cell BK352.out 0).trans rfl
                              have hfs91 := blk_frozen BK352.out 0
                              have hns91_0 := NB336_352.out
                              have hns91_1 := NB337_352.out
                              have hns91_2 := NB338_352.out
                              have hns91_3 := NB339_352.out
                              have hms91_0 := NB352_336.out
                              have hms91_1 := NB352_337.out
                              have hms91_2 := NB352_338.out
                              have hms91_3 := NB352_339.out
                              refine skip_ (w1 := ?_) (by rfl) rfl ?_ ?_
                              rotate_left
                              · go_simp
                                rfl
                              refine hK.out _ _ ?_
                              clear hK K
                              refine done_ (by kernel_rfl) ?_
                              try go_wp2
                              go_roundg k2
                              case measure => have := HK1.out; have := HK2.out; omega
                              case rel => exact ⟨(y366), (wrap64 (x10_1 - 1)), (t373), (.slice Ao90 t373.length co90), (by first | rfl | (simp; done) | (simp [*]; done)), H', ⟨by have := HK1.out; have := HK2.out; omega⟩, ⟨by (with_reducible repeat (first | apply Kd.R_alloc | apply Kd.R_drewN | apply Kd.R_drew)); exact Kd.R_mono (Kd.R_far (p := ⟨gb352, 0, none⟩) (Kd.R_types HO_8.out BK352.out (by decide)) (fun _ hk => hk.2) (.slice Ao90 t373.length co90)) (fun _ hk => hk.1.2)⟩, ⟨by (with_reducible repeat (first | apply Kd.R_alloc | apply Kd.R_drewN | apply Kd.R_drew)); exact Kd.R_mono (Kd.R_far (p := ⟨gb352, 0, none⟩) (Kd.R_types HO375.out BK352.out (by decide)) (fun _ hk => hk.2) (.slice Ao90 t373.length co90)) (fun _ hk => hk.1.1.1.1.2)⟩, ⟨by (with_reducible repeat (first | refine blk_drewN ?_ _ | refine blk_drew ?_ | refine blk_alloc ?_ _)); refine blk_far ?_ NB336_352.out _; (with_reducible repeat (first | refine blk_drewN ?_ _ | refine blk_drew ?_ | refine blk_alloc ?_ _)); exact BK336.out⟩, ⟨by (with_reducible repeat (first | refine blk_drewN ?_ _ | refine blk_drew ?_ | refine blk_alloc ?_ _)); refine blk_far ?_ NB337_352.out _; (with_reducible repeat (first | refine blk_drewN ?_ _ | refine blk_drew ?_ | refine blk_alloc ?_ _)); exact BK337.out⟩, ⟨by (with_reducible repeat (first | refine blk_drewN ?_ _ | refine blk_drew ?_ | refine blk_alloc ?_ _)); refine blk_far ?_ NB338_352.out _; (with_reducible repeat (first | refine blk_drewN ?_ _ | refine blk_drew ?_ | refine blk_alloc ?_ _)); exact BK338.out⟩, ⟨by (with_reducible repeat (first | refine blk_drewN ?_ _ | refine blk_drew ?_ | refine blk_alloc ?_ _)); refine blk_far ?_ NB339_352.out _; (with_reducible repeat (first | refine blk_drewN ?_ _ | refine blk_drew ?_ | refine blk_alloc ?_ _)); exact BK339.out⟩, ⟨by (with_reducible repeat (first | refine blk_drewN ?_ _ | refine blk_drew ?_ | refine blk_alloc ?_ _)); refine blk_put (cs := #[.slice Ao57 t363.length co57]) ?_ 0 _ rfl; (with_reducible repeat (first | refine blk_drewN ?_ _ | refine blk_drew ?_ | refine blk_alloc ?_ _)); exact BK352.out⟩, ⟨by repeat (first | (with_reducible first | exact HB.out | apply below_alloc | apply pw_below_drewN | apply below_drew1 | refine below_set ?_ GE336.out | refine below_set ?_ GE337.out | refine below_set ?_ GE338.out | refine below_set ?_ GE339.out | refine below_set ?_ GE352.out) | exact HB.out)⟩⟩
                            · rw [if_neg c77] at H
                              exact absurd H (by simp)
                          · rw [if_neg c76] at H
                            exact absurd H (by simp)
                  · rw [if_neg c48] at H
                    exact absurd H (by simp)
                · rw [if_neg c47] at H
                  exact absurd H (by simp)
              · rw [if_neg c46] at H
                exact absurd H (by simp)
            · rw [if_neg c45] at H
              have c45b0 : decide (0 ≤ x10_1) = false := decide_eq_false c45
              clear c45
              replace H := Option.bind_eq_some_iff.mp H
              obtain ⟨t353, A920, H⟩ := H
              replace H : (some (t353, x353000_1)) = some (r1, r2) := H
              have A92 := Aside0.mk A920
              clear A920
              simp only [Option.some.injEq, Prod.mk.injEq] at H
              obtain ⟨rfl, rfl⟩ := H
              try go_wp2
              have n0_ := Aside0.mk (Kd.R_drew HO_8.out)
              have n1_ := Aside0.mk (Kd.R_drew HO_353000.out)
              have n2_ := Aside0.mk (blk_drew BK336.out)
              have n3_ := Aside0.mk (blk_drew BK337.out)
              have n4_ := Aside0.mk (blk_drew BK338.out)
              have n5_ := Aside0.mk (blk_drew BK339.out)
              have n6_ := Aside0.mk (blk_drew BK352.out)
              have n7_ := Aside0.mk (below_drew1 HB.out)
              clear HO_8
              clear HO_353000
              clear BK336
              clear BK337
              clear BK338
              clear BK339
              clear BK352
              clear HB
              have HO_8 := n0_
              have HO_353000 := n1_
              have BK336 := n2_
              have BK337 := n3_
              have BK338 := n4_
              have BK339 := n5_
              have BK352 := n6_
              have HB := n7_
              clear n0_ n1_ n2_ n3_ n4_ n5_ n6_ n7_
              obtain ⟨Ao94, co94, eo94⟩ := Kd.R_slice HO_8.out
              (first | subst eo94 | (injection eo94 with f1_ f2_ f3_; have f4_ := f1_.symm; have f5_ := f3_.symm; clear f1_ f2_ f3_; subst f4_; subst f5_))
              refine start_ (n := 5) (S := fun w' => w'.cell? ⟨gb352, 0, none⟩ = some (u353000)) (ds := []) #[false, false, false, false, false] (by kernel_rfl) rfl rfl ((blk_cell BK352.out 0).trans rfl) (fun hHeld => ?_)
              generalize wr.drew = w93 at HO_8 HO_353000 BK336 BK337 BK338 BK339 BK352 HB hHeld ⊢
              refine pure_ (i := 0) (N := some 79) (v := ?_) (a' := ?_) #[true, false, false, false, false] rfl rfl (by kernel_rfl) (fun _ _ _ h => h) (Or.inl ⟨by rfl, ?_⟩) ?_ ?_
              rotate_left
              · intro w'
                go_simp
                with_reducible rfl
              rotate_left
              · simp only [Act.put, List.setIfInBounds_toArray, List.set_cons_zero, List.set_cons_succ, i64_w, i32_w]
                rfl
              refine take_ (i := 2) (N := some 81) (v := ?_) (a' := ?_) #[true, false, true, false, false] rfl rfl (by kernel_rfl) (fun _ _ _ h => h) (Or.inl ⟨by rfl, ?_⟩) hHeld ?_ ?_
              rotate_left
              · intro w' s0
                go_simp
                with_reducible rfl
              rotate_left
              · simp only [Act.put, List.setIfInBounds_toArray, List.set_cons_zero, List.set_cons_succ, i64_w, i32_w]
                rfl
              refine one_ (i := 1) (N := some 80) #[true, true, true, false, false] rfl rfl (by kernel_rfl) (by decide) (fun K hK => ?_)
              refine goes_ Try.func99 (by kernel_rfl) rfl #[.slice Ao94 x8_1.length co94] (by rfl) rfl rfl hkL ?_
              with_reducible refine (spec_l2norm.calls k1 _ _ x8_1 t353 _ ?side1 ?side2 A92.out).mono ?_
              (case side1 => repeat (first | exact (Kd.R_reads' HO_8.out).2.2 | (with_reducible refine Kd.C_alloc ?_ _) | (with_reducible refine Kd.C_drewN ?_ _) | (with_reducible refine Kd.C_drew ?_)))
              (case side2 => exact (Kd.R_reads' HO_8.out).2.1)
              rintro e w95 ⟨v354, rfl, ho0, hb⟩
              refine ⟨_, rfl, ?_⟩
              have n0_ := Aside0.mk (Kd.R_elder' (hkR HO_8) (Kd.R_base ho0) hb)
              have n1_ := Aside0.mk (Kd.R_elder' (hkR HO_353000) (Kd.R_base ho0) hb)
              have n2_ := Aside0.mk (Kd.R_lower (Kd.R_new' (Kd.R_new' ho0 (Kd.R_lt (hkR HO_8))) (Kd.R_lt (hkR HO_353000))) (below_size (hkS HB)))
              have n3_ := hkBb BK336 hb
              have n4_ := hkBb BK337 hb
              have n5_ := hkBb BK338 hb
              have n6_ := hkBb BK339 hb
              have n7_ := hkBb BK352 hb
              have n8_ := Aside0.mk (below_step (hkS HB) hb)
              clear HO_8
              clear HO_353000
              clear BK336
              clear BK337
              clear BK338
              clear BK339
              clear BK352
              clear HB
              have HO_8 := n0_
              have HO_353000 := n1_
              have HO355 := n2_
              have BK336 := n3_
              have BK337 := n4_
              have BK338 := n5_
              have BK339 := n6_
              have BK352 := n7_
              have HB := n8_
              clear n0_ n1_ n2_ n3_ n4_ n5_ n6_ n7_ n8_
              (try clear hb)
              (try clear hb2)
              (try clear hk)
              (try clear hi)
              (try clear ho0)
              obtain ⟨Ao96, co96, eo96⟩ := Kd.R_slice HO355.out
              (first | subst eo96 | (injection eo96 with f1_ f2_ f3_; have f4_ := f1_.symm; have f5_ := f3_.symm; clear f1_ f2_ f3_; subst f4_; subst f5_))
              obtain ⟨Ao98, co98, eo98⟩ := Kd.R_slice HO_353000.out
              (first | subst eo98 | (injection eo98 with f1_ f2_ f3_; have f4_ := f1_.symm; have f5_ := f3_.symm; clear f1_ f2_ f3_; subst f4_; subst f5_))
              refine hK.out _ _ ((blk_cell BK352.out 0).trans rfl) (fun hHeld => ?_)
              clear hK K
              refine norm_ (a' := ?_) ?_ ?_
              rotate_left
              · show Act.put _ (some 80) _ = _
                simp only [Act.put, List.setIfInBounds_toArray, List.set_cons_zero, List.set_cons_succ, i64_w, i32_w]
                rfl
              refine one_ (i := 3) (N := none) #[true, true, true, true, false] rfl rfl (by kernel_rfl) (by decide) (fun K hK => ?_)
              have hs97 : w95.cell? ⟨gb338, 0, none⟩ = some (.slice none 0 0) := (blk_cell BK338.out 0).trans rfl
              have hfs97 := blk_frozen BK338.out 0
              have hns97_0 := NB336_338.out
              have hns97_1 := NB337_338.out
              have hns97_3 := NB339_338.out
              have hns97_4 := NB352_338.out
              have hms97_0 := NB338_336.out
              have hms97_1 := NB338_337.out
              have hms97_3 := NB338_339.out
              have hms97_4 := NB338_352.out
              refine skip_ (w1 := ?_) (by rfl) rfl ?_ ?_
              rotate_left
              · go_simp
                rfl
              refine hK.out _ _ (((cell_far (p := ⟨gb338, _, none⟩) NB352_338.out _).trans (hHeld))) (fun hHeld => ?_)
              clear hK K
              refine one_ (i := 4) (N := none) #[true, true, true, true, true] rfl rfl (by kernel_rfl) (by decide) (fun K hK => ?_)
              have hs99 : w95.cell? ⟨gb339, 0, none⟩ = some (.slice none 0 0) := (blk_cell BK339.out 0).trans rfl
              have hfs99 := blk_frozen BK339.out 0
              have hns99_0 := NB336_339.out
              have hns99_1 := NB337_339.out
              have hns99_2 := NB338_339.out
              have hns99_4 := NB352_339.out
              have hms99_0 := NB339_336.out
              have hms99_1 := NB339_337.out
              have hms99_2 := NB339_338.out
              have hms99_4 := NB339_352.out
              refine skip_ (w1 := ?_) (by rfl) rfl ?_ ?_
              rotate_left
              · go_simp
                rfl
              refine hK.out _ _ (((cell_far (p := ⟨gb339, _, none⟩) NB352_339.out _).trans (hHeld))) (fun hHeld => ?_)
              clear hK K
              refine done_ (by kernel_rfl) ?_
              try go_wp2
              refine bodyPost_ret (results_cc rfl _ _ gb338 gb339 38 38 #[.slice Ao96 t353.length co96] #[.slice Ao98 x353000_1.length co98] (0, 0) (0, 0) _ _ rfl (by (with_reducible repeat (first | refine blk_drewN ?_ _ | refine blk_drew ?_ | refine blk_alloc ?_ _)); refine blk_far ?_ NB338_339.out _; (with_reducible repeat (first | refine blk_drewN ?_ _ | refine blk_drew ?_ | refine blk_alloc ?_ _)); refine blk_put (cs := #[.slice none 0 0]) ?_ 0 _ rfl; (with_reducible repeat (first | refine blk_drewN ?_ _ | refine blk_drew ?_ | refine blk_alloc ?_ _)); exact BK338.out) Try.underlying38 rfl (by kernel_rfl) rfl (by (with_reducible repeat (first | refine blk_drewN ?_ _ | refine blk_drew ?_ | refine blk_alloc ?_ _)); refine blk_put (cs := #[.slice none 0 0]) ?_ 0 _ rfl; (with_reducible repeat (first | refine blk_drewN ?_ _ | refine blk_drew ?_ | refine blk_alloc ?_ _)); refine blk_far ?_ NB339_338.out _; (with_reducible repeat (first | refine blk_drewN ?_ _ | refine blk_drew ?_ | refine blk_alloc ?_ _)); exact BK339.out) Try.underlying38 rfl (by kernel_rfl)) rfl ?_
              exact ⟨_, _, by first | rfl | (simp [errW_none, errW_some] <;> rfl) | (simp [*, errW_none, errW_some] <;> rfl), by (with_reducible repeat (first | apply Kd.R_alloc | apply Kd.R_drewN | apply Kd.R_drew)); exact Kd.R_mono (Kd.R_far (p := ⟨gb339, 0, none⟩) (Kd.R_far (p := ⟨gb338, 0, none⟩) (Kd.R_types (Kd.R_types HO355.out BK338.out (by decide)) BK339.out (by decide)) (fun _ hk => hk.1.2) (.slice Ao96 t353.length co96)) (fun _ hk => hk.2) (.slice Ao98 x353000_1.length co98)) (fun _ hk => hk.1.1.2), by (with_reducible repeat (first | apply Kd.R_alloc | apply Kd.R_drewN | apply Kd.R_drew)); exact Kd.R_mono (Kd.R_far (p := ⟨gb339, 0, none⟩) (Kd.R_far (p := ⟨gb338, 0, none⟩) (Kd.R_types (Kd.R_types HO_353000.out BK338.out (by decide)) BK339.out (by decide)) (fun _ hk => hk.1.2) (.slice Ao96 t353.length co96)) (fun _ hk => hk.2) (.slice Ao98 x353000_1.length co98)) (fun _ hk => hk.1.1.2), by repeat (first | (with_reducible first | exact HB.out | apply below_alloc | apply pw_below_drewN | apply below_drew1 | refine below_set ?_ GE336.out | refine below_set ?_ GE337.out | refine below_set ?_ GE338.out | refine below_set ?_ GE339.out | refine below_set ?_ GE352.out) | exact HB.out)⟩
      · rw [if_neg c28] at H
        exact absurd H (by simp)
    · rw [if_neg c27] at H
      exact absurd H (by simp)

end Go.Proofs.Ytgjpahofopoflaa.PFnExactNatGcd
