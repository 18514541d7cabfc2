-- Written by our own driver (wip/hand/hprint.py) over the seat's translation.
import Derived.Test.YtgjpahofopoflaaPFnExactDyCmpx0
import Derived.Test.YtgjpahofopoflaaPFnExactDyCmpx1
import Derived.Test.YtgjpahofopoflaaPFnExactDyCmpx6
import Derived.Test.YtgjpahofopoflaaPFnExactDyCmpx9
import Derived.Test.YtgjpahofopoflaaPFnExactDyCmpx10
namespace Go.Proofs.Ytgjpahofopoflaa.PFnExactDyCmp
open Go.RowKit Go.Proofs.YtgjpahofopoflaaW.PrintWords Go.Proofs.YtgjpahofopoflaaW.PrintLast Go.Proofs.YtgjpahofopoflaaW.PrintMore
attribute [local go_sem] max2_int min2_int max_two min_two max_three min_three max_four min_four   -- for this text's walks alone
set_option linter.unusedVariables false
set_option linter.unusedSimpArgs false

/-! ### laws_FnExactDyCmp: function 4 -/
def laws_FnExactDyCmp.f (k : Nat) (a0_0 : Bool) (l0_1 : List Int) (a0_2 : Int) (a1_0 : Bool) (l1_1 : List Int) (a1_2 : Int) : Option (Bool) := (laws_szDy.f a0_0 l0_1 a0_2 1048576).bind fun t330 => (if t330 < 0 then (some true) else ((laws_szDy.f a1_0 l1_1 a1_2 t330).bind fun t331 => (if t331 < 0 then (some true) else ((laws_toDy.f k a0_0 l0_1 a0_2).bind fun bt332 => ((laws_toDy.f k a1_0 l1_1 a1_2).bind fun bt337 => ((spec_DyCmp.f k bt332.1 bt332.2.1 bt332.2.2 bt337.1 bt337.2.1 bt337.2.2).bind fun t342 => ((laws_toDy.f k a0_0 l0_1 a0_2).bind fun bt343 => ((laws_toDy.f k a1_0 l1_1 a1_2).bind fun bt349 => ((impl_DyCmp.f k bt343.1 bt343.2.1 bt343.2.2 bt349.1 bt349.2.1 bt349.2.2).bind fun t355 => (if t355 = t342 then ((laws_toDy.f k a0_0 l0_1 a0_2).bind fun bt356 => ((laws_eqDy.f k bt343.1 bt343.2.1 bt343.2.2 bt356.1 bt356.2.1 bt356.2.2).bind fun t361 => (if t361 = true then ((laws_toDy.f k a1_0 l1_1 a1_2).bind fun bt362 => ((laws_eqDy.f k bt349.1 bt349.2.1 bt349.2.2 bt362.1 bt362.2.1 bt362.2.2).bind fun t367 => (if t367 = true then (some true) else (some false)))) else (some false)))) else (some false)))))))))))
theorem laws_FnExactDyCmp.mono : ∀ a0 a1 a2 a3 a4 a5 k, LeO (laws_FnExactDyCmp.f k a0 a1 a2 a3 a4 a5) (laws_FnExactDyCmp.f (k + 1) a0 a1 a2 a3 a4 a5) := by
  intro a0 a1 a2 a3 a4 a5 k
  unfold laws_FnExactDyCmp.f
  repeat' first
      | (with_reducible exact impl_DyCmp.mono _ _ _ _ _ _ _)
      | (with_reducible exact laws_eqDy.mono _ _ _ _ _ _ _)
      | (with_reducible exact laws_toDy.mono _ _ _ _)
      | (with_reducible exact spec_DyCmp.mono _ _ _ _ _ _ _)
      | (with_reducible exact LeO.refl _)
      | (with_reducible exact LeO.none _)
      | (with_reducible refine LeO.ite ?_ ?_)
      | (with_reducible refine LeO.bind ?_ (fun _ => ?_))
      | exact impl_DyCmp.mono _ _ _ _ _ _ _
      | exact laws_eqDy.mono _ _ _ _ _ _ _
      | exact laws_toDy.mono _ _ _ _
      | exact spec_DyCmp.mono _ _ _ _ _ _ _
      | exact LeO.none _
      | refine LeO.ite ?_ ?_
      | refine LeO.bind ?_ (fun _ => ?_)
set_option maxHeartbeats 8000000 in
set_option maxRecDepth 100000 in
theorem laws_FnExactDyCmp.calls (k : Nat) (a0_0 : Bool) (A0_1 : Option Addr) (c0_1 : Nat) (l0_1 : List Int) (a0_2 : Int) (a1_0 : Bool) (A1_1 : Option Addr) (c1_1 : Nat) (l1_1 : List Int) (a1_2 : Int) (r : Bool) (w : World) (hr0_1 : Kd.C (Kd.int .i64) w A0_1 l0_1.length l0_1) (hc0_1 : l0_1.length ≤ c0_1) (hr1_1 : Kd.C (Kd.int .i64) w A1_1 l1_1.length l1_1) (hc1_1 : l1_1.length ≤ c1_1) (h : laws_FnExactDyCmp.f k a0_0 l0_1 a0_2 a1_0 l1_1 a1_2 = some r) :
    Calls Try.prog 4 #[.agg #[.bool a0_0, .slice A0_1 l0_1.length c0_1, .int .i64 a0_2], .agg #[.bool a1_0, .slice A1_1 l1_1.length c1_1, .int .i64 a1_2]] w fun e w' => e = .returned (.bool r) ∧ Below w.heap.size w w' := by
  have hu35 := Try.underlying35
  have hu42 := Try.underlying42
  have HR0_1 := Aside0.mk hr0_1
  have HC0_1 := Aside0.mk hc0_1
  clear hr0_1 hc0_1
  have HR1_1 := Aside0.mk hr1_1
  have HC1_1 := Aside0.mk hc1_1
  clear hr1_1 hc1_1
  have HB := Aside0.mk (Below.refl w.heap.size w)
  have H : ((laws_szDy.f a0_0 l0_1 a0_2 1048576).bind fun t330 => (if t330 < 0 then (some true) else ((laws_szDy.f a1_0 l1_1 a1_2 t330).bind fun t331 => (if t331 < 0 then (some true) else ((laws_toDy.f k a0_0 l0_1 a0_2).bind fun bt332 => ((laws_toDy.f k a1_0 l1_1 a1_2).bind fun bt337 => ((spec_DyCmp.f k bt332.1 bt332.2.1 bt332.2.2 bt337.1 bt337.2.1 bt337.2.2).bind fun t342 => ((laws_toDy.f k a0_0 l0_1 a0_2).bind fun bt343 => ((laws_toDy.f k a1_0 l1_1 a1_2).bind fun bt349 => ((impl_DyCmp.f k bt343.1 bt343.2.1 bt343.2.2 bt349.1 bt349.2.1 bt349.2.2).bind fun t355 => (if t355 = t342 then ((laws_toDy.f k a0_0 l0_1 a0_2).bind fun bt356 => ((laws_eqDy.f k bt343.1 bt343.2.1 bt343.2.2 bt356.1 bt356.2.1 bt356.2.2).bind fun t361 => (if t361 = true then ((laws_toDy.f k a1_0 l1_1 a1_2).bind fun bt362 => ((laws_eqDy.f k bt349.1 bt349.2.1 bt349.2.2 bt362.1 bt362.2.1 bt362.2.2).bind fun t367 => (if t367 = true then (some true) else (some false)))) else (some false)))) else (some false)))))))))))) = some r := h
  clear h
  replace H := Option.bind_eq_some_iff.mp H
  obtain ⟨t330, A30, H⟩ := H
  replace H : (if t330 < 0 then (some true) else ((laws_szDy.f a1_0 l1_1 a1_2 t330).bind fun t331 => (if t331 < 0 then (some true) else ((laws_toDy.f k a0_0 l0_1 a0_2).bind fun bt332 => ((laws_toDy.f k a1_0 l1_1 a1_2).bind fun bt337 => ((spec_DyCmp.f k bt332.1 bt332.2.1 bt332.2.2 bt337.1 bt337.2.1 bt337.2.2).bind fun t342 => ((laws_toDy.f k a0_0 l0_1 a0_2).bind fun bt343 => ((laws_toDy.f k a1_0 l1_1 a1_2).bind fun bt349 => ((impl_DyCmp.f k bt343.1 bt343.2.1 bt343.2.2 bt349.1 bt349.2.1 bt349.2.2).bind fun t355 => (if t355 = t342 then ((laws_toDy.f k a0_0 l0_1 a0_2).bind fun bt356 => ((laws_eqDy.f k bt343.1 bt343.2.1 bt343.2.2 bt356.1 bt356.2.1 bt356.2.2).bind fun t361 => (if t361 = true then ((laws_toDy.f k a1_0 l1_1 a1_2).bind fun bt362 => ((laws_eqDy.f k bt349.1 bt349.2.1 bt349.2.2 bt362.1 bt362.2.1 bt362.2.2).bind fun t367 => (if t367 = true then (some true) else (some false)))) else (some false)))) else (some false))))))))))) = some r := H
  have A3 := Aside0.mk A30
  clear A30
  by_cases c4 : t330 < 0
  · rw [if_pos c4] at H
    have c4b0 : decide (t330 < 0) = true := decide_eq_true c4
    clear c4
    obtain rfl := Option.some.inj H
    go_enter Try.func4, Try.ntmps4
    go_wp2_with (first | ((with_reducible refine gate_dst (N := 2) rfl ?_); refine box_event ?hg (N := 2) ?hd (cs := #[.bool a0_0, .slice A0_1 l0_1.length c0_1, .int .i64 a0_2]) (t := 35) ?hr ?_; (case hd => rfl); (case hg => rfl); (case hr => first | (go_simp; done) | (go_simp; rfl)); intro gb328 hg w5 hbox hb; have n0_ := Aside0.mk (below_step (hkS HB) hb); have n1_ := Aside0.mk (hbox); have n2_ := hkG hg (hkS HB); have n3_ := hkG hg (hkS HB); clear HB; have HB := n0_; have BK328 := n1_; have GW328 := n2_; have GE328 := n3_; clear n0_ n1_ n2_ n3_; clear hb hbox hg) | ((with_reducible refine gate_dst (N := 3) rfl ?_); refine box_event ?hg (N := 3) ?hd (cs := #[.bool a1_0, .slice A1_1 l1_1.length c1_1, .int .i64 a1_2]) (t := 35) ?hr ?_; (case hd => rfl); (case hg => rfl); (case hr => first | (go_simp; done) | (go_simp; rfl)); intro gb329 hg w6 hbox hb; have n0_ := hkBb BK328 hb; have n1_ := Aside0.mk (below_step (hkS HB) hb); have n2_ := Aside0.mk (hbox); have n3_ := hkG hg (hkS HB); have n4_ := hkG hg (hkS HB); have n5_ := hkN hg BK328; have n6_ := hkM hg BK328; clear BK328; clear HB; have BK328 := n0_; have HB := n1_; have BK329 := n2_; have GW329 := n3_; have GE329 := n4_; have NB328_329 := n5_; have NB329_328 := n6_; clear n0_ n1_ n2_ n3_ n4_ n5_ n6_; clear hb hbox hg; have hnb7 := NB328_329.out; have hnc7 := NB329_328.out; have hcz8_0 : w6.cell? ⟨gb328, 0, none⟩ = some (.bool a0_0) := (blk_cell BK328.out 0).trans rfl; have hcz8_1 : w6.cell? ⟨gb328, 1, none⟩ = some (.slice A0_1 l0_1.length c0_1) := (blk_cell BK328.out 1).trans rfl; have hcz8_2 : w6.cell? ⟨gb328, 2, none⟩ = some (.int .i64 a0_2) := (blk_cell BK328.out 2).trans rfl; have hfz8_0 := blk_frozen BK328.out 0; have hfz8_1 := blk_frozen BK328.out 1; have hfz8_2 := blk_frozen BK328.out 2) | ((with_reducible refine gate_callee (f := 13) rfl ?_); refine goesL_ (some 12) rfl rfl Try.func13 (by kernel_rfl) rfl #[.agg #[.bool a0_0, .slice A0_1 l0_1.length c0_1, .int .i64 a0_2], .int .i64 1048576] rfl hkL ?_; (with_reducible refine (laws_szDy.calls a0_0 _ _ l0_1 a0_2 1048576 t330 _ ?side1 ?side2 A3.out).mono ?_); (case side1 => repeat (first | exact (Kd.C_below HR0_1.out HB.out) | (with_reducible refine Kd.C_alloc ?_ _) | (with_reducible refine Kd.C_drewN ?_ _) | (with_reducible refine Kd.C_drew ?_))); (case side2 => exact HC0_1.out); rintro e w9 ⟨rfl, hb⟩; refine ⟨_, rfl, ?_⟩; have n0_ := hkBb BK328 hb; have n1_ := hkBb BK329 hb; have n2_ := Aside0.mk (below_step (hkS HB) hb); clear BK328; clear BK329; clear HB; have BK328 := n0_; have BK329 := n1_; have HB := n2_; clear n0_ n1_ n2_; (try clear hb); (try clear hb2); (try clear hk); (try clear hi)))
    go_ret
    exact ⟨by first | rfl | (simp [errW_none, errW_some] <;> rfl) | (simp [*, errW_none, errW_some] <;> rfl), by repeat (first | (with_reducible first | exact HB.out | apply below_alloc | apply pw_below_drewN | apply below_drew1 | refine below_set ?_ GE328.out | refine below_set ?_ GE329.out) | exact HB.out)⟩
  · rw [if_neg c4] at H
    have c4b0 : decide (t330 < 0) = false := decide_eq_false c4
    clear c4
    replace H := Option.bind_eq_some_iff.mp H
    obtain ⟨t331, A100, H⟩ := H
    replace H : (if t331 < 0 then (some true) else ((laws_toDy.f k a0_0 l0_1 a0_2).bind fun bt332 => ((laws_toDy.f k a1_0 l1_1 a1_2).bind fun bt337 => ((spec_DyCmp.f k bt332.1 bt332.2.1 bt332.2.2 bt337.1 bt337.2.1 bt337.2.2).bind fun t342 => ((laws_toDy.f k a0_0 l0_1 a0_2).bind fun bt343 => ((laws_toDy.f k a1_0 l1_1 a1_2).bind fun bt349 => ((impl_DyCmp.f k bt343.1 bt343.2.1 bt343.2.2 bt349.1 bt349.2.1 bt349.2.2).bind fun t355 => (if t355 = t342 then ((laws_toDy.f k a0_0 l0_1 a0_2).bind fun bt356 => ((laws_eqDy.f k bt343.1 bt343.2.1 bt343.2.2 bt356.1 bt356.2.1 bt356.2.2).bind fun t361 => (if t361 = true then ((laws_toDy.f k a1_0 l1_1 a1_2).bind fun bt362 => ((laws_eqDy.f k bt349.1 bt349.2.1 bt349.2.2 bt362.1 bt362.2.1 bt362.2.2).bind fun t367 => (if t367 = true then (some true) else (some false)))) else (some false)))) else (some false))))))))) = some r := H
    have A10 := Aside0.mk A100
    clear A100
    by_cases c11 : t331 < 0
    · rw [if_pos c11] at H
      have c11b0 : decide (t331 < 0) = true := decide_eq_true c11
      clear c11
      obtain rfl := Option.some.inj H
      go_enter Try.func4, Try.ntmps4
      go_wp2_with (first | ((with_reducible refine gate_dst (N := 2) rfl ?_); refine box_event ?hg (N := 2) ?hd (cs := #[.bool a0_0, .slice A0_1 l0_1.length c0_1, .int .i64 a0_2]) (t := 35) ?hr ?_; (case hd => rfl); (case hg => rfl); (case hr => first | (go_simp; done) | (go_simp; rfl)); intro gb328 hg w12 hbox hb; have n0_ := Aside0.mk (below_step (hkS HB) hb); have n1_ := Aside0.mk (hbox); have n2_ := hkG hg (hkS HB); have n3_ := hkG hg (hkS HB); clear HB; have HB := n0_; have BK328 := n1_; have GW328 := n2_; have GE328 := n3_; clear n0_ n1_ n2_ n3_; clear hb hbox hg) | ((with_reducible refine gate_dst (N := 3) rfl ?_); refine box_event ?hg (N := 3) ?hd (cs := #[.bool a1_0, .slice A1_1 l1_1.length c1_1, .int .i64 a1_2]) (t := 35) ?hr ?_; (case hd => rfl); (case hg => rfl); (case hr => first | (go_simp; done) | (go_simp; rfl)); intro gb329 hg w13 hbox hb; have n0_ := hkBb BK328 hb; have n1_ := Aside0.mk (below_step (hkS HB) hb); have n2_ := Aside0.mk (hbox); have n3_ := hkG hg (hkS HB); have n4_ := hkG hg (hkS HB); have n5_ := hkN hg BK328; have n6_ := hkM hg BK328; clear BK328; clear HB; have BK328 := n0_; have HB := n1_; have BK329 := n2_; have GW329 := n3_; have GE329 := n4_; have NB328_329 := n5_; have NB329_328 := n6_; clear n0_ n1_ n2_ n3_ n4_ n5_ n6_; clear hb hbox hg; have hnb14 := NB328_329.out; have hnc14 := NB329_328.out; have hcz15_0 : w13.cell? ⟨gb328, 0, none⟩ = some (.bool a0_0) := (blk_cell BK328.out 0).trans rfl; have hcz15_1 : w13.cell? ⟨gb328, 1, none⟩ = some (.slice A0_1 l0_1.length c0_1) := (blk_cell BK328.out 1).trans rfl; have hcz15_2 : w13.cell? ⟨gb328, 2, none⟩ = some (.int .i64 a0_2) := (blk_cell BK328.out 2).trans rfl; have hfz15_0 := blk_frozen BK328.out 0; have hfz15_1 := blk_frozen BK328.out 1; have hfz15_2 := blk_frozen BK328.out 2) | ((with_reducible refine gate_callee (f := 13) rfl ?_); refine goesL_ (some 12) rfl rfl Try.func13 (by kernel_rfl) rfl #[.agg #[.bool a0_0, .slice A0_1 l0_1.length c0_1, .int .i64 a0_2], .int .i64 1048576] rfl hkL ?_; (with_reducible refine (laws_szDy.calls a0_0 _ _ l0_1 a0_2 1048576 t330 _ ?side1 ?side2 A3.out).mono ?_); (case side1 => repeat (first | exact (Kd.C_below HR0_1.out HB.out) | (with_reducible refine Kd.C_alloc ?_ _) | (with_reducible refine Kd.C_drewN ?_ _) | (with_reducible refine Kd.C_drew ?_))); (case side2 => exact HC0_1.out); rintro e w16 ⟨rfl, hb⟩; refine ⟨_, rfl, ?_⟩; have n0_ := hkBb BK328 hb; have n1_ := hkBb BK329 hb; have n2_ := Aside0.mk (below_step (hkS HB) hb); clear BK328; clear BK329; clear HB; have BK328 := n0_; have BK329 := n1_; have HB := n2_; clear n0_ n1_ n2_; (try clear hb); (try clear hb2); (try clear hk); (try clear hi); have hcz17_0 : w16.cell? ⟨gb329, 0, none⟩ = some (.bool a1_0) := (blk_cell BK329.out 0).trans rfl; have hcz17_1 : w16.cell? ⟨gb329, 1, none⟩ = some (.slice A1_1 l1_1.length c1_1) := (blk_cell BK329.out 1).trans rfl; have hcz17_2 : w16.cell? ⟨gb329, 2, none⟩ = some (.int .i64 a1_2) := (blk_cell BK329.out 2).trans rfl; have hfz17_0 := blk_frozen BK329.out 0; have hfz17_1 := blk_frozen BK329.out 1; have hfz17_2 := blk_frozen BK329.out 2) | ((with_reducible refine gate_callee (f := 13) rfl ?_); refine goesL_ (some 17) rfl rfl Try.func13 (by kernel_rfl) rfl #[.agg #[.bool a1_0, .slice A1_1 l1_1.length c1_1, .int .i64 a1_2], .int .i64 t330] rfl hkL ?_; (with_reducible refine (laws_szDy.calls a1_0 _ _ l1_1 a1_2 t330 t331 _ ?side1 ?side2 A10.out).mono ?_); (case side1 => repeat (first | exact (Kd.C_below HR1_1.out HB.out) | (with_reducible refine Kd.C_alloc ?_ _) | (with_reducible refine Kd.C_drewN ?_ _) | (with_reducible refine Kd.C_drew ?_))); (case side2 => exact HC1_1.out); rintro e w18 ⟨rfl, hb⟩; refine ⟨_, rfl, ?_⟩; have n0_ := hkBb BK328 hb; have n1_ := hkBb BK329 hb; have n2_ := Aside0.mk (below_step (hkS HB) hb); clear BK328; clear BK329; clear HB; have BK328 := n0_; have BK329 := n1_; have HB := n2_; clear n0_ n1_ n2_; (try clear hb); (try clear hb2); (try clear hk); (try clear hi)))
      go_ret
      exact ⟨by first | rfl | (simp [errW_none, errW_some] <;> rfl) | (simp [*, errW_none, errW_some] <;> rfl), by repeat (first | (with_reducible first | exact HB.out | apply below_alloc | apply pw_below_drewN | apply below_drew1 | refine below_set ?_ GE328.out | refine below_set ?_ GE329.out) | exact HB.out)⟩
    · rw [if_neg c11] at H
      have c11b0 : decide (t331 < 0) = false := decide_eq_false c11
      clear c11
      replace H := Option.bind_eq_some_iff.mp H
      obtain ⟨⟨t332, t333, t336⟩, A190, H⟩ := H
      replace H : ((laws_toDy.f k a1_0 l1_1 a1_2).bind fun bt337 => ((spec_DyCmp.f k t332 t333 t336 bt337.1 bt337.2.1 bt337.2.2).bind fun t342 => ((laws_toDy.f k a0_0 l0_1 a0_2).bind fun bt343 => ((laws_toDy.f k a1_0 l1_1 a1_2).bind fun bt349 => ((impl_DyCmp.f k bt343.1 bt343.2.1 bt343.2.2 bt349.1 bt349.2.1 bt349.2.2).bind fun t355 => (if t355 = t342 then ((laws_toDy.f k a0_0 l0_1 a0_2).bind fun bt356 => ((laws_eqDy.f k bt343.1 bt343.2.1 bt343.2.2 bt356.1 bt356.2.1 bt356.2.2).bind fun t361 => (if t361 = true then ((laws_toDy.f k a1_0 l1_1 a1_2).bind fun bt362 => ((laws_eqDy.f k bt349.1 bt349.2.1 bt349.2.2 bt362.1 bt362.2.1 bt362.2.2).bind fun t367 => (if t367 = true then (some true) else (some false)))) else (some false)))) else (some false))))))) = some r := H
      have A19 := Aside0.mk A190
      clear A190
      replace H := Option.bind_eq_some_iff.mp H
      obtain ⟨⟨t337, t338, t341⟩, A200, H⟩ := H
      replace H : ((spec_DyCmp.f k t332 t333 t336 t337 t338 t341).bind fun t342 => ((laws_toDy.f k a0_0 l0_1 a0_2).bind fun bt343 => ((laws_toDy.f k a1_0 l1_1 a1_2).bind fun bt349 => ((impl_DyCmp.f k bt343.1 bt343.2.1 bt343.2.2 bt349.1 bt349.2.1 bt349.2.2).bind fun t355 => (if t355 = t342 then ((laws_toDy.f k a0_0 l0_1 a0_2).bind fun bt356 => ((laws_eqDy.f k bt343.1 bt343.2.1 bt343.2.2 bt356.1 bt356.2.1 bt356.2.2).bind fun t361 => (if t361 = true then ((laws_toDy.f k a1_0 l1_1 a1_2).bind fun bt362 => ((laws_eqDy.f k bt349.1 bt349.2.1 bt349.2.2 bt362.1 bt362.2.1 bt362.2.2).bind fun t367 => (if t367 = true then (some true) else (some false)))) else (some false)))) else (some false)))))) = some r := H
      have A20 := Aside0.mk A200
      clear A200
      replace H := Option.bind_eq_some_iff.mp H
      obtain ⟨t342, A210, H⟩ := H
      replace H : ((laws_toDy.f k a0_0 l0_1 a0_2).bind fun bt343 => ((laws_toDy.f k a1_0 l1_1 a1_2).bind fun bt349 => ((impl_DyCmp.f k bt343.1 bt343.2.1 bt343.2.2 bt349.1 bt349.2.1 bt349.2.2).bind fun t355 => (if t355 = t342 then ((laws_toDy.f k a0_0 l0_1 a0_2).bind fun bt356 => ((laws_eqDy.f k bt343.1 bt343.2.1 bt343.2.2 bt356.1 bt356.2.1 bt356.2.2).bind fun t361 => (if t361 = true then ((laws_toDy.f k a1_0 l1_1 a1_2).bind fun bt362 => ((laws_eqDy.f k bt349.1 bt349.2.1 bt349.2.2 bt362.1 bt362.2.1 bt362.2.2).bind fun t367 => (if t367 = true then (some true) else (some false)))) else (some false)))) else (some false))))) = some r := H
      have A21 := Aside0.mk A210
      clear A210
      replace H := Option.bind_eq_some_iff.mp H
      obtain ⟨⟨t343, t344, t347⟩, A220, H⟩ := H
      replace H : ((laws_toDy.f k a1_0 l1_1 a1_2).bind fun bt349 => ((impl_DyCmp.f k t343 t344 t347 bt349.1 bt349.2.1 bt349.2.2).bind fun t355 => (if t355 = t342 then ((laws_toDy.f k a0_0 l0_1 a0_2).bind fun bt356 => ((laws_eqDy.f k t343 t344 t347 bt356.1 bt356.2.1 bt356.2.2).bind fun t361 => (if t361 = true then ((laws_toDy.f k a1_0 l1_1 a1_2).bind fun bt362 => ((laws_eqDy.f k bt349.1 bt349.2.1 bt349.2.2 bt362.1 bt362.2.1 bt362.2.2).bind fun t367 => (if t367 = true then (some true) else (some false)))) else (some false)))) else (some false)))) = some r := H
      have A22 := Aside0.mk A220
      clear A220
      replace H := Option.bind_eq_some_iff.mp H
      obtain ⟨⟨t349, t350, t353⟩, A230, H⟩ := H
      replace H : ((impl_DyCmp.f k t343 t344 t347 t349 t350 t353).bind fun t355 => (if t355 = t342 then ((laws_toDy.f k a0_0 l0_1 a0_2).bind fun bt356 => ((laws_eqDy.f k t343 t344 t347 bt356.1 bt356.2.1 bt356.2.2).bind fun t361 => (if t361 = true then ((laws_toDy.f k a1_0 l1_1 a1_2).bind fun bt362 => ((laws_eqDy.f k t349 t350 t353 bt362.1 bt362.2.1 bt362.2.2).bind fun t367 => (if t367 = true then (some true) else (some false)))) else (some false)))) else (some false))) = some r := H
      have A23 := Aside0.mk A230
      clear A230
      replace H := Option.bind_eq_some_iff.mp H
      obtain ⟨t355, A240, H⟩ := H
      replace H : (if t355 = t342 then ((laws_toDy.f k a0_0 l0_1 a0_2).bind fun bt356 => ((laws_eqDy.f k t343 t344 t347 bt356.1 bt356.2.1 bt356.2.2).bind fun t361 => (if t361 = true then ((laws_toDy.f k a1_0 l1_1 a1_2).bind fun bt362 => ((laws_eqDy.f k t349 t350 t353 bt362.1 bt362.2.1 bt362.2.2).bind fun t367 => (if t367 = true then (some true) else (some false)))) else (some false)))) else (some false)) = some r := H
      have A24 := Aside0.mk A240
      clear A240
      by_cases c25 : t355 = t342
      · rw [if_pos c25] at H
        have c25b0 : (t355 == t342) = true := beq_iff_eq.mpr c25
        have c25b1 : (t355 != t342) = false := bne_eq_false_iff_eq.mpr c25
        clear c25
        replace H := Option.bind_eq_some_iff.mp H
        obtain ⟨⟨t356, t357, t360⟩, A260, H⟩ := H
        replace H : ((laws_eqDy.f k t343 t344 t347 t356 t357 t360).bind fun t361 => (if t361 = true then ((laws_toDy.f k a1_0 l1_1 a1_2).bind fun bt362 => ((laws_eqDy.f k t349 t350 t353 bt362.1 bt362.2.1 bt362.2.2).bind fun t367 => (if t367 = true then (some true) else (some false)))) else (some false))) = some r := H
        have A26 := Aside0.mk A260
        clear A260
        replace H := Option.bind_eq_some_iff.mp H
        obtain ⟨t361, A270, H⟩ := H
        replace H : (if t361 = true then ((laws_toDy.f k a1_0 l1_1 a1_2).bind fun bt362 => ((laws_eqDy.f k t349 t350 t353 bt362.1 bt362.2.1 bt362.2.2).bind fun t367 => (if t367 = true then (some true) else (some false)))) else (some false)) = some r := H
        have A27 := Aside0.mk A270
        clear A270
        by_cases c28 : t361 = true
        · subst c28
          have H1 : ((laws_toDy.f k a1_0 l1_1 a1_2).bind fun bt362 => ((laws_eqDy.f k t349 t350 t353 bt362.1 bt362.2.1 bt362.2.2).bind fun t367 => (if t367 = true then (some true) else (some false)))) = some r := by rw [if_pos rfl] at H; exact H
          clear H
          have H := H1
          clear H1
          replace H := Option.bind_eq_some_iff.mp H
          obtain ⟨⟨t362, t363, t366⟩, A290, H⟩ := H
          replace H : ((laws_eqDy.f k t349 t350 t353 t362 t363 t366).bind fun t367 => (if t367 = true then (some true) else (some false))) = some r := H
          have A29 := Aside0.mk A290
          clear A290
          replace H := Option.bind_eq_some_iff.mp H
          obtain ⟨t367, A300, H⟩ := H
          replace H : (if t367 = true then (some true) else (some false)) = some r := H
          have A30 := Aside0.mk A300
          clear A300
          by_cases c31 : t367 = true
          · subst c31
            have H1 : (some true) = some r := by rw [if_pos rfl] at H; exact H
            clear H
            have H := H1
            clear H1
            obtain rfl := Option.some.inj H
            go_enter Try.func4, Try.ntmps4
            try go_wp2_with (first | ((with_reducible refine gate_dst (N := 2) rfl ?_); refine box_event ?hg (N := 2) ?hd (cs := #[.bool a0_0, .slice A0_1 l0_1.length c0_1, .int .i64 a0_2]) (t := 35) ?hr ?_; (case hd => rfl); (case hg => rfl); (case hr => first | (go_simp; done) | (go_simp; rfl)); intro gb328 hg w32 hbox hb; have n0_ := Aside0.mk (below_step (hkS HB) hb); have n1_ := Aside0.mk (hbox); have n2_ := hkG hg (hkS HB); have n3_ := hkG hg (hkS HB); clear HB; have HB := n0_; have BK328 := n1_; have GW328 := n2_; have GE328 := n3_; clear n0_ n1_ n2_ n3_; clear hb hbox hg) | ((with_reducible refine gate_dst (N := 3) rfl ?_); refine box_event ?hg (N := 3) ?hd (cs := #[.bool a1_0, .slice A1_1 l1_1.length c1_1, .int .i64 a1_2]) (t := 35) ?hr ?_; (case hd => rfl); (case hg => rfl); (case hr => first | (go_simp; done) | (go_simp; rfl)); intro gb329 hg w33 hbox hb; have n0_ := hkBb BK328 hb; have n1_ := Aside0.mk (below_step (hkS HB) hb); have n2_ := Aside0.mk (hbox); have n3_ := hkG hg (hkS HB); have n4_ := hkG hg (hkS HB); have n5_ := hkN hg BK328; have n6_ := hkM hg BK328; clear BK328; clear HB; have BK328 := n0_; have HB := n1_; have BK329 := n2_; have GW329 := n3_; have GE329 := n4_; have NB328_329 := n5_; have NB329_328 := n6_; clear n0_ n1_ n2_ n3_ n4_ n5_ n6_; clear hb hbox hg; have hnb34 := NB328_329.out; have hnc34 := NB329_328.out; have hcz35_0 : w33.cell? ⟨gb328, 0, none⟩ = some (.bool a0_0) := (blk_cell BK328.out 0).trans rfl; have hcz35_1 : w33.cell? ⟨gb328, 1, none⟩ = some (.slice A0_1 l0_1.length c0_1) := (blk_cell BK328.out 1).trans rfl; have hcz35_2 : w33.cell? ⟨gb328, 2, none⟩ = some (.int .i64 a0_2) := (blk_cell BK328.out 2).trans rfl; have hfz35_0 := blk_frozen BK328.out 0; have hfz35_1 := blk_frozen BK328.out 1; have hfz35_2 := blk_frozen BK328.out 2) | ((with_reducible refine gate_callee (f := 13) rfl ?_); refine goesL_ (some 12) rfl rfl Try.func13 (by kernel_rfl) rfl #[.agg #[.bool a0_0, .slice A0_1 l0_1.length c0_1, .int .i64 a0_2], .int .i64 1048576] rfl hkL ?_; (with_reducible refine (laws_szDy.calls a0_0 _ _ l0_1 a0_2 1048576 t330 _ ?side1 ?side2 A3.out).mono ?_); (case side1 => repeat (first | exact (Kd.C_below HR0_1.out HB.out) | (with_reducible refine Kd.C_alloc ?_ _) | (with_reducible refine Kd.C_drewN ?_ _) | (with_reducible refine Kd.C_drew ?_))); (case side2 => exact HC0_1.out); rintro e w36 ⟨rfl, hb⟩; refine ⟨_, rfl, ?_⟩; have n0_ := hkBb BK328 hb; have n1_ := hkBb BK329 hb; have n2_ := Aside0.mk (below_step (hkS HB) hb); clear BK328; clear BK329; clear HB; have BK328 := n0_; have BK329 := n1_; have HB := n2_; clear n0_ n1_ n2_; (try clear hb); (try clear hb2); (try clear hk); (try clear hi); have hcz37_0 : w36.cell? ⟨gb329, 0, none⟩ = some (.bool a1_0) := (blk_cell BK329.out 0).trans rfl; have hcz37_1 : w36.cell? ⟨gb329, 1, none⟩ = some (.slice A1_1 l1_1.length c1_1) := (blk_cell BK329.out 1).trans rfl; have hcz37_2 : w36.cell? ⟨gb329, 2, none⟩ = some (.int .i64 a1_2) := (blk_cell BK329.out 2).trans rfl; have hfz37_0 := blk_frozen BK329.out 0; have hfz37_1 := blk_frozen BK329.out 1; have hfz37_2 := blk_frozen BK329.out 2) | ((with_reducible refine gate_callee (f := 13) rfl ?_); refine goesL_ (some 17) rfl rfl Try.func13 (by kernel_rfl) rfl #[.agg #[.bool a1_0, .slice A1_1 l1_1.length c1_1, .int .i64 a1_2], .int .i64 t330] rfl hkL ?_; (with_reducible refine (laws_szDy.calls a1_0 _ _ l1_1 a1_2 t330 t331 _ ?side1 ?side2 A10.out).mono ?_); (case side1 => repeat (first | exact (Kd.C_below HR1_1.out HB.out) | (with_reducible refine Kd.C_alloc ?_ _) | (with_reducible refine Kd.C_drewN ?_ _) | (with_reducible refine Kd.C_drew ?_))); (case side2 => exact HC1_1.out); rintro e w38 ⟨rfl, hb⟩; refine ⟨_, rfl, ?_⟩; have n0_ := hkBb BK328 hb; have n1_ := hkBb BK329 hb; have n2_ := Aside0.mk (below_step (hkS HB) hb); clear BK328; clear BK329; clear HB; have BK328 := n0_; have BK329 := n1_; have HB := n2_; clear n0_ n1_ n2_; (try clear hb); (try clear hb2); (try clear hk); (try clear hi)))
            have n0_ := Aside0.mk (blk_drew BK328.out)
            have n1_ := Aside0.mk (blk_drew BK329.out)
            have n2_ := Aside0.mk (below_drew1 HB.out)
            clear BK328
            clear BK329
            clear HB
            have BK328 := n0_
            have BK329 := n1_
            have HB := n2_
            clear n0_ n1_ n2_
            refine start_ (n := 6) (S := fun w' => w'.cell? ⟨gb328, 0, none⟩ = some (.bool a0_0) ∧ w'.cell? ⟨gb328, 1, none⟩ = some (.slice A0_1 l0_1.length c0_1) ∧ w'.cell? ⟨gb328, 2, none⟩ = some (.int .i64 a0_2) ∧ w'.cell? ⟨gb329, 0, none⟩ = some (.bool a1_0) ∧ w'.cell? ⟨gb329, 1, none⟩ = some (.slice A1_1 l1_1.length c1_1) ∧ w'.cell? ⟨gb329, 2, none⟩ = some (.int .i64 a1_2)) (ds := []) #[false, false, false, false, false, false] (by kernel_rfl) rfl rfl ⟨(blk_cell BK328.out 0).trans rfl, (blk_cell BK328.out 1).trans rfl, (blk_cell BK328.out 2).trans rfl, (blk_cell BK329.out 0).trans rfl, (blk_cell BK329.out 1).trans rfl, (blk_cell BK329.out 2).trans rfl⟩ (fun hHeld => ?_)
            generalize w38.drew = w39 at BK328 BK329 HB hHeld ⊢
            refine take_ (i := 0) (N := some 20) (v := ?_) (a' := ?_) #[true, false, false, false, false, false] rfl rfl (by kernel_rfl) (fun _ _ _ h => h) (Or.inl ⟨by rfl, ?_⟩) hHeld ?_ ?_
            rotate_left
            · rintro w' ⟨s0, s1, s2, s3, s4, s5⟩
              go_simp
              with_reducible rfl
            rotate_left
            · simp only [Act.put, List.setIfInBounds_toArray, List.set_cons_zero, List.set_cons_succ, i64_w, i32_w]
              rfl
            refine take_ (i := 2) (N := some 22) (v := ?_) (a' := ?_) #[true, false, true, false, false, false] rfl rfl (by kernel_rfl) (fun _ _ _ h => h) (Or.inl ⟨by rfl, ?_⟩) hHeld ?_ ?_
            rotate_left
            · rintro w' ⟨s0, s1, s2, s3, s4, s5⟩
              go_simp
              with_reducible rfl
            rotate_left
            · simp only [Act.put, List.setIfInBounds_toArray, List.set_cons_zero, List.set_cons_succ, i64_w, i32_w]
              rfl
            refine one_ (i := 1) (N := some 21) #[true, true, true, false, false, false] rfl rfl (by kernel_rfl) (by decide) (fun K hK => ?_)
            refine goes_ Try.func15 (by kernel_rfl) rfl #[.agg #[.bool a0_0, .slice A0_1 l0_1.length c0_1, .int .i64 a0_2]] (by rfl) rfl rfl hkL ?_
            with_reducible refine (laws_toDy.calls k a0_0 _ _ l0_1 a0_2 t332 t333 t336 _ ?side1 ?side2 A19.out).mono ?_
            (case side1 => repeat (first | exact (Kd.C_below HR0_1.out HB.out) | (with_reducible refine Kd.C_alloc ?_ _) | (with_reducible refine Kd.C_drewN ?_ _) | (with_reducible refine Kd.C_drew ?_)))
            (case side2 => exact HC0_1.out)
            rintro e w40 ⟨v334, rfl, ho0, hb⟩
            refine ⟨_, rfl, ?_⟩
            have n0_ := Aside0.mk (Kd.R_lower ho0 (below_size (hkS HB)))
            have n1_ := hkBb BK328 hb
            have n2_ := hkBb BK329 hb
            have n3_ := Aside0.mk (below_step (hkS HB) hb)
            clear BK328
            clear BK329
            clear HB
            have HO335 := n0_
            have BK328 := n1_
            have BK329 := n2_
            have HB := n3_
            clear n0_ n1_ n2_ n3_
            (try clear hb)
            (try clear hb2)
            (try clear hk)
            (try clear hi)
            (try clear ho0)
            refine hK.out _ _ ⟨(blk_cell BK328.out 0).trans rfl, (blk_cell BK328.out 1).trans rfl, (blk_cell BK328.out 2).trans rfl, (blk_cell BK329.out 0).trans rfl, (blk_cell BK329.out 1).trans rfl, (blk_cell BK329.out 2).trans rfl⟩ (fun hHeld => ?_)
            clear hK K
            refine norm_ (a' := ?_) ?_ ?_
            rotate_left
            · show Act.put _ (some 21) _ = _
              simp only [Act.put, List.setIfInBounds_toArray, List.set_cons_zero, List.set_cons_succ, i64_w, i32_w]
              rfl
            refine one_ (i := 3) (N := some 23) #[true, true, true, true, false, false] rfl rfl (by kernel_rfl) (by decide) (fun K hK => ?_)
            refine goes_ Try.func15 (by kernel_rfl) rfl #[.agg #[.bool a1_0, .slice A1_1 l1_1.length c1_1, .int .i64 a1_2]] (by rfl) rfl rfl hkL ?_
            with_reducible refine (laws_toDy.calls k a1_0 _ _ l1_1 a1_2 t337 t338 t341 _ ?side1 ?side2 A20.out).mono ?_
            (case side1 => repeat (first | exact (Kd.C_below HR1_1.out HB.out) | (with_reducible refine Kd.C_alloc ?_ _) | (with_reducible refine Kd.C_drewN ?_ _) | (with_reducible refine Kd.C_drew ?_)))
            (case side2 => exact HC1_1.out)
            rintro e w41 ⟨v339, rfl, ho0, hb⟩
            refine ⟨_, rfl, ?_⟩
            have n0_ := Aside0.mk (Kd.R_elder' (hkR HO335) (Kd.R_base ho0) hb)
            have n1_ := Aside0.mk (Kd.R_lower (Kd.R_new' ho0 (Kd.R_lt (hkR HO335))) (below_size (hkS HB)))
            have n2_ := hkBb BK328 hb
            have n3_ := hkBb BK329 hb
            have n4_ := Aside0.mk (below_step (hkS HB) hb)
            clear HO335
            clear BK328
            clear BK329
            clear HB
            have HO335 := n0_
            have HO340 := n1_
            have BK328 := n2_
            have BK329 := n3_
            have HB := n4_
            clear n0_ n1_ n2_ n3_ n4_
            (try clear hb)
            (try clear hb2)
            (try clear hk)
            (try clear hi)
            (try clear ho0)
            obtain ⟨Ao42, co42, eo42⟩ := Kd.R_slice HO335.out
            (first | subst eo42 | (injection eo42 with f1_ f2_ f3_; have f4_ := f1_.symm; have f5_ := f3_.symm; clear f1_ f2_ f3_; subst f4_; subst f5_))
            obtain ⟨Ao43, co43, eo43⟩ := Kd.R_slice HO340.out
            (first | subst eo43 | (injection eo43 with f1_ f2_ f3_; have f4_ := f1_.symm; have f5_ := f3_.symm; clear f1_ f2_ f3_; subst f4_; subst f5_))
            refine hK.out _ _ ⟨(blk_cell BK328.out 0).trans rfl, (blk_cell BK328.out 1).trans rfl, (blk_cell BK328.out 2).trans rfl, (blk_cell BK329.out 0).trans rfl, (blk_cell BK329.out 1).trans rfl, (blk_cell BK329.out 2).trans rfl⟩ (fun hHeld => ?_)
            clear hK K
            refine norm_ (a' := ?_) ?_ ?_
            rotate_left
            · show Act.put _ (some 23) _ = _
              simp only [Act.put, List.setIfInBounds_toArray, List.set_cons_zero, List.set_cons_succ, i64_w, i32_w]
              rfl
            refine one_ (i := 4) (N := some 24) #[true, true, true, true, true, false] rfl rfl (by kernel_rfl) (by decide) (fun K hK => ?_)
            refine goes_ Try.func14 (by kernel_rfl) rfl #[.agg #[.bool t332, .slice Ao42 t333.length co42, .int .i64 t336], .agg #[.bool t337, .slice Ao43 t338.length co43, .int .i64 t341]] (by rfl) rfl rfl hkL ?_
            with_reducible refine (spec_DyCmp.calls k t332 (fun k_ => some k_ = (.slice Ao42 t333.length co42 : Value).ownBlock) (.slice Ao42 t333.length co42) t333 t336 t337 (fun k_ => some k_ = (.slice Ao43 t338.length co43 : Value).ownBlock) (.slice Ao43 t338.length co43) t338 t341 t342 w _ ?side1 ?side2 ?side3 ?side4 ?side5 A21.out).mono ?_
            (case side1 => repeat (first | (with_reducible first | exact HB.out | apply below_alloc | apply pw_below_drewN | apply below_drew1 | refine below_set ?_ GE328.out | refine below_set ?_ GE329.out) | exact HB.out))
            (case side2 => exact Kd.R_tight rfl HO335.out)
            (case side3 => exact fun k_ e_ => (HO335.out.1 k_ e_.symm).2)
            (case side4 => exact Kd.R_tight rfl HO340.out)
            (case side5 => exact fun k_ e_ => (HO340.out.1 k_ e_.symm).2)
            rintro e w44 ⟨rfl, hb, hkp⟩
            refine ⟨_, rfl, ?_⟩
            have n0_ := Aside0.mk (blk_kept (hkB BK328) hkp (fun hs_ => Or.elim hs_ (fun e_ => (fun e_ => (Kd.R_ne HO335.out BK328.out (by decide)) e_) e_) (fun e_ => (fun e_ => (Kd.R_ne HO340.out BK328.out (by decide)) e_) e_)))
            have n1_ := Aside0.mk (blk_kept (hkB BK329) hkp (fun hs_ => Or.elim hs_ (fun e_ => (fun e_ => (Kd.R_ne HO335.out BK329.out (by decide)) e_) e_) (fun e_ => (fun e_ => (Kd.R_ne HO340.out BK329.out (by decide)) e_) e_)))
            have n2_ := Aside0.mk (hb)
            clear BK328
            clear BK329
            clear HB
            clear HO335
            clear HO340
            have BK328 := n0_
            have BK329 := n1_
            have HB := n2_
            clear n0_ n1_ n2_
            (try clear hb)
            (try clear hkp)
            refine hK.out _ _ ⟨(blk_cell BK328.out 0).trans rfl, (blk_cell BK328.out 1).trans rfl, (blk_cell BK328.out 2).trans rfl, (blk_cell BK329.out 0).trans rfl, (blk_cell BK329.out 1).trans rfl, (blk_cell BK329.out 2).trans rfl⟩ (fun hHeld => ?_)
            clear hK K
            refine norm_ (a' := ?_) ?_ ?_
            rotate_left
            · show Act.put _ (some 24) _ = _
              simp only [Act.put, List.setIfInBounds_toArray, List.set_cons_zero, List.set_cons_succ, i64_w, i32_w]
              rfl
            refine pure_ (i := 5) (N := some 6) (v := ?_) (a' := ?_) #[true, true, true, true, true, true] rfl rfl (by kernel_rfl) (fun _ _ _ h => h) (Or.inl ⟨by rfl, ?_⟩) ?_ ?_
            rotate_left
            · intro w'
              go_simp
              with_reducible rfl
            rotate_left
            · simp only [Act.put, List.setIfInBounds_toArray, List.set_cons_zero, List.set_cons_succ, i64_w, i32_w]
              rfl
            refine done_ (by kernel_rfl) ?_
            have hcz45_0 : w44.cell? ⟨gb328, 0, none⟩ = some (.bool a0_0) := (blk_cell BK328.out 0).trans rfl
            have hcz45_1 : w44.cell? ⟨gb328, 1, none⟩ = some (.slice A0_1 l0_1.length c0_1) := (blk_cell BK328.out 1).trans rfl
            have hcz45_2 : w44.cell? ⟨gb328, 2, none⟩ = some (.int .i64 a0_2) := (blk_cell BK328.out 2).trans rfl
            have hfz45_0 := blk_frozen BK328.out 0
            have hfz45_1 := blk_frozen BK328.out 1
            have hfz45_2 := blk_frozen BK328.out 2
            try go_wp2_with (first | ((with_reducible refine gate_callee (f := 15) rfl ?_); refine goesL_ (some 26) rfl rfl Try.func15 (by kernel_rfl) rfl #[.agg #[.bool a0_0, .slice A0_1 l0_1.length c0_1, .int .i64 a0_2]] rfl hkL ?_; (with_reducible refine (laws_toDy.calls k a0_0 _ _ l0_1 a0_2 t343 t344 t347 _ ?side1 ?side2 A22.out).mono ?_); (case side1 => repeat (first | exact (Kd.C_below HR0_1.out HB.out) | (with_reducible refine Kd.C_alloc ?_ _) | (with_reducible refine Kd.C_drewN ?_ _) | (with_reducible refine Kd.C_drew ?_))); (case side2 => exact HC0_1.out); rintro e w46 ⟨v345, rfl, ho0, hb⟩; refine ⟨_, rfl, ?_⟩; have n0_ := Aside0.mk (Kd.R_lower ho0 (below_size (hkS HB))); have n1_ := hkBb BK328 hb; have n2_ := hkBb BK329 hb; have n3_ := Aside0.mk (below_step (hkS HB) hb); clear BK328; clear BK329; clear HB; have HO346 := n0_; have BK328 := n1_; have BK329 := n2_; have HB := n3_; clear n0_ n1_ n2_ n3_; (try clear hb); (try clear hb2); (try clear hk); (try clear hi); (try clear ho0)) | ((with_reducible refine gate_dst (N := 7) rfl ?_); refine box_event ?hg (N := 7) ?hd (cs := #[.bool false, .slice none 0 0, .int .i64 0]) (t := 42) ?hr ?_; (case hd => rfl); (case hg => rfl); (case hr => first | (go_simp; done) | (go_simp; rfl)); intro gb348 hg w47 hbox hb; have n0_ := hkRb HO346 hb; have n1_ := hkBb BK328 hb; have n2_ := hkBb BK329 hb; have n3_ := Aside0.mk (below_step (hkS HB) hb); have n4_ := Aside0.mk (hbox); have n5_ := hkG hg (hkS HB); have n6_ := hkG hg (hkS HB); have n7_ := hkN hg BK328; have n8_ := hkM hg BK328; have n9_ := hkN hg BK329; have n10_ := hkM hg BK329; clear HO346; clear BK328; clear BK329; clear HB; have HO346 := n0_; have BK328 := n1_; have BK329 := n2_; have HB := n3_; have BK348 := n4_; have GW348 := n5_; have GE348 := n6_; have NB328_348 := n7_; have NB348_328 := n8_; have NB329_348 := n9_; have NB348_329 := n10_; clear n0_ n1_ n2_ n3_ n4_ n5_ n6_ n7_ n8_ n9_ n10_; clear hb hbox hg; have hnb48 := NB348_328.out; have hnc48 := NB328_348.out; have hnb49 := NB348_329.out; have hnc49 := NB329_348.out; have hcz50_0 : w47.cell? ⟨gb348, 0, none⟩ = some (.bool false) := (blk_cell BK348.out 0).trans rfl; have hcz50_1 : w47.cell? ⟨gb348, 1, none⟩ = some (.slice none 0 0) := (blk_cell BK348.out 1).trans rfl; have hcz50_2 : w47.cell? ⟨gb348, 2, none⟩ = some (.int .i64 0) := (blk_cell BK348.out 2).trans rfl; have hfz50_0 := blk_frozen BK348.out 0; have hfz50_1 := blk_frozen BK348.out 1; have hfz50_2 := blk_frozen BK348.out 2; obtain ⟨Ao51, co51, eo51⟩ := Kd.R_slice HO346.out; subst eo51; have hcz52_0 : w47.cell? ⟨gb329, 0, none⟩ = some (.bool a1_0) := (blk_cell BK329.out 0).trans rfl; have hcz52_1 : w47.cell? ⟨gb329, 1, none⟩ = some (.slice A1_1 l1_1.length c1_1) := (blk_cell BK329.out 1).trans rfl; have hcz52_2 : w47.cell? ⟨gb329, 2, none⟩ = some (.int .i64 a1_2) := (blk_cell BK329.out 2).trans rfl; have hfz52_0 := blk_frozen BK329.out 0; have hfz52_1 := blk_frozen BK329.out 1; have hfz52_2 := blk_frozen BK329.out 2) | ((with_reducible refine gate_callee (f := 15) rfl ?_); refine goesL_ (some 28) rfl rfl Try.func15 (by kernel_rfl) rfl #[.agg #[.bool a1_0, .slice A1_1 l1_1.length c1_1, .int .i64 a1_2]] rfl hkL ?_; (with_reducible refine (laws_toDy.calls k a1_0 _ _ l1_1 a1_2 t349 t350 t353 _ ?side1 ?side2 A23.out).mono ?_); (case side1 => exact Kd.C_below HR1_1.out (hkS HB)); (case side2 => exact HC1_1.out); rintro e w53 ⟨v351, rfl, ho0, hb⟩; refine ⟨_, rfl, ?_⟩; have n0_ := Aside0.mk (Kd.R_elder' (by (with_reducible repeat (first | apply Kd.R_alloc | apply Kd.R_drewN | apply Kd.R_drew)); exact (Kd.R_mono (Kd.R_far (p := ⟨gb348, 2, none⟩) (Kd.R_far (p := ⟨gb348, 1, none⟩) (Kd.R_far (p := ⟨gb348, 0, none⟩) (Kd.R_types HO346.out BK348.out (by decide)) (fun _ hk => hk.2) (.bool t343)) (fun _ hk => hk.2) (.slice Ao51 t344.length co51)) (fun _ hk => hk.2) (.int .i64 t347)) (fun _ h_ => h_.1))) (Kd.R_base ho0) hb); have n1_ := Aside0.mk (Kd.R_lower (Kd.R_new' ho0 (Kd.R_lt (by (with_reducible repeat (first | apply Kd.R_alloc | apply Kd.R_drewN | apply Kd.R_drew)); exact (Kd.R_mono (Kd.R_far (p := ⟨gb348, 2, none⟩) (Kd.R_far (p := ⟨gb348, 1, none⟩) (Kd.R_far (p := ⟨gb348, 0, none⟩) (Kd.R_types HO346.out BK348.out (by decide)) (fun _ hk => hk.2) (.bool t343)) (fun _ hk => hk.2) (.slice Ao51 t344.length co51)) (fun _ hk => hk.2) (.int .i64 t347)) (fun _ h_ => h_.1))))) (below_size (hkS HB))); have n2_ := Aside0.mk (blk_below (g := gb328) (o := .cells #[.bool a0_0, .slice A0_1 l0_1.length c0_1, .int .i64 a0_2] 35 (0, 0)) (by (with_reducible repeat (first | refine blk_drewN ?_ _ | refine blk_drew ?_ | refine blk_alloc ?_ _)); refine blk_far ?_ NB328_348.out _; (with_reducible repeat (first | refine blk_drewN ?_ _ | refine blk_drew ?_ | refine blk_alloc ?_ _)); refine blk_far ?_ NB328_348.out _; (with_reducible repeat (first | refine blk_drewN ?_ _ | refine blk_drew ?_ | refine blk_alloc ?_ _)); refine blk_far ?_ NB328_348.out _; (with_reducible repeat (first | refine blk_drewN ?_ _ | refine blk_drew ?_ | refine blk_alloc ?_ _)); exact BK328.out) hb); have n3_ := Aside0.mk (blk_below (g := gb329) (o := .cells #[.bool a1_0, .slice A1_1 l1_1.length c1_1, .int .i64 a1_2] 35 (0, 0)) (by (with_reducible repeat (first | refine blk_drewN ?_ _ | refine blk_drew ?_ | refine blk_alloc ?_ _)); refine blk_far ?_ NB329_348.out _; (with_reducible repeat (first | refine blk_drewN ?_ _ | refine blk_drew ?_ | refine blk_alloc ?_ _)); refine blk_far ?_ NB329_348.out _; (with_reducible repeat (first | refine blk_drewN ?_ _ | refine blk_drew ?_ | refine blk_alloc ?_ _)); refine blk_far ?_ NB329_348.out _; (with_reducible repeat (first | refine blk_drewN ?_ _ | refine blk_drew ?_ | refine blk_alloc ?_ _)); exact BK329.out) hb); have n4_ := Aside0.mk (blk_below (g := gb348) (o := .cells #[.bool t343, .slice Ao51 t344.length co51, .int .i64 t347] 42 (0, 0)) (by (with_reducible repeat (first | refine blk_drewN ?_ _ | refine blk_drew ?_ | refine blk_alloc ?_ _)); refine blk_put (cs := #[.bool t343, .slice Ao51 t344.length co51, .int .i64 0]) ?_ 2 _ rfl; (with_reducible repeat (first | refine blk_drewN ?_ _ | refine blk_drew ?_ | refine blk_alloc ?_ _)); refine blk_put (cs := #[.bool t343, .slice none 0 0, .int .i64 0]) ?_ 1 _ rfl; (with_reducible repeat (first | refine blk_drewN ?_ _ | refine blk_drew ?_ | refine blk_alloc ?_ _)); refine blk_put (cs := #[.bool false, .slice none 0 0, .int .i64 0]) ?_ 0 _ rfl; (with_reducible repeat (first | refine blk_drewN ?_ _ | refine blk_drew ?_ | refine blk_alloc ?_ _)); exact BK348.out) hb); have n5_ := Aside0.mk (below_step (hkS HB) hb); clear HO346; clear BK328; clear BK329; clear BK348; clear HB; have HO346 := n0_; have HO352 := n1_; have BK328 := n2_; have BK329 := n3_; have BK348 := n4_; have HB := n5_; clear n0_ n1_ n2_ n3_ n4_ n5_; (try clear hb); (try clear hb2); (try clear hk); (try clear hi); (try clear ho0)) | ((with_reducible refine gate_dst (N := 8) rfl ?_); refine box_event ?hg (N := 8) ?hd (cs := #[.bool false, .slice none 0 0, .int .i64 0]) (t := 42) ?hr ?_; (case hd => rfl); (case hg => rfl); (case hr => first | (go_simp; done) | (go_simp; rfl)); intro gb354 hg w54 hbox hb; have n0_ := hkRb HO346 hb; have n1_ := hkRb HO352 hb; have n2_ := hkBb BK328 hb; have n3_ := hkBb BK329 hb; have n4_ := hkBb BK348 hb; have n5_ := Aside0.mk (below_step (hkS HB) hb); have n6_ := Aside0.mk (hbox); have n7_ := hkG hg (hkS HB); have n8_ := hkG hg (hkS HB); have n9_ := hkN hg BK328; have n10_ := hkM hg BK328; have n11_ := hkN hg BK329; have n12_ := hkM hg BK329; have n13_ := hkN hg BK348; have n14_ := hkM hg BK348; clear HO346; clear HO352; clear BK328; clear BK329; clear BK348; clear HB; have HO346 := n0_; have HO352 := n1_; have BK328 := n2_; have BK329 := n3_; have BK348 := n4_; have HB := n5_; have BK354 := n6_; have GW354 := n7_; have GE354 := n8_; have NB328_354 := n9_; have NB354_328 := n10_; have NB329_354 := n11_; have NB354_329 := n12_; have NB348_354 := n13_; have NB354_348 := n14_; clear n0_ n1_ n2_ n3_ n4_ n5_ n6_ n7_ n8_ n9_ n10_ n11_ n12_ n13_ n14_; clear hb hbox hg; have hnb55 := NB354_328.out; have hnc55 := NB328_354.out; have hnb56 := NB354_329.out; have hnc56 := NB329_354.out; have hnb57 := NB354_348.out; have hnc57 := NB348_354.out; have hcz58_0 : w54.cell? ⟨gb354, 0, none⟩ = some (.bool false) := (blk_cell BK354.out 0).trans rfl; have hcz58_1 : w54.cell? ⟨gb354, 1, none⟩ = some (.slice none 0 0) := (blk_cell BK354.out 1).trans rfl; have hcz58_2 : w54.cell? ⟨gb354, 2, none⟩ = some (.int .i64 0) := (blk_cell BK354.out 2).trans rfl; have hfz58_0 := blk_frozen BK354.out 0; have hfz58_1 := blk_frozen BK354.out 1; have hfz58_2 := blk_frozen BK354.out 2; obtain ⟨Ao59, co59, eo59⟩ := Kd.R_slice HO352.out; subst eo59) | ((with_reducible refine gate_store (t := 42) (p := 8) rfl ?_); refine store_event (t := 42) (p := 8) (v := ?vo_w60) (w1 := (((w54.setCell ⟨gb354, 0, none⟩ (.bool t349)).setCell ⟨gb354, 1, none⟩ (.slice Ao59 t350.length co59)).setCell ⟨gb354, 2, none⟩ (.int .i64 t353))) ?hg ?ho ?hn ?hr ?_; (case ho => rfl); (case hg => rfl); (case hn => rfl); (case hr => first | (go_simp; done) | (go_simp; rfl)); intro w60 hw; have n0_ : Aside0 (Kd.R (Kd.int .i64) 3 w60 w.heap.size (fun k_ => some k_ ≠ (.slice Ao59 t350.length co59 : Value).ownBlock) (.slice Ao51 t344.length co51) t344) := ⟨(by rw [hw]; exact (by (with_reducible repeat (first | apply Kd.R_alloc | apply Kd.R_drewN | apply Kd.R_drew)); exact Kd.R_mono (Kd.R_far (p := ⟨gb354, 2, none⟩) (Kd.R_far (p := ⟨gb354, 1, none⟩) (Kd.R_far (p := ⟨gb354, 0, none⟩) (Kd.R_types HO346.out BK354.out (by decide)) (fun _ hk => hk.2) (.bool t349)) (fun _ hk => hk.2) (.slice Ao59 t350.length co59)) (fun _ hk => hk.2) (.int .i64 t353)) (fun _ hk => hk.1.2)))⟩; have n1_ : Aside0 (Kd.R (Kd.int .i64) 3 w60 w.heap.size (fun k_ => some k_ ≠ (.slice Ao51 t344.length co51 : Value).ownBlock) (.slice Ao59 t350.length co59) t350) := ⟨(by rw [hw]; exact (by (with_reducible repeat (first | apply Kd.R_alloc | apply Kd.R_drewN | apply Kd.R_drew)); exact Kd.R_mono (Kd.R_far (p := ⟨gb354, 2, none⟩) (Kd.R_far (p := ⟨gb354, 1, none⟩) (Kd.R_far (p := ⟨gb354, 0, none⟩) (Kd.R_types HO352.out BK354.out (by decide)) (fun _ hk => hk.2) (.bool t349)) (fun _ hk => hk.2) (.slice Ao59 t350.length co59)) (fun _ hk => hk.2) (.int .i64 t353)) (fun _ hk => hk.1.2)))⟩; have n2_ : Aside0 (w60.heap[gb328]? = some (.cells #[.bool a0_0, .slice A0_1 l0_1.length c0_1, .int .i64 a0_2] 35 (0, 0))) := ⟨(by rw [hw]; exact (by (with_reducible repeat (first | refine blk_drewN ?_ _ | refine blk_drew ?_ | refine blk_alloc ?_ _)); refine blk_far ?_ NB328_354.out _; (with_reducible repeat (first | refine blk_drewN ?_ _ | refine blk_drew ?_ | refine blk_alloc ?_ _)); refine blk_far ?_ NB328_354.out _; (with_reducible repeat (first | refine blk_drewN ?_ _ | refine blk_drew ?_ | refine blk_alloc ?_ _)); refine blk_far ?_ NB328_354.out _; (with_reducible repeat (first | refine blk_drewN ?_ _ | refine blk_drew ?_ | refine blk_alloc ?_ _)); exact BK328.out))⟩; have n3_ : Aside0 (w60.heap[gb329]? = some (.cells #[.bool a1_0, .slice A1_1 l1_1.length c1_1, .int .i64 a1_2] 35 (0, 0))) := ⟨(by rw [hw]; exact (by (with_reducible repeat (first | refine blk_drewN ?_ _ | refine blk_drew ?_ | refine blk_alloc ?_ _)); refine blk_far ?_ NB329_354.out _; (with_reducible repeat (first | refine blk_drewN ?_ _ | refine blk_drew ?_ | refine blk_alloc ?_ _)); refine blk_far ?_ NB329_354.out _; (with_reducible repeat (first | refine blk_drewN ?_ _ | refine blk_drew ?_ | refine blk_alloc ?_ _)); refine blk_far ?_ NB329_354.out _; (with_reducible repeat (first | refine blk_drewN ?_ _ | refine blk_drew ?_ | refine blk_alloc ?_ _)); exact BK329.out))⟩; have n4_ : Aside0 (w60.heap[gb348]? = some (.cells #[.bool t343, .slice Ao51 t344.length co51, .int .i64 t347] 42 (0, 0))) := ⟨(by rw [hw]; exact (by (with_reducible repeat (first | refine blk_drewN ?_ _ | refine blk_drew ?_ | refine blk_alloc ?_ _)); refine blk_far ?_ NB348_354.out _; (with_reducible repeat (first | refine blk_drewN ?_ _ | refine blk_drew ?_ | refine blk_alloc ?_ _)); refine blk_far ?_ NB348_354.out _; (with_reducible repeat (first | refine blk_drewN ?_ _ | refine blk_drew ?_ | refine blk_alloc ?_ _)); refine blk_far ?_ NB348_354.out _; (with_reducible repeat (first | refine blk_drewN ?_ _ | refine blk_drew ?_ | refine blk_alloc ?_ _)); exact BK348.out))⟩; have n5_ : Aside0 (w60.heap[gb354]? = some (.cells #[.bool t349, .slice Ao59 t350.length co59, .int .i64 t353] 42 (0, 0))) := ⟨(by rw [hw]; exact (by (with_reducible repeat (first | refine blk_drewN ?_ _ | refine blk_drew ?_ | refine blk_alloc ?_ _)); refine blk_put (cs := #[.bool t349, .slice Ao59 t350.length co59, .int .i64 0]) ?_ 2 _ rfl; (with_reducible repeat (first | refine blk_drewN ?_ _ | refine blk_drew ?_ | refine blk_alloc ?_ _)); refine blk_put (cs := #[.bool t349, .slice none 0 0, .int .i64 0]) ?_ 1 _ rfl; (with_reducible repeat (first | refine blk_drewN ?_ _ | refine blk_drew ?_ | refine blk_alloc ?_ _)); refine blk_put (cs := #[.bool false, .slice none 0 0, .int .i64 0]) ?_ 0 _ rfl; (with_reducible repeat (first | refine blk_drewN ?_ _ | refine blk_drew ?_ | refine blk_alloc ?_ _)); exact BK354.out))⟩; have n6_ : Aside0 (Below w.heap.size w w60) := ⟨(by rw [hw]; exact (hkS HB))⟩; clear hw; clear HO346; clear HO352; clear BK328; clear BK329; clear BK348; clear BK354; clear HB; have HO346 := n0_; have HO352 := n1_; have BK328 := n2_; have BK329 := n3_; have BK348 := n4_; have BK354 := n5_; have HB := n6_; clear n0_ n1_ n2_ n3_ n4_ n5_ n6_; have hcz61_0 : w60.cell? ⟨gb348, 0, none⟩ = some (.bool t343) := (blk_cell BK348.out 0).trans rfl; have hcz61_1 : w60.cell? ⟨gb348, 1, none⟩ = some (.slice Ao51 t344.length co51) := (blk_cell BK348.out 1).trans rfl; have hcz61_2 : w60.cell? ⟨gb348, 2, none⟩ = some (.int .i64 t347) := (blk_cell BK348.out 2).trans rfl; have hfz61_0 := blk_frozen BK348.out 0; have hfz61_1 := blk_frozen BK348.out 1; have hfz61_2 := blk_frozen BK348.out 2; have hcz62_0 : w60.cell? ⟨gb354, 0, none⟩ = some (.bool t349) := (blk_cell BK354.out 0).trans rfl; have hcz62_1 : w60.cell? ⟨gb354, 1, none⟩ = some (.slice Ao59 t350.length co59) := (blk_cell BK354.out 1).trans rfl; have hcz62_2 : w60.cell? ⟨gb354, 2, none⟩ = some (.int .i64 t353) := (blk_cell BK354.out 2).trans rfl; have hfz62_0 := blk_frozen BK354.out 0; have hfz62_1 := blk_frozen BK354.out 1; have hfz62_2 := blk_frozen BK354.out 2) | ((with_reducible refine gate_callee (f := 16) rfl ?_); refine goesL_ (some 31) rfl rfl Try.func16 (by kernel_rfl) rfl #[.agg #[.bool t343, .slice Ao51 t344.length co51, .int .i64 t347], .agg #[.bool t349, .slice Ao59 t350.length co59, .int .i64 t353]] rfl hkL ?_; (with_reducible refine (impl_DyCmp.calls k t343 (fun k_ => some k_ = (.slice Ao51 t344.length co51 : Value).ownBlock) _ _ t344 t347 t349 (fun k_ => some k_ = (.slice Ao59 t350.length co59 : Value).ownBlock) _ _ t350 t353 t355 _ ?side1 ?side2 A24.out).mono ?_); (case side1 => exact Kd.R_V (Kd.R_tight rfl (Kd.R_types (Kd.R_types (Kd.R_types (Kd.R_types (HO346.out) BK328.out (by decide)) BK329.out (by decide)) BK348.out (by decide)) BK354.out (by decide)))); (case side2 => exact Kd.R_V (Kd.R_tight rfl (Kd.R_types (Kd.R_types (Kd.R_types (Kd.R_types (HO352.out) BK328.out (by decide)) BK329.out (by decide)) BK348.out (by decide)) BK354.out (by decide)))); rintro e w63 ⟨rfl, hb⟩; refine ⟨_, rfl, ?_⟩; have n0_ := hkRb HO346 hb; have n1_ := hkRb HO352 hb; have n2_ := hkBb BK328 hb; have n3_ := hkBb BK329 hb; have n4_ := hkBb BK348 hb; have n5_ := hkBb BK354 hb; have n6_ := Aside0.mk (below_step (hkS HB) hb); clear HO346; clear HO352; clear BK328; clear BK329; clear BK348; clear BK354; clear HB; have HO346 := n0_; have HO352 := n1_; have BK328 := n2_; have BK329 := n3_; have BK348 := n4_; have BK354 := n5_; have HB := n6_; clear n0_ n1_ n2_ n3_ n4_ n5_ n6_; (try clear hb); (try clear hb2); (try clear hk); (try clear hi)))
            have n0_ := Aside0.mk (Kd.R_drew HO346.out)
            have n1_ := Aside0.mk (Kd.R_drew HO352.out)
            have n2_ := Aside0.mk (blk_drew BK328.out)
            have n3_ := Aside0.mk (blk_drew BK329.out)
            have n4_ := Aside0.mk (blk_drew BK348.out)
            have n5_ := Aside0.mk (blk_drew BK354.out)
            have n6_ := Aside0.mk (below_drew1 HB.out)
            clear HO346
            clear HO352
            clear BK328
            clear BK329
            clear BK348
            clear BK354
            clear HB
            have HO346 := n0_
            have HO352 := n1_
            have BK328 := n2_
            have BK329 := n3_
            have BK348 := n4_
            have BK354 := n5_
            have HB := n6_
            clear n0_ n1_ n2_ n3_ n4_ n5_ n6_
            refine start_ (n := 5) (S := fun w' => w'.cell? ⟨gb348, 0, none⟩ = some (.bool t343) ∧ w'.cell? ⟨gb348, 1, none⟩ = some (.slice Ao51 t344.length co51) ∧ w'.cell? ⟨gb348, 2, none⟩ = some (.int .i64 t347) ∧ w'.cell? ⟨gb328, 0, none⟩ = some (.bool a0_0) ∧ w'.cell? ⟨gb328, 1, none⟩ = some (.slice A0_1 l0_1.length c0_1) ∧ w'.cell? ⟨gb328, 2, none⟩ = some (.int .i64 a0_2)) (ds := []) #[false, false, false, false, false] (by kernel_rfl) rfl rfl ⟨(blk_cell BK348.out 0).trans rfl, (blk_cell BK348.out 1).trans rfl, (blk_cell BK348.out 2).trans rfl, (blk_cell BK328.out 0).trans rfl, (blk_cell BK328.out 1).trans rfl, (blk_cell BK328.out 2).trans rfl⟩ (fun hHeld => ?_)
            generalize w63.drew = w64 at HO346 HO352 BK328 BK329 BK348 BK354 HB hHeld ⊢
            refine take_ (i := 0) (N := some 35) (v := ?_) (a' := ?_) #[true, false, false, false, false] rfl rfl (by kernel_rfl) (fun _ _ _ h => h) (Or.inl ⟨by rfl, ?_⟩) hHeld ?_ ?_
            rotate_left
            · rintro w' ⟨s0, s1, s2, s3, s4, s5⟩
              go_simp
              with_reducible rfl
            rotate_left
            · simp only [Act.put, List.setIfInBounds_toArray, List.set_cons_zero, List.set_cons_succ, i64_w, i32_w]
              rfl
            refine take_ (i := 1) (N := some 36) (v := ?_) (a' := ?_) #[true, true, false, false, false] rfl rfl (by kernel_rfl) (fun _ _ _ h => h) (Or.inl ⟨by rfl, ?_⟩) hHeld ?_ ?_
            rotate_left
            · rintro w' ⟨s0, s1, s2, s3, s4, s5⟩
              go_simp
              with_reducible rfl
            rotate_left
            · simp only [Act.put, List.setIfInBounds_toArray, List.set_cons_zero, List.set_cons_succ, i64_w, i32_w]
              rfl
            refine one_ (i := 2) (N := some 37) #[true, true, true, false, false] rfl rfl (by kernel_rfl) (by decide) (fun K hK => ?_)
            refine goes_ Try.func15 (by kernel_rfl) rfl #[.agg #[.bool a0_0, .slice A0_1 l0_1.length c0_1, .int .i64 a0_2]] (by rfl) rfl rfl hkL ?_
            with_reducible refine (laws_toDy.calls k a0_0 _ _ l0_1 a0_2 t356 t357 t360 _ ?side1 ?side2 A26.out).mono ?_
            (case side1 => repeat (first | exact (Kd.C_below HR0_1.out HB.out) | (with_reducible refine Kd.C_alloc ?_ _) | (with_reducible refine Kd.C_drewN ?_ _) | (with_reducible refine Kd.C_drew ?_)))
            (case side2 => exact HC0_1.out)
            rintro e w65 ⟨v358, rfl, ho0, hb⟩
            refine ⟨_, rfl, ?_⟩
            have n0_ := Aside0.mk (Kd.R_elder' (hkR HO346) (Kd.R_base ho0) hb)
            have n1_ := Aside0.mk (Kd.R_elder' (hkR HO352) (Kd.R_base ho0) hb)
            have n2_ := Aside0.mk (Kd.R_lower (Kd.R_new' (Kd.R_new' ho0 (Kd.R_lt (hkR HO346))) (Kd.R_lt (hkR HO352))) (below_size (hkS HB)))
            have n3_ := hkBb BK328 hb
            have n4_ := hkBb BK329 hb
            have n5_ := hkBb BK348 hb
            have n6_ := hkBb BK354 hb
            have n7_ := Aside0.mk (below_step (hkS HB) hb)
            clear HO346
            clear HO352
            clear BK328
            clear BK329
            clear BK348
            clear BK354
            clear HB
            have HO346 := n0_
            have HO352 := n1_
            have HO359 := n2_
            have BK328 := n3_
            have BK329 := n4_
            have BK348 := n5_
            have BK354 := n6_
            have HB := n7_
            clear n0_ n1_ n2_ n3_ n4_ n5_ n6_ n7_
            (try clear hb)
            (try clear hb2)
            (try clear hk)
            (try clear hi)
            (try clear ho0)
            obtain ⟨Ao66, co66, eo66⟩ := Kd.R_slice HO359.out
            (first | subst eo66 | (injection eo66 with f1_ f2_ f3_; have f4_ := f1_.symm; have f5_ := f3_.symm; clear f1_ f2_ f3_; subst f4_; subst f5_))
            refine hK.out _ _ ⟨(blk_cell BK348.out 0).trans rfl, (blk_cell BK348.out 1).trans rfl, (blk_cell BK348.out 2).trans rfl, (blk_cell BK328.out 0).trans rfl, (blk_cell BK328.out 1).trans rfl, (blk_cell BK328.out 2).trans rfl⟩ (fun hHeld => ?_)
            clear hK K
            refine norm_ (a' := ?_) ?_ ?_
            rotate_left
            · show Act.put _ (some 37) _ = _
              simp only [Act.put, List.setIfInBounds_toArray, List.set_cons_zero, List.set_cons_succ, i64_w, i32_w]
              rfl
            refine one_ (i := 3) (N := some 38) #[true, true, true, true, false] rfl rfl (by kernel_rfl) (by decide) (fun K hK => ?_)
            refine goes_ Try.func17 (by kernel_rfl) rfl #[.agg #[.bool t343, .slice Ao51 t344.length co51, .int .i64 t347], .agg #[.bool t356, .slice Ao66 t357.length co66, .int .i64 t360]] (by rfl) rfl rfl hkL ?_
            with_reducible refine (laws_eqDy.calls k t343 _ _ t344 t347 t356 _ _ t357 t360 true _ ?side1 ?side2 ?side3 ?side4 A27.out).mono ?_
            (case side1 => repeat (first | exact (Kd.R_reads' HO346.out).2.2 | (with_reducible refine Kd.C_alloc ?_ _) | (with_reducible refine Kd.C_drewN ?_ _) | (with_reducible refine Kd.C_drew ?_)))
            (case side2 => exact (Kd.R_reads' HO346.out).2.1)
            (case side3 => repeat (first | exact (Kd.R_reads' HO359.out).2.2 | (with_reducible refine Kd.C_alloc ?_ _) | (with_reducible refine Kd.C_drewN ?_ _) | (with_reducible refine Kd.C_drew ?_)))
            (case side4 => exact (Kd.R_reads' HO359.out).2.1)
            rintro e w67 ⟨rfl, hb⟩
            refine ⟨_, rfl, ?_⟩
            have n0_ := hkRb HO346 hb
            have n1_ := hkRb HO352 hb
            have n2_ := hkRb HO359 hb
            have n3_ := hkBb BK328 hb
            have n4_ := hkBb BK329 hb
            have n5_ := hkBb BK348 hb
            have n6_ := hkBb BK354 hb
            have n7_ := Aside0.mk (below_step (hkS HB) hb)
            clear HO346
            clear HO352
            clear HO359
            clear BK328
            clear BK329
            clear BK348
            clear BK354
            clear HB
            have HO346 := n0_
            have HO352 := n1_
            have HO359 := n2_
            have BK328 := n3_
            have BK329 := n4_
            have BK348 := n5_
            have BK354 := n6_
            have HB := n7_
            clear n0_ n1_ n2_ n3_ n4_ n5_ n6_ n7_
            (try clear hb)
            (try clear hb2)
            (try clear hk)
            (try clear hi)
            refine hK.out _ _ ⟨(blk_cell BK348.out 0).trans rfl, (blk_cell BK348.out 1).trans rfl, (blk_cell BK348.out 2).trans rfl, (blk_cell BK328.out 0).trans rfl, (blk_cell BK328.out 1).trans rfl, (blk_cell BK328.out 2).trans rfl⟩ (fun hHeld => ?_)
            clear hK K
            refine norm_ (a' := ?_) ?_ ?_
            rotate_left
            · show Act.put _ (some 38) _ = _
              simp only [Act.put, List.setIfInBounds_toArray, List.set_cons_zero, List.set_cons_succ, i64_w, i32_w]
              rfl
            refine pure_ (i := 4) (N := some 39) (v := ?_) (a' := ?_) #[true, true, true, true, true] rfl rfl (by kernel_rfl) (fun _ _ _ h => h) (Or.inl ⟨by rfl, ?_⟩) ?_ ?_
            rotate_left
            · intro w'
              go_simp
              with_reducible rfl
            rotate_left
            · simp only [Act.put, List.setIfInBounds_toArray, List.set_cons_zero, List.set_cons_succ, i64_w, i32_w]
              rfl
            refine done_ (by kernel_rfl) ?_
            try go_wp2
            have n0_ := Aside0.mk (Kd.R_drew HO346.out)
            have n1_ := Aside0.mk (Kd.R_drew HO352.out)
            have n2_ := Aside0.mk (Kd.R_drew HO359.out)
            have n3_ := Aside0.mk (blk_drew BK328.out)
            have n4_ := Aside0.mk (blk_drew BK329.out)
            have n5_ := Aside0.mk (blk_drew BK348.out)
            have n6_ := Aside0.mk (blk_drew BK354.out)
            have n7_ := Aside0.mk (below_drew1 HB.out)
            clear HO346
            clear HO352
            clear HO359
            clear BK328
            clear BK329
            clear BK348
            clear BK354
            clear HB
            have HO346 := n0_
            have HO352 := n1_
            have HO359 := n2_
            have BK328 := n3_
            have BK329 := n4_
            have BK348 := n5_
            have BK354 := n6_
            have HB := n7_
            clear n0_ n1_ n2_ n3_ n4_ n5_ n6_ n7_
            refine start_ (n := 5) (S := fun w' => w'.cell? ⟨gb354, 0, none⟩ = some (.bool t349) ∧ w'.cell? ⟨gb354, 1, none⟩ = some (.slice Ao59 t350.length co59) ∧ w'.cell? ⟨gb354, 2, none⟩ = some (.int .i64 t353) ∧ w'.cell? ⟨gb329, 0, none⟩ = some (.bool a1_0) ∧ w'.cell? ⟨gb329, 1, none⟩ = some (.slice A1_1 l1_1.length c1_1) ∧ w'.cell? ⟨gb329, 2, none⟩ = some (.int .i64 a1_2)) (ds := []) #[false, false, false, false, false] (by kernel_rfl) rfl rfl ⟨(blk_cell BK354.out 0).trans rfl, (blk_cell BK354.out 1).trans rfl, (blk_cell BK354.out 2).trans rfl, (blk_cell BK329.out 0).trans rfl, (blk_cell BK329.out 1).trans rfl, (blk_cell BK329.out 2).trans rfl⟩ (fun hHeld => ?_)
            generalize w67.drew = w68 at HO346 HO352 HO359 BK328 BK329 BK348 BK354 HB hHeld ⊢
            refine take_ (i := 0) (N := some 40) (v := ?_) (a' := ?_) #[true, false, false, false, false] rfl rfl (by kernel_rfl) (fun _ _ _ h => h) (Or.inl ⟨by rfl, ?_⟩) hHeld ?_ ?_
            rotate_left
            · rintro w' ⟨s0, s1, s2, s3, s4, s5⟩
              go_simp
              with_reducible rfl
            rotate_left
            · simp only [Act.put, List.setIfInBounds_toArray, List.set_cons_zero, List.set_cons_succ, i64_w, i32_w]
              rfl
            refine take_ (i := 1) (N := some 41) (v := ?_) (a' := ?_) #[true, true, false, false, false] rfl rfl (by kernel_rfl) (fun _ _ _ h => h) (Or.inl ⟨by rfl, ?_⟩) hHeld ?_ ?_
            rotate_left
            · rintro w' ⟨s0, s1, s2, s3, s4, s5⟩
              go_simp
              with_reducible rfl
            rotate_left
            · simp only [Act.put, List.setIfInBounds_toArray, List.set_cons_zero, List.set_cons_succ, i64_w, i32_w]
              rfl
            refine one_ (i := 2) (N := some 42) #[true, true, true, false, false] rfl rfl (by kernel_rfl) (by decide) (fun K hK => ?_)
            refine goes_ Try.func15 (by kernel_rfl) rfl #[.agg #[.bool a1_0, .slice A1_1 l1_1.length c1_1, .int .i64 a1_2]] (by rfl) rfl rfl hkL ?_
            with_reducible refine (laws_toDy.calls k a1_0 _ _ l1_1 a1_2 t362 t363 t366 _ ?side1 ?side2 A29.out).mono ?_
            (case side1 => repeat (first | exact (Kd.C_below HR1_1.out HB.out) | (with_reducible refine Kd.C_alloc ?_ _) | (with_reducible refine Kd.C_drewN ?_ _) | (with_reducible refine Kd.C_drew ?_)))
            (case side2 => exact HC1_1.out)
            rintro e w69 ⟨v364, rfl, ho0, hb⟩
            refine ⟨_, rfl, ?_⟩
            have n0_ := Aside0.mk (Kd.R_elder' (hkR HO346) (Kd.R_base ho0) hb)
            have n1_ := Aside0.mk (Kd.R_elder' (hkR HO352) (Kd.R_base ho0) hb)
            have n2_ := Aside0.mk (Kd.R_elder' (hkR HO359) (Kd.R_base ho0) hb)
            have n3_ := Aside0.mk (Kd.R_lower (Kd.R_new' (Kd.R_new' (Kd.R_new' ho0 (Kd.R_lt (hkR HO346))) (Kd.R_lt (hkR HO352))) (Kd.R_lt (hkR HO359))) (below_size (hkS HB)))
            have n4_ := hkBb BK328 hb
            have n5_ := hkBb BK329 hb
            have n6_ := hkBb BK348 hb
            have n7_ := hkBb BK354 hb
            have n8_ := Aside0.mk (below_step (hkS HB) hb)
            clear HO346
            clear HO352
            clear HO359
            clear BK328
            clear BK329
            clear BK348
            clear BK354
            clear HB
            have HO346 := n0_
            have HO352 := n1_
            have HO359 := n2_
            have HO365 := n3_
            have BK328 := n4_
            have BK329 := n5_
            have BK348 := n6_
            have BK354 := n7_
            have HB := n8_
            clear n0_ n1_ n2_ n3_ n4_ n5_ n6_ n7_ n8_
            (try clear hb)
            (try clear hb2)
            (try clear hk)
            (try clear hi)
            (try clear ho0)
            obtain ⟨Ao70, co70, eo70⟩ := Kd.R_slice HO365.out
            (first | subst eo70 | (injection eo70 with f1_ f2_ f3_; have f4_ := f1_.symm; have f5_ := f3_.symm; clear f1_ f2_ f3_; subst f4_; subst f5_))
            refine hK.out _ _ ⟨(blk_cell BK354.out 0).trans rfl, (blk_cell BK354.out 1).trans rfl, (blk_cell BK354.out 2).trans rfl, (blk_cell BK329.out 0).trans rfl, (blk_cell BK329.out 1).trans rfl, (blk_cell BK329.out 2).trans rfl⟩ (fun hHeld => ?_)
            clear hK K
            refine norm_ (a' := ?_) ?_ ?_
            rotate_left
            · show Act.put _ (some 42) _ = _
              simp only [Act.put, List.setIfInBounds_toArray, List.set_cons_zero, List.set_cons_succ, i64_w, i32_w]
              rfl
            refine one_ (i := 3) (N := some 43) #[true, true, true, true, false] rfl rfl (by kernel_rfl) (by decide) (fun K hK => ?_)
            refine goes_ Try.func17 (by kernel_rfl) rfl #[.agg #[.bool t349, .slice Ao59 t350.length co59, .int .i64 t353], .agg #[.bool t362, .slice Ao70 t363.length co70, .int .i64 t366]] (by rfl) rfl rfl hkL ?_
            with_reducible refine (laws_eqDy.calls k t349 _ _ t350 t353 t362 _ _ t363 t366 true _ ?side1 ?side2 ?side3 ?side4 A30.out).mono ?_
            (case side1 => repeat (first | exact (Kd.R_reads' HO352.out).2.2 | (with_reducible refine Kd.C_alloc ?_ _) | (with_reducible refine Kd.C_drewN ?_ _) | (with_reducible refine Kd.C_drew ?_)))
            (case side2 => exact (Kd.R_reads' HO352.out).2.1)
            (case side3 => repeat (first | exact (Kd.R_reads' HO365.out).2.2 | (with_reducible refine Kd.C_alloc ?_ _) | (with_reducible refine Kd.C_drewN ?_ _) | (with_reducible refine Kd.C_drew ?_)))
            (case side4 => exact (Kd.R_reads' HO365.out).2.1)
            rintro e w71 ⟨rfl, hb⟩
            refine ⟨_, rfl, ?_⟩
            have n0_ := hkRb HO346 hb
            have n1_ := hkRb HO352 hb
            have n2_ := hkRb HO359 hb
            have n3_ := hkRb HO365 hb
            have n4_ := hkBb BK328 hb
            have n5_ := hkBb BK329 hb
            have n6_ := hkBb BK348 hb
            have n7_ := hkBb BK354 hb
            have n8_ := Aside0.mk (below_step (hkS HB) hb)
            clear HO346
            clear HO352
            clear HO359
            clear HO365
            clear BK328
            clear BK329
            clear BK348
            clear BK354
            clear HB
            have HO346 := n0_
            have HO352 := n1_
            have HO359 := n2_
            have HO365 := n3_
            have BK328 := n4_
            have BK329 := n5_
            have BK348 := n6_
            have BK354 := n7_
            have HB := n8_
            clear n0_ n1_ n2_ n3_ n4_ n5_ n6_ n7_ n8_
            (try clear hb)
            (try clear hb2)
            (try clear hk)
            (try clear hi)
            refine hK.out _ _ ⟨(blk_cell BK354.out 0).trans rfl, (blk_cell BK354.out 1).trans rfl, (blk_cell BK354.out 2).trans rfl, (blk_cell BK329.out 0).trans rfl, (blk_cell BK329.out 1).trans rfl, (blk_cell BK329.out 2).trans rfl⟩ (fun hHeld => ?_)
            clear hK K
            refine norm_ (a' := ?_) ?_ ?_
            rotate_left
            · show Act.put _ (some 43) _ = _
              simp only [Act.put, List.setIfInBounds_toArray, List.set_cons_zero, List.set_cons_succ, i64_w, i32_w]
              rfl
            refine pure_ (i := 4) (N := some 44) (v := ?_) (a' := ?_) #[true, true, true, true, true] rfl rfl (by kernel_rfl) (fun _ _ _ h => h) (Or.inl ⟨by rfl, ?_⟩) ?_ ?_
            rotate_left
            · intro w'
              go_simp
              with_reducible rfl
            rotate_left
            · simp only [Act.put, List.setIfInBounds_toArray, List.set_cons_zero, List.set_cons_succ, i64_w, i32_w]
              rfl
            refine done_ (by kernel_rfl) ?_
            try go_wp2
            go_ret
            exact ⟨by first | rfl | (simp [errW_none, errW_some] <;> rfl) | (simp [*, errW_none, errW_some] <;> rfl), by repeat (first | (with_reducible first | exact HB.out | apply below_alloc | apply pw_below_drewN | apply below_drew1 | refine below_set ?_ GE328.out | refine below_set ?_ GE329.out | refine below_set ?_ GE348.out | refine below_set ?_ GE354.out) | exact HB.out)⟩
          · replace c31 := Bool.eq_false_iff.mpr c31
            subst c31
            have H1 : (some false) = some r := by rw [if_neg (show ¬ (false = true) by decide)] at H; exact H
            clear H
            have H := H1
            clear H1
            obtain rfl := Option.some.inj H
            go_enter Try.func4, Try.ntmps4
            try go_wp2_with (first | ((with_reducible refine gate_dst (N := 2) rfl ?_); refine box_event ?hg (N := 2) ?hd (cs := #[.bool a0_0, .slice A0_1 l0_1.length c0_1, .int .i64 a0_2]) (t := 35) ?hr ?_; (case hd => rfl); (case hg => rfl); (case hr => first | (go_simp; done) | (go_simp; rfl)); intro gb328 hg w72 hbox hb; have n0_ := Aside0.mk (below_step (hkS HB) hb); have n1_ := Aside0.mk (hbox); have n2_ := hkG hg (hkS HB); have n3_ := hkG hg (hkS HB); clear HB; have HB := n0_; have BK328 := n1_; have GW328 := n2_; have GE328 := n3_; clear n0_ n1_ n2_ n3_; clear hb hbox hg) | ((with_reducible refine gate_dst (N := 3) rfl ?_); refine box_event ?hg (N := 3) ?hd (cs := #[.bool a1_0, .slice A1_1 l1_1.length c1_1, .int .i64 a1_2]) (t := 35) ?hr ?_; (case hd => rfl); (case hg => rfl); (case hr => first | (go_simp; done) | (go_simp; rfl)); intro gb329 hg w73 hbox hb; have n0_ := hkBb BK328 hb; have n1_ := Aside0.mk (below_step (hkS HB) hb); have n2_ := Aside0.mk (hbox); have n3_ := hkG hg (hkS HB); have n4_ := hkG hg (hkS HB); have n5_ := hkN hg BK328; have n6_ := hkM hg BK328; clear BK328; clear HB; have BK328 := n0_; have HB := n1_; have BK329 := n2_; have GW329 := n3_; have GE329 := n4_; have NB328_329 := n5_; have NB329_328 := n6_; clear n0_ n1_ n2_ n3_ n4_ n5_ n6_; clear hb hbox hg; have hnb74 := NB328_329.out; have hnc74 := NB329_328.out; have hcz75_0 : w73.cell? ⟨gb328, 0, none⟩ = some (.bool a0_0) := (blk_cell BK328.out 0).trans rfl; have hcz75_1 : w73.cell? ⟨gb328, 1, none⟩ = some (.slice A0_1 l0_1.length c0_1) := (blk_cell BK328.out 1).trans rfl; have hcz75_2 : w73.cell? ⟨gb328, 2, none⟩ = some (.int .i64 a0_2) := (blk_cell BK328.out 2).trans rfl; have hfz75_0 := blk_frozen BK328.out 0; have hfz75_1 := blk_frozen BK328.out 1; have hfz75_2 := blk_frozen BK328.out 2) | ((with_reducible refine gate_callee (f := 13) rfl ?_); refine goesL_ (some 12) rfl rfl Try.func13 (by kernel_rfl) rfl #[.agg #[.bool a0_0, .slice A0_1 l0_1.length c0_1, .int .i64 a0_2], .int .i64 1048576] rfl hkL ?_; (with_reducible refine (laws_szDy.calls a0_0 _ _ l0_1 a0_2 1048576 t330 _ ?side1 ?side2 A3.out).mono ?_); (case side1 => repeat (first | exact (Kd.C_below HR0_1.out HB.out) | (with_reducible refine Kd.C_alloc ?_ _) | (with_reducible refine Kd.C_drewN ?_ _) | (with_reducible refine Kd.C_drew ?_))); (case side2 => exact HC0_1.out); rintro e w76 ⟨rfl, hb⟩; refine ⟨_, rfl, ?_⟩; have n0_ := hkBb BK328 hb; have n1_ := hkBb BK329 hb; have n2_ := Aside0.mk (below_step (hkS HB) hb); clear BK328; clear BK329; clear HB; have BK328 := n0_; have BK329 := n1_; have HB := n2_; clear n0_ n1_ n2_; (try clear hb); (try clear hb2); (try clear hk); (try clear hi); have hcz77_0 : w76.cell? ⟨gb329, 0, none⟩ = some (.bool a1_0) := (blk_cell BK329.out 0).trans rfl; have hcz77_1 : w76.cell? ⟨gb329, 1, none⟩ = some (.slice A1_1 l1_1.length c1_1) := (blk_cell BK329.out 1).trans rfl; have hcz77_2 : w76.cell? ⟨gb329, 2, none⟩ = some (.int .i64 a1_2) := (blk_cell BK329.out 2).trans rfl; have hfz77_0 := blk_frozen BK329.out 0; have hfz77_1 := blk_frozen BK329.out 1; have hfz77_2 := blk_frozen BK329.out 2) | ((with_reducible refine gate_callee (f := 13) rfl ?_); refine goesL_ (some 17) rfl rfl Try.func13 (by kernel_rfl) rfl #[.agg #[.bool a1_0, .slice A1_1 l1_1.length c1_1, .int .i64 a1_2], .int .i64 t330] rfl hkL ?_; (with_reducible refine (laws_szDy.calls a1_0 _ _ l1_1 a1_2 t330 t331 _ ?side1 ?side2 A10.out).mono ?_); (case side1 => repeat (first | exact (Kd.C_below HR1_1.out HB.out) | (with_reducible refine Kd.C_alloc ?_ _) | (with_reducible refine Kd.C_drewN ?_ _) | (with_reducible refine Kd.C_drew ?_))); (case side2 => exact HC1_1.out); rintro e w78 ⟨rfl, hb⟩; refine ⟨_, rfl, ?_⟩; have n0_ := hkBb BK328 hb; have n1_ := hkBb BK329 hb; have n2_ := Aside0.mk (below_step (hkS HB) hb); clear BK328; clear BK329; clear HB; have BK328 := n0_; have BK329 := n1_; have HB := n2_; clear n0_ n1_ n2_; (try clear hb); (try clear hb2); (try clear hk); (try clear hi)))
            have n0_ := Aside0.mk (blk_drew BK328.out)
            have n1_ := Aside0.mk (blk_drew BK329.out)
            have n2_ := Aside0.mk (below_drew1 HB.out)
            clear BK328
            clear BK329
            clear HB
            have BK328 := n0_
            have BK329 := n1_
            have HB := n2_
            clear n0_ n1_ n2_
            refine start_ (n := 6) (S := fun w' => w'.cell? ⟨gb328, 0, none⟩ = some (.bool a0_0) ∧ w'.cell? ⟨gb328, 1, none⟩ = some (.slice A0_1 l0_1.length c0_1) ∧ w'.cell? ⟨gb328, 2, none⟩ = some (.int .i64 a0_2) ∧ w'.cell? ⟨gb329, 0, none⟩ = some (.bool a1_0) ∧ w'.cell? ⟨gb329, 1, none⟩ = some (.slice A1_1 l1_1.length c1_1) ∧ w'.cell? ⟨gb329, 2, none⟩ = some (.int .i64 a1_2)) (ds := []) #[false, false, false, false, false, false] (by kernel_rfl) rfl rfl ⟨(blk_cell BK328.out 0).trans rfl, (blk_cell BK328.out 1).trans rfl, (blk_cell BK328.out 2).trans rfl, (blk_cell BK329.out 0).trans rfl, (blk_cell BK329.out 1).trans rfl, (blk_cell BK329.out 2).trans rfl⟩ (fun hHeld => ?_)
            generalize w78.drew = w79 at BK328 BK329 HB hHeld ⊢
            refine take_ (i := 0) (N := some 20) (v := ?_) (a' := ?_) #[true, false, false, false, false, false] rfl rfl (by kernel_rfl) (fun _ _ _ h => h) (Or.inl ⟨by rfl, ?_⟩) hHeld ?_ ?_
            rotate_left
            · rintro w' ⟨s0, s1, s2, s3, s4, s5⟩
              go_simp
              with_reducible rfl
            rotate_left
            · simp only [Act.put, List.setIfInBounds_toArray, List.set_cons_zero, List.set_cons_succ, i64_w, i32_w]
              rfl
            refine take_ (i := 2) (N := some 22) (v := ?_) (a' := ?_) #[true, false, true, false, false, false] rfl rfl (by kernel_rfl) (fun _ _ _ h => h) (Or.inl ⟨by rfl, ?_⟩) hHeld ?_ ?_
            rotate_left
            · rintro w' ⟨s0, s1, s2, s3, s4, s5⟩
              go_simp
              with_reducible rfl
            rotate_left
            · simp only [Act.put, List.setIfInBounds_toArray, List.set_cons_zero, List.set_cons_succ, i64_w, i32_w]
              rfl
            refine one_ (i := 1) (N := some 21) #[true, true, true, false, false, false] rfl rfl (by kernel_rfl) (by decide) (fun K hK => ?_)
            refine goes_ Try.func15 (by kernel_rfl) rfl #[.agg #[.bool a0_0, .slice A0_1 l0_1.length c0_1, .int .i64 a0_2]] (by rfl) rfl rfl hkL ?_
            with_reducible refine (laws_toDy.calls k a0_0 _ _ l0_1 a0_2 t332 t333 t336 _ ?side1 ?side2 A19.out).mono ?_
            (case side1 => repeat (first | exact (Kd.C_below HR0_1.out HB.out) | (with_reducible refine Kd.C_alloc ?_ _) | (with_reducible refine Kd.C_drewN ?_ _) | (with_reducible refine Kd.C_drew ?_)))
            (case side2 => exact HC0_1.out)
            rintro e w80 ⟨v334, rfl, ho0, hb⟩
            refine ⟨_, rfl, ?_⟩
            have n0_ := Aside0.mk (Kd.R_lower ho0 (below_size (hkS HB)))
            have n1_ := hkBb BK328 hb
            have n2_ := hkBb BK329 hb
            have n3_ := Aside0.mk (below_step (hkS HB) hb)
            clear BK328
            clear BK329
            clear HB
            have HO335 := n0_
            have BK328 := n1_
            have BK329 := n2_
            have HB := n3_
            clear n0_ n1_ n2_ n3_
            (try clear hb)
            (try clear hb2)
            (try clear hk)
            (try clear hi)
            (try clear ho0)
            refine hK.out _ _ ⟨(blk_cell BK328.out 0).trans rfl, (blk_cell BK328.out 1).trans rfl, (blk_cell BK328.out 2).trans rfl, (blk_cell BK329.out 0).trans rfl, (blk_cell BK329.out 1).trans rfl, (blk_cell BK329.out 2).trans rfl⟩ (fun hHeld => ?_)
            clear hK K
            refine norm_ (a' := ?_) ?_ ?_
            rotate_left
            · show Act.put _ (some 21) _ = _
              simp only [Act.put, List.setIfInBounds_toArray, List.set_cons_zero, List.set_cons_succ, i64_w, i32_w]
              rfl
            refine one_ (i := 3) (N := some 23) #[true, true, true, true, false, false] rfl rfl (by kernel_rfl) (by decide) (fun K hK => ?_)
            refine goes_ Try.func15 (by kernel_rfl) rfl #[.agg #[.bool a1_0, .slice A1_1 l1_1.length c1_1, .int .i64 a1_2]] (by rfl) rfl rfl hkL ?_
            with_reducible refine (laws_toDy.calls k a1_0 _ _ l1_1 a1_2 t337 t338 t341 _ ?side1 ?side2 A20.out).mono ?_
            (case side1 => repeat (first | exact (Kd.C_below HR1_1.out HB.out) | (with_reducible refine Kd.C_alloc ?_ _) | (with_reducible refine Kd.C_drewN ?_ _) | (with_reducible refine Kd.C_drew ?_)))
            (case side2 => exact HC1_1.out)
            rintro e w81 ⟨v339, rfl, ho0, hb⟩
            refine ⟨_, rfl, ?_⟩
            have n0_ := Aside0.mk (Kd.R_elder' (hkR HO335) (Kd.R_base ho0) hb)
            have n1_ := Aside0.mk (Kd.R_lower (Kd.R_new' ho0 (Kd.R_lt (hkR HO335))) (below_size (hkS HB)))
            have n2_ := hkBb BK328 hb
            have n3_ := hkBb BK329 hb
            have n4_ := Aside0.mk (below_step (hkS HB) hb)
            clear HO335
            clear BK328
            clear BK329
            clear HB
            have HO335 := n0_
            have HO340 := n1_
            have BK328 := n2_
            have BK329 := n3_
            have HB := n4_
            clear n0_ n1_ n2_ n3_ n4_
            (try clear hb)
            (try clear hb2)
            (try clear hk)
            (try clear hi)
            (try clear ho0)
            obtain ⟨Ao82, co82, eo82⟩ := Kd.R_slice HO335.out
            (first | subst eo82 | (injection eo82 with f1_ f2_ f3_; have f4_ := f1_.symm; have f5_ := f3_.symm; clear f1_ f2_ f3_; subst f4_; subst f5_))
            obtain ⟨Ao83, co83, eo83⟩ := Kd.R_slice HO340.out
            (first | subst eo83 | (injection eo83 with f1_ f2_ f3_; have f4_ := f1_.symm; have f5_ := f3_.symm; clear f1_ f2_ f3_; subst f4_; subst f5_))
            refine hK.out _ _ ⟨(blk_cell BK328.out 0).trans rfl, (blk_cell BK328.out 1).trans rfl, (blk_cell BK328.out 2).trans rfl, (blk_cell BK329.out 0).trans rfl, (blk_cell BK329.out 1).trans rfl, (blk_cell BK329.out 2).trans rfl⟩ (fun hHeld => ?_)
            clear hK K
            refine norm_ (a' := ?_) ?_ ?_
            rotate_left
            · show Act.put _ (some 23) _ = _
              simp only [Act.put, List.setIfInBounds_toArray, List.set_cons_zero, List.set_cons_succ, i64_w, i32_w]
              rfl
            refine one_ (i := 4) (N := some 24) #[true, true, true, true, true, false] rfl rfl (by kernel_rfl) (by decide) (fun K hK => ?_)
            refine goes_ Try.func14 (by kernel_rfl) rfl #[.agg #[.bool t332, .slice Ao82 t333.length co82, .int .i64 t336], .agg #[.bool t337, .slice Ao83 t338.length co83, .int .i64 t341]] (by rfl) rfl rfl hkL ?_
            with_reducible refine (spec_DyCmp.calls k t332 (fun k_ => some k_ = (.slice Ao82 t333.length co82 : Value).ownBlock) (.slice Ao82 t333.length co82) t333 t336 t337 (fun k_ => some k_ = (.slice Ao83 t338.length co83 : Value).ownBlock) (.slice Ao83 t338.length co83) t338 t341 t342 w _ ?side1 ?side2 ?side3 ?side4 ?side5 A21.out).mono ?_
            (case side1 => repeat (first | (with_reducible first | exact HB.out | apply below_alloc | apply pw_below_drewN | apply below_drew1 | refine below_set ?_ GE328.out | refine below_set ?_ GE329.out) | exact HB.out))
            (case side2 => exact Kd.R_tight rfl HO335.out)
            (case side3 => exact fun k_ e_ => (HO335.out.1 k_ e_.symm).2)
            (case side4 => exact Kd.R_tight rfl HO340.out)
            (case side5 => exact fun k_ e_ => (HO340.out.1 k_ e_.symm).2)
            rintro e w84 ⟨rfl, hb, hkp⟩
            refine ⟨_, rfl, ?_⟩
            have n0_ := Aside0.mk (blk_kept (hkB BK328) hkp (fun hs_ => Or.elim hs_ (fun e_ => (fun e_ => (Kd.R_ne HO335.out BK328.out (by decide)) e_) e_) (fun e_ => (fun e_ => (Kd.R_ne HO340.out BK328.out (by decide)) e_) e_)))
            have n1_ := Aside0.mk (blk_kept (hkB BK329) hkp (fun hs_ => Or.elim hs_ (fun e_ => (fun e_ => (Kd.R_ne HO335.out BK329.out (by decide)) e_) e_) (fun e_ => (fun e_ => (Kd.R_ne HO340.out BK329.out (by decide)) e_) e_)))
            have n2_ := Aside0.mk (hb)
            clear BK328
            clear BK329
            clear HB
            clear HO335
            clear HO340
            have BK328 := n0_
            have BK329 := n1_
            have HB := n2_
            clear n0_ n1_ n2_
            (try clear hb)
            (try clear hkp)
            refine hK.out _ _ ⟨(blk_cell BK328.out 0).trans rfl, (blk_cell BK328.out 1).trans rfl, (blk_cell BK328.out 2).trans rfl, (blk_cell BK329.out 0).trans rfl, (blk_cell BK329.out 1).trans rfl, (blk_cell BK329.out 2).trans rfl⟩ (fun hHeld => ?_)
            clear hK K
            refine norm_ (a' := ?_) ?_ ?_
            rotate_left
            · show Act.put _ (some 24) _ = _
              simp only [Act.put, List.setIfInBounds_toArray, List.set_cons_zero, List.set_cons_succ, i64_w, i32_w]
              rfl
            refine pure_ (i := 5) (N := some 6) (v := ?_) (a' := ?_) #[true, true, true, true, true, true] rfl rfl (by kernel_rfl) (fun _ _ _ h => h) (Or.inl ⟨by rfl, ?_⟩) ?_ ?_
            rotate_left
            · intro w'
              go_simp
              with_reducible rfl
            rotate_left
            · simp only [Act.put, List.setIfInBounds_toArray, List.set_cons_zero, List.set_cons_succ, i64_w, i32_w]
              rfl
            refine done_ (by kernel_rfl) ?_
            have hcz85_0 : w84.cell? ⟨gb328, 0, none⟩ = some (.bool a0_0) := (blk_cell BK328.out 0).trans rfl
            have hcz85_1 : w84.cell? ⟨gb328, 1, none⟩ = some (.slice A0_1 l0_1.length c0_1) := (blk_cell BK328.out 1).trans rfl
            have hcz85_2 : w84.cell? ⟨gb328, 2, none⟩ = some (.int .i64 a0_2) := (blk_cell BK328.out 2).trans rfl
            have hfz85_0 := blk_frozen BK328.out 0
            have hfz85_1 := blk_frozen BK328.out 1
            have hfz85_2 := blk_frozen BK328.out 2
            try go_wp2_with (first | ((with_reducible refine gate_callee (f := 15) rfl ?_); refine goesL_ (some 26) rfl rfl Try.func15 (by kernel_rfl) rfl #[.agg #[.bool a0_0, .slice A0_1 l0_1.length c0_1, .int .i64 a0_2]] rfl hkL ?_; (with_reducible refine (laws_toDy.calls k a0_0 _ _ l0_1 a0_2 t343 t344 t347 _ ?side1 ?side2 A22.out).mono ?_); (case side1 => repeat (first | exact (Kd.C_below HR0_1.out HB.out) | (with_reducible refine Kd.C_alloc ?_ _) | (with_reducible refine Kd.C_drewN ?_ _) | (with_reducible refine Kd.C_drew ?_))); (case side2 => exact HC0_1.out); rintro e w86 ⟨v345, rfl, ho0, hb⟩; refine ⟨_, rfl, ?_⟩; have n0_ := Aside0.mk (Kd.R_lower ho0 (below_size (hkS HB))); have n1_ := hkBb BK328 hb; have n2_ := hkBb BK329 hb; have n3_ := Aside0.mk (below_step (hkS HB) hb); clear BK328; clear BK329; clear HB; have HO346 := n0_; have BK328 := n1_; have BK329 := n2_; have HB := n3_; clear n0_ n1_ n2_ n3_; (try clear hb); (try clear hb2); (try clear hk); (try clear hi); (try clear ho0)) | ((with_reducible refine gate_dst (N := 7) rfl ?_); refine box_event ?hg (N := 7) ?hd (cs := #[.bool false, .slice none 0 0, .int .i64 0]) (t := 42) ?hr ?_; (case hd => rfl); (case hg => rfl); (case hr => first | (go_simp; done) | (go_simp; rfl)); intro gb348 hg w87 hbox hb; have n0_ := hkRb HO346 hb; have n1_ := hkBb BK328 hb; have n2_ := hkBb BK329 hb; have n3_ := Aside0.mk (below_step (hkS HB) hb); have n4_ := Aside0.mk (hbox); have n5_ := hkG hg (hkS HB); have n6_ := hkG hg (hkS HB); have n7_ := hkN hg BK328; have n8_ := hkM hg BK328; have n9_ := hkN hg BK329; have n10_ := hkM hg BK329; clear HO346; clear BK328; clear BK329; clear HB; have HO346 := n0_; have BK328 := n1_; have BK329 := n2_; have HB := n3_; have BK348 := n4_; have GW348 := n5_; have GE348 := n6_; have NB328_348 := n7_; have NB348_328 := n8_; have NB329_348 := n9_; have NB348_329 := n10_; clear n0_ n1_ n2_ n3_ n4_ n5_ n6_ n7_ n8_ n9_ n10_; clear hb hbox hg; have hnb88 := NB348_328.out; have hnc88 := NB328_348.out; have hnb89 := NB348_329.out; have hnc89 := NB329_348.out; have hcz90_0 : w87.cell? ⟨gb348, 0, none⟩ = some (.bool false) := (blk_cell BK348.out 0).trans rfl; have hcz90_1 : w87.cell? ⟨gb348, 1, none⟩ = some (.slice none 0 0) := (blk_cell BK348.out 1).trans rfl; have hcz90_2 : w87.cell? ⟨gb348, 2, none⟩ = some (.int .i64 0) := (blk_cell BK348.out 2).trans rfl; have hfz90_0 := blk_frozen BK348.out 0; have hfz90_1 := blk_frozen BK348.out 1; have hfz90_2 := blk_frozen BK348.out 2; obtain ⟨Ao91, co91, eo91⟩ := Kd.R_slice HO346.out; subst eo91; have hcz92_0 : w87.cell? ⟨gb329, 0, none⟩ = some (.bool a1_0) := (blk_cell BK329.out 0).trans rfl; have hcz92_1 : w87.cell? ⟨gb329, 1, none⟩ = some (.slice A1_1 l1_1.length c1_1) := (blk_cell BK329.out 1).trans rfl; have hcz92_2 : w87.cell? ⟨gb329, 2, none⟩ = some (.int .i64 a1_2) := (blk_cell BK329.out 2).trans rfl; have hfz92_0 := blk_frozen BK329.out 0; have hfz92_1 := blk_frozen BK329.out 1; have hfz92_2 := blk_frozen BK329.out 2) | ((with_reducible refine gate_callee (f := 15) rfl ?_); refine goesL_ (some 28) rfl rfl Try.func15 (by kernel_rfl) rfl #[.agg #[.bool a1_0, .slice A1_1 l1_1.length c1_1, .int .i64 a1_2]] rfl hkL ?_; (with_reducible refine (laws_toDy.calls k a1_0 _ _ l1_1 a1_2 t349 t350 t353 _ ?side1 ?side2 A23.out).mono ?_); (case side1 => exact Kd.C_below HR1_1.out (hkS HB)); (case side2 => exact HC1_1.out); rintro e w93 ⟨v351, rfl, ho0, hb⟩; refine ⟨_, rfl, ?_⟩; have n0_ := Aside0.mk (Kd.R_elder' (by (with_reducible repeat (first | apply Kd.R_alloc | apply Kd.R_drewN | apply Kd.R_drew)); exact (Kd.R_mono (Kd.R_far (p := ⟨gb348, 2, none⟩) (Kd.R_far (p := ⟨gb348, 1, none⟩) (Kd.R_far (p := ⟨gb348, 0, none⟩) (Kd.R_types HO346.out BK348.out (by decide)) (fun _ hk => hk.2) (.bool t343)) (fun _ hk => hk.2) (.slice Ao91 t344.length co91)) (fun _ hk => hk.2) (.int .i64 t347)) (fun _ h_ => h_.1))) (Kd.R_base ho0) hb); have n1_ := Aside0.mk (Kd.R_lower (Kd.R_new' ho0 (Kd.R_lt (by (with_reducible repeat (first | apply Kd.R_alloc | apply Kd.R_drewN | apply Kd.R_drew)); exact (Kd.R_mono (Kd.R_far (p := ⟨gb348, 2, none⟩) (Kd.R_far (p := ⟨gb348, 1, none⟩) (Kd.R_far (p := ⟨gb348, 0, none⟩) (Kd.R_types HO346.out BK348.out (by decide)) (fun _ hk => hk.2) (.bool t343)) (fun _ hk => hk.2) (.slice Ao91 t344.length co91)) (fun _ hk => hk.2) (.int .i64 t347)) (fun _ h_ => h_.1))))) (below_size (hkS HB))); have n2_ := Aside0.mk (blk_below (g := gb328) (o := .cells #[.bool a0_0, .slice A0_1 l0_1.length c0_1, .int .i64 a0_2] 35 (0, 0)) (by (with_reducible repeat (first | refine blk_drewN ?_ _ | refine blk_drew ?_ | refine blk_alloc ?_ _)); refine blk_far ?_ NB328_348.out _; (with_reducible repeat (first | refine blk_drewN ?_ _ | refine blk_drew ?_ | refine blk_alloc ?_ _)); refine blk_far ?_ NB328_348.out _; (with_reducible repeat (first | refine blk_drewN ?_ _ | refine blk_drew ?_ | refine blk_alloc ?_ _)); refine blk_far ?_ NB328_348.out _; (with_reducible repeat (first | refine blk_drewN ?_ _ | refine blk_drew ?_ | refine blk_alloc ?_ _)); exact BK328.out) hb); have n3_ := Aside0.mk (blk_below (g := gb329) (o := .cells #[.bool a1_0, .slice A1_1 l1_1.length c1_1, .int .i64 a1_2] 35 (0, 0)) (by (with_reducible repeat (first | refine blk_drewN ?_ _ | refine blk_drew ?_ | refine blk_alloc ?_ _)); refine blk_far ?_ NB329_348.out _; (with_reducible repeat (first | refine blk_drewN ?_ _ | refine blk_drew ?_ | refine blk_alloc ?_ _)); refine blk_far ?_ NB329_348.out _; (with_reducible repeat (first | refine blk_drewN ?_ _ | refine blk_drew ?_ | refine blk_alloc ?_ _)); refine blk_far ?_ NB329_348.out _; (with_reducible repeat (first | refine blk_drewN ?_ _ | refine blk_drew ?_ | refine blk_alloc ?_ _)); exact BK329.out) hb); have n4_ := Aside0.mk (blk_below (g := gb348) (o := .cells #[.bool t343, .slice Ao91 t344.length co91, .int .i64 t347] 42 (0, 0)) (by (with_reducible repeat (first | refine blk_drewN ?_ _ | refine blk_drew ?_ | refine blk_alloc ?_ _)); refine blk_put (cs := #[.bool t343, .slice Ao91 t344.length co91, .int .i64 0]) ?_ 2 _ rfl; (with_reducible repeat (first | refine blk_drewN ?_ _ | refine blk_drew ?_ | refine blk_alloc ?_ _)); refine blk_put (cs := #[.bool t343, .slice none 0 0, .int .i64 0]) ?_ 1 _ rfl; (with_reducible repeat (first | refine blk_drewN ?_ _ | refine blk_drew ?_ | refine blk_alloc ?_ _)); refine blk_put (cs := #[.bool false, .slice none 0 0, .int .i64 0]) ?_ 0 _ rfl; (with_reducible repeat (first | refine blk_drewN ?_ _ | refine blk_drew ?_ | refine blk_alloc ?_ _)); exact BK348.out) hb); have n5_ := Aside0.mk (below_step (hkS HB) hb); clear HO346; clear BK328; clear BK329; clear BK348; clear HB; have HO346 := n0_; have HO352 := n1_; have BK328 := n2_; have BK329 := n3_; have BK348 := n4_; have HB := n5_; clear n0_ n1_ n2_ n3_ n4_ n5_; (try clear hb); (try clear hb2); (try clear hk); (try clear hi); (try clear ho0)) | ((with_reducible refine gate_dst (N := 8) rfl ?_); refine box_event ?hg (N := 8) ?hd (cs := #[.bool false, .slice none 0 0, .int .i64 0]) (t := 42) ?hr ?_; (case hd => rfl); (case hg => rfl); (case hr => first | (go_simp; done) | (go_simp; rfl)); intro gb354 hg w94 hbox hb; have n0_ := hkRb HO346 hb; have n1_ := hkRb HO352 hb; have n2_ := hkBb BK328 hb; have n3_ := hkBb BK329 hb; have n4_ := hkBb BK348 hb; have n5_ := Aside0.mk (below_step (hkS HB) hb); have n6_ := Aside0.mk (hbox); have n7_ := hkG hg (hkS HB); have n8_ := hkG hg (hkS HB); have n9_ := hkN hg BK328; have n10_ := hkM hg BK328; have n11_ := hkN hg BK329; have n12_ := hkM hg BK329; have n13_ := hkN hg BK348; have n14_ := hkM hg BK348; clear HO346; clear HO352; clear BK328; clear BK329; clear BK348; clear HB; have HO346 := n0_; have HO352 := n1_; have BK328 := n2_; have BK329 := n3_; have BK348 := n4_; have HB := n5_; have BK354 := n6_; have GW354 := n7_; have GE354 := n8_; have NB328_354 := n9_; have NB354_328 := n10_; have NB329_354 := n11_; have NB354_329 := n12_; have NB348_354 := n13_; have NB354_348 := n14_; clear n0_ n1_ n2_ n3_ n4_ n5_ n6_ n7_ n8_ n9_ n10_ n11_ n12_ n13_ n14_; clear hb hbox hg; have hnb95 := NB354_328.out; have hnc95 := NB328_354.out; have hnb96 := NB354_329.out; have hnc96 := NB329_354.out; have hnb97 := NB354_348.out; have hnc97 := NB348_354.out; have hcz98_0 : w94.cell? ⟨gb354, 0, none⟩ = some (.bool false) := (blk_cell BK354.out 0).trans rfl; have hcz98_1 : w94.cell? ⟨gb354, 1, none⟩ = some (.slice none 0 0) := (blk_cell BK354.out 1).trans rfl; have hcz98_2 : w94.cell? ⟨gb354, 2, none⟩ = some (.int .i64 0) := (blk_cell BK354.out 2).trans rfl; have hfz98_0 := blk_frozen BK354.out 0; have hfz98_1 := blk_frozen BK354.out 1; have hfz98_2 := blk_frozen BK354.out 2; obtain ⟨Ao99, co99, eo99⟩ := Kd.R_slice HO352.out; subst eo99) | ((with_reducible refine gate_store (t := 42) (p := 8) rfl ?_); refine store_event (t := 42) (p := 8) (v := ?vo_w100) (w1 := (((w94.setCell ⟨gb354, 0, none⟩ (.bool t349)).setCell ⟨gb354, 1, none⟩ (.slice Ao99 t350.length co99)).setCell ⟨gb354, 2, none⟩ (.int .i64 t353))) ?hg ?ho ?hn ?hr ?_; (case ho => rfl); (case hg => rfl); (case hn => rfl); (case hr => first | (go_simp; done) | (go_simp; rfl)); intro w100 hw; have n0_ : Aside0 (Kd.R (Kd.int .i64) 3 w100 w.heap.size (fun k_ => some k_ ≠ (.slice Ao99 t350.length co99 : Value).ownBlock) (.slice Ao91 t344.length co91) t344) := ⟨(by rw [hw]; exact (by (with_reducible repeat (first | apply Kd.R_alloc | apply Kd.R_drewN | apply Kd.R_drew)); exact Kd.R_mono (Kd.R_far (p := ⟨gb354, 2, none⟩) (Kd.R_far (p := ⟨gb354, 1, none⟩) (Kd.R_far (p := ⟨gb354, 0, none⟩) (Kd.R_types HO346.out BK354.out (by decide)) (fun _ hk => hk.2) (.bool t349)) (fun _ hk => hk.2) (.slice Ao99 t350.length co99)) (fun _ hk => hk.2) (.int .i64 t353)) (fun _ hk => hk.1.2)))⟩; have n1_ : Aside0 (Kd.R (Kd.int .i64) 3 w100 w.heap.size (fun k_ => some k_ ≠ (.slice Ao91 t344.length co91 : Value).ownBlock) (.slice Ao99 t350.length co99) t350) := ⟨(by rw [hw]; exact (by (with_reducible repeat (first | apply Kd.R_alloc | apply Kd.R_drewN | apply Kd.R_drew)); exact Kd.R_mono (Kd.R_far (p := ⟨gb354, 2, none⟩) (Kd.R_far (p := ⟨gb354, 1, none⟩) (Kd.R_far (p := ⟨gb354, 0, none⟩) (Kd.R_types HO352.out BK354.out (by decide)) (fun _ hk => hk.2) (.bool t349)) (fun _ hk => hk.2) (.slice Ao99 t350.length co99)) (fun _ hk => hk.2) (.int .i64 t353)) (fun _ hk => hk.1.2)))⟩; have n2_ : Aside0 (w100.heap[gb328]? = some (.cells #[.bool a0_0, .slice A0_1 l0_1.length c0_1, .int .i64 a0_2] 35 (0, 0))) := ⟨(by rw [hw]; exact (by (with_reducible repeat (first | refine blk_drewN ?_ _ | refine blk_drew ?_ | refine blk_alloc ?_ _)); refine blk_far ?_ NB328_354.out _; (with_reducible repeat (first | refine blk_drewN ?_ _ | refine blk_drew ?_ | refine blk_alloc ?_ _)); refine blk_far ?_ NB328_354.out _; (with_reducible repeat (first | refine blk_drewN ?_ _ | refine blk_drew ?_ | refine blk_alloc ?_ _)); refine blk_far ?_ NB328_354.out _; (with_reducible repeat (first | refine blk_drewN ?_ _ | refine blk_drew ?_ | refine blk_alloc ?_ _)); exact BK328.out))⟩; have n3_ : Aside0 (w100.heap[gb329]? = some (.cells #[.bool a1_0, .slice A1_1 l1_1.length c1_1, .int .i64 a1_2] 35 (0, 0))) := ⟨(by rw [hw]; exact (by (with_reducible repeat (first | refine blk_drewN ?_ _ | refine blk_drew ?_ | refine blk_alloc ?_ _)); refine blk_far ?_ NB329_354.out _; (with_reducible repeat (first | refine blk_drewN ?_ _ | refine blk_drew ?_ | refine blk_alloc ?_ _)); refine blk_far ?_ NB329_354.out _; (with_reducible repeat (first | refine blk_drewN ?_ _ | refine blk_drew ?_ | refine blk_alloc ?_ _)); refine blk_far ?_ NB329_354.out _; (with_reducible repeat (first | refine blk_drewN ?_ _ | refine blk_drew ?_ | refine blk_alloc ?_ _)); exact BK329.out))⟩; have n4_ : Aside0 (w100.heap[gb348]? = some (.cells #[.bool t343, .slice Ao91 t344.length co91, .int .i64 t347] 42 (0, 0))) := ⟨(by rw [hw]; exact (by (with_reducible repeat (first | refine blk_drewN ?_ _ | refine blk_drew ?_ | refine blk_alloc ?_ _)); refine blk_far ?_ NB348_354.out _; (with_reducible repeat (first | refine blk_drewN ?_ _ | refine blk_drew ?_ | refine blk_alloc ?_ _)); refine blk_far ?_ NB348_354.out _; (with_reducible repeat (first | refine blk_drewN ?_ _ | refine blk_drew ?_ | refine blk_alloc ?_ _)); refine blk_far ?_ NB348_354.out _; (with_reducible repeat (first | refine blk_drewN ?_ _ | refine blk_drew ?_ | refine blk_alloc ?_ _)); exact BK348.out))⟩; have n5_ : Aside0 (w100.heap[gb354]? = some (.cells #[.bool t349, .slice Ao99 t350.length co99, .int .i64 t353] 42 (0, 0))) := ⟨(by rw [hw]; exact (by (with_reducible repeat (first | refine blk_drewN ?_ _ | refine blk_drew ?_ | refine blk_alloc ?_ _)); refine blk_put (cs := #[.bool t349, .slice Ao99 t350.length co99, .int .i64 0]) ?_ 2 _ rfl; (with_reducible repeat (first | refine blk_drewN ?_ _ | refine blk_drew ?_ | refine blk_alloc ?_ _)); refine blk_put (cs := #[.bool t349, .slice none 0 0, .int .i64 0]) ?_ 1 _ rfl; (with_reducible repeat (first | refine blk_drewN ?_ _ | refine blk_drew ?_ | refine blk_alloc ?_ _)); refine blk_put (cs := #[.bool false, .slice none 0 0, .int .i64 0]) ?_ 0 _ rfl; (with_reducible repeat (first | refine blk_drewN ?_ _ | refine blk_drew ?_ | refine blk_alloc ?_ _)); exact BK354.out))⟩; have n6_ : Aside0 (Below w.heap.size w w100) := ⟨(by rw [hw]; exact (hkS HB))⟩; clear hw; clear HO346; clear HO352; clear BK328; clear BK329; clear BK348; clear BK354; clear HB; have HO346 := n0_; have HO352 := n1_; have BK328 := n2_; have BK329 := n3_; have BK348 := n4_; have BK354 := n5_; have HB := n6_; clear n0_ n1_ n2_ n3_ n4_ n5_ n6_; have hcz101_0 : w100.cell? ⟨gb348, 0, none⟩ = some (.bool t343) := (blk_cell BK348.out 0).trans rfl; have hcz101_1 : w100.cell? ⟨gb348, 1, none⟩ = some (.slice Ao91 t344.length co91) := (blk_cell BK348.out 1).trans rfl; have hcz101_2 : w100.cell? ⟨gb348, 2, none⟩ = some (.int .i64 t347) := (blk_cell BK348.out 2).trans rfl; have hfz101_0 := blk_frozen BK348.out 0; have hfz101_1 := blk_frozen BK348.out 1; have hfz101_2 := blk_frozen BK348.out 2; have hcz102_0 : w100.cell? ⟨gb354, 0, none⟩ = some (.bool t349) := (blk_cell BK354.out 0).trans rfl; have hcz102_1 : w100.cell? ⟨gb354, 1, none⟩ = some (.slice Ao99 t350.length co99) := (blk_cell BK354.out 1).trans rfl; have hcz102_2 : w100.cell? ⟨gb354, 2, none⟩ = some (.int .i64 t353) := (blk_cell BK354.out 2).trans rfl; have hfz102_0 := blk_frozen BK354.out 0; have hfz102_1 := blk_frozen BK354.out 1; have hfz102_2 := blk_frozen BK354.out 2) | ((with_reducible refine gate_callee (f := 16) rfl ?_); refine goesL_ (some 31) rfl rfl Try.func16 (by kernel_rfl) rfl #[.agg #[.bool t343, .slice Ao91 t344.length co91, .int .i64 t347], .agg #[.bool t349, .slice Ao99 t350.length co99, .int .i64 t353]] rfl hkL ?_; (with_reducible refine (impl_DyCmp.calls k t343 (fun k_ => some k_ = (.slice Ao91 t344.length co91 : Value).ownBlock) _ _ t344 t347 t349 (fun k_ => some k_ = (.slice Ao99 t350.length co99 : Value).ownBlock) _ _ t350 t353 t355 _ ?side1 ?side2 A24.out).mono ?_); (case side1 => exact Kd.R_V (Kd.R_tight rfl (Kd.R_types (Kd.R_types (Kd.R_types (Kd.R_types (HO346.out) BK328.out (by decide)) BK329.out (by decide)) BK348.out (by decide)) BK354.out (by decide)))); (case side2 => exact Kd.R_V (Kd.R_tight rfl (Kd.R_types (Kd.R_types (Kd.R_types (Kd.R_types (HO352.out) BK328.out (by decide)) BK329.out (by decide)) BK348.out (by decide)) BK354.out (by decide)))); rintro e w103 ⟨rfl, hb⟩; refine ⟨_, rfl, ?_⟩; have n0_ := hkRb HO346 hb; have n1_ := hkRb HO352 hb; have n2_ := hkBb BK328 hb; have n3_ := hkBb BK329 hb; have n4_ := hkBb BK348 hb; have n5_ := hkBb BK354 hb; have n6_ := Aside0.mk (below_step (hkS HB) hb); clear HO346; clear HO352; clear BK328; clear BK329; clear BK348; clear BK354; clear HB; have HO346 := n0_; have HO352 := n1_; have BK328 := n2_; have BK329 := n3_; have BK348 := n4_; have BK354 := n5_; have HB := n6_; clear n0_ n1_ n2_ n3_ n4_ n5_ n6_; (try clear hb); (try clear hb2); (try clear hk); (try clear hi)))
            have n0_ := Aside0.mk (Kd.R_drew HO346.out)
            have n1_ := Aside0.mk (Kd.R_drew HO352.out)
            have n2_ := Aside0.mk (blk_drew BK328.out)
            have n3_ := Aside0.mk (blk_drew BK329.out)
            have n4_ := Aside0.mk (blk_drew BK348.out)
            have n5_ := Aside0.mk (blk_drew BK354.out)
            have n6_ := Aside0.mk (below_drew1 HB.out)
            clear HO346
            clear HO352
            clear BK328
            clear BK329
            clear BK348
            clear BK354
            clear HB
            have HO346 := n0_
            have HO352 := n1_
            have BK328 := n2_
            have BK329 := n3_
            have BK348 := n4_
            have BK354 := n5_
            have HB := n6_
            clear n0_ n1_ n2_ n3_ n4_ n5_ n6_
            refine start_ (n := 5) (S := fun w' => w'.cell? ⟨gb348, 0, none⟩ = some (.bool t343) ∧ w'.cell? ⟨gb348, 1, none⟩ = some (.slice Ao91 t344.length co91) ∧ w'.cell? ⟨gb348, 2, none⟩ = some (.int .i64 t347) ∧ w'.cell? ⟨gb328, 0, none⟩ = some (.bool a0_0) ∧ w'.cell? ⟨gb328, 1, none⟩ = some (.slice A0_1 l0_1.length c0_1) ∧ w'.cell? ⟨gb328, 2, none⟩ = some (.int .i64 a0_2)) (ds := []) #[false, false, false, false, false] (by kernel_rfl) rfl rfl ⟨(blk_cell BK348.out 0).trans rfl, (blk_cell BK348.out 1).trans rfl, (blk_cell BK348.out 2).trans rfl, (blk_cell BK328.out 0).trans rfl, (blk_cell BK328.out 1).trans rfl, (blk_cell BK328.out 2).trans rfl⟩ (fun hHeld => ?_)
            generalize w103.drew = w104 at HO346 HO352 BK328 BK329 BK348 BK354 HB hHeld ⊢
            refine take_ (i := 0) (N := some 35) (v := ?_) (a' := ?_) #[true, false, false, false, false] rfl rfl (by kernel_rfl) (fun _ _ _ h => h) (Or.inl ⟨by rfl, ?_⟩) hHeld ?_ ?_
            rotate_left
            · rintro w' ⟨s0, s1, s2, s3, s4, s5⟩
              go_simp
              with_reducible rfl
            rotate_left
            · simp only [Act.put, List.setIfInBounds_toArray, List.set_cons_zero, List.set_cons_succ, i64_w, i32_w]
              rfl
            refine take_ (i := 1) (N := some 36) (v := ?_) (a' := ?_) #[true, true, false, false, false] rfl rfl (by kernel_rfl) (fun _ _ _ h => h) (Or.inl ⟨by rfl, ?_⟩) hHeld ?_ ?_
            rotate_left
            · rintro w' ⟨s0, s1, s2, s3, s4, s5⟩
              go_simp
              with_reducible rfl
            rotate_left
            · simp only [Act.put, List.setIfInBounds_toArray, List.set_cons_zero, List.set_cons_succ, i64_w, i32_w]
              rfl
            refine one_ (i := 2) (N := some 37) #[true, true, true, false, false] rfl rfl (by kernel_rfl) (by decide) (fun K hK => ?_)
            refine goes_ Try.func15 (by kernel_rfl) rfl #[.agg #[.bool a0_0, .slice A0_1 l0_1.length c0_1, .int .i64 a0_2]] (by rfl) rfl rfl hkL ?_
            with_reducible refine (laws_toDy.calls k a0_0 _ _ l0_1 a0_2 t356 t357 t360 _ ?side1 ?side2 A26.out).mono ?_
            (case side1 => repeat (first | exact (Kd.C_below HR0_1.out HB.out) | (with_reducible refine Kd.C_alloc ?_ _) | (with_reducible refine Kd.C_drewN ?_ _) | (with_reducible refine Kd.C_drew ?_)))
            (case side2 => exact HC0_1.out)
            rintro e w105 ⟨v358, rfl, ho0, hb⟩
            refine ⟨_, rfl, ?_⟩
            have n0_ := Aside0.mk (Kd.R_elder' (hkR HO346) (Kd.R_base ho0) hb)
            have n1_ := Aside0.mk (Kd.R_elder' (hkR HO352) (Kd.R_base ho0) hb)
            have n2_ := Aside0.mk (Kd.R_lower (Kd.R_new' (Kd.R_new' ho0 (Kd.R_lt (hkR HO346))) (Kd.R_lt (hkR HO352))) (below_size (hkS HB)))
            have n3_ := hkBb BK328 hb
            have n4_ := hkBb BK329 hb
            have n5_ := hkBb BK348 hb
            have n6_ := hkBb BK354 hb
            have n7_ := Aside0.mk (below_step (hkS HB) hb)
            clear HO346
            clear HO352
            clear BK328
            clear BK329
            clear BK348
            clear BK354
            clear HB
            have HO346 := n0_
            have HO352 := n1_
            have HO359 := n2_
            have BK328 := n3_
            have BK329 := n4_
            have BK348 := n5_
            have BK354 := n6_
            have HB := n7_
            clear n0_ n1_ n2_ n3_ n4_ n5_ n6_ n7_
            (try clear hb)
            (try clear hb2)
            (try clear hk)
            (try clear hi)
            (try clear ho0)
            obtain ⟨Ao106, co106, eo106⟩ := Kd.R_slice HO359.out
            (first | subst eo106 | (injection eo106 with f1_ f2_ f3_; have f4_ := f1_.symm; have f5_ := f3_.symm; clear f1_ f2_ f3_; subst f4_; subst f5_))
            refine hK.out _ _ ⟨(blk_cell BK348.out 0).trans rfl, (blk_cell BK348.out 1).trans rfl, (blk_cell BK348.out 2).trans rfl, (blk_cell BK328.out 0).trans rfl, (blk_cell BK328.out 1).trans rfl, (blk_cell BK328.out 2).trans rfl⟩ (fun hHeld => ?_)
            clear hK K
            refine norm_ (a' := ?_) ?_ ?_
            rotate_left
            · show Act.put _ (some 37) _ = _
              simp only [Act.put, List.setIfInBounds_toArray, List.set_cons_zero, List.set_cons_succ, i64_w, i32_w]
              rfl
            refine one_ (i := 3) (N := some 38) #[true, true, true, true, false] rfl rfl (by kernel_rfl) (by decide) (fun K hK => ?_)
            refine goes_ Try.func17 (by kernel_rfl) rfl #[.agg #[.bool t343, .slice Ao91 t344.length co91, .int .i64 t347], .agg #[.bool t356, .slice Ao106 t357.length co106, .int .i64 t360]] (by rfl) rfl rfl hkL ?_
            with_reducible refine (laws_eqDy.calls k t343 _ _ t344 t347 t356 _ _ t357 t360 true _ ?side1 ?side2 ?side3 ?side4 A27.out).mono ?_
            (case side1 => repeat (first | exact (Kd.R_reads' HO346.out).2.2 | (with_reducible refine Kd.C_alloc ?_ _) | (with_reducible refine Kd.C_drewN ?_ _) | (with_reducible refine Kd.C_drew ?_)))
            (case side2 => exact (Kd.R_reads' HO346.out).2.1)
            (case side3 => repeat (first | exact (Kd.R_reads' HO359.out).2.2 | (with_reducible refine Kd.C_alloc ?_ _) | (with_reducible refine Kd.C_drewN ?_ _) | (with_reducible refine Kd.C_drew ?_)))
            (case side4 => exact (Kd.R_reads' HO359.out).2.1)
            rintro e w107 ⟨rfl, hb⟩
            refine ⟨_, rfl, ?_⟩
            have n0_ := hkRb HO346 hb
            have n1_ := hkRb HO352 hb
            have n2_ := hkRb HO359 hb
            have n3_ := hkBb BK328 hb
            have n4_ := hkBb BK329 hb
            have n5_ := hkBb BK348 hb
            have n6_ := hkBb BK354 hb
            have n7_ := Aside0.mk (below_step (hkS HB) hb)
            clear HO346
            clear HO352
            clear HO359
            clear BK328
            clear BK329
            clear BK348
            clear BK354
            clear HB
            have HO346 := n0_
            have HO352 := n1_
            have HO359 := n2_
            have BK328 := n3_
            have BK329 := n4_
            have BK348 := n5_
            have BK354 := n6_
            have HB := n7_
            clear n0_ n1_ n2_ n3_ n4_ n5_ n6_ n7_
            (try clear hb)
            (try clear hb2)
            (try clear hk)
            (try clear hi)
            refine hK.out _ _ ⟨(blk_cell BK348.out 0).trans rfl, (blk_cell BK348.out 1).trans rfl, (blk_cell BK348.out 2).trans rfl, (blk_cell BK328.out 0).trans rfl, (blk_cell BK328.out 1).trans rfl, (blk_cell BK328.out 2).trans rfl⟩ (fun hHeld => ?_)
            clear hK K
            refine norm_ (a' := ?_) ?_ ?_
            rotate_left
            · show Act.put _ (some 38) _ = _
              simp only [Act.put, List.setIfInBounds_toArray, List.set_cons_zero, List.set_cons_succ, i64_w, i32_w]
              rfl
            refine pure_ (i := 4) (N := some 39) (v := ?_) (a' := ?_) #[true, true, true, true, true] rfl rfl (by kernel_rfl) (fun _ _ _ h => h) (Or.inl ⟨by rfl, ?_⟩) ?_ ?_
            rotate_left
            · intro w'
              go_simp
              with_reducible rfl
            rotate_left
            · simp only [Act.put, List.setIfInBounds_toArray, List.set_cons_zero, List.set_cons_succ, i64_w, i32_w]
              rfl
            refine done_ (by kernel_rfl) ?_
            try go_wp2
            have n0_ := Aside0.mk (Kd.R_drew HO346.out)
            have n1_ := Aside0.mk (Kd.R_drew HO352.out)
            have n2_ := Aside0.mk (Kd.R_drew HO359.out)
            have n3_ := Aside0.mk (blk_drew BK328.out)
            have n4_ := Aside0.mk (blk_drew BK329.out)
            have n5_ := Aside0.mk (blk_drew BK348.out)
            have n6_ := Aside0.mk (blk_drew BK354.out)
            have n7_ := Aside0.mk (below_drew1 HB.out)
            clear HO346
            clear HO352
            clear HO359
            clear BK328
            clear BK329
            clear BK348
            clear BK354
            clear HB
            have HO346 := n0_
            have HO352 := n1_
            have HO359 := n2_
            have BK328 := n3_
            have BK329 := n4_
            have BK348 := n5_
            have BK354 := n6_
            have HB := n7_
            clear n0_ n1_ n2_ n3_ n4_ n5_ n6_ n7_
            refine start_ (n := 5) (S := fun w' => w'.cell? ⟨gb354, 0, none⟩ = some (.bool t349) ∧ w'.cell? ⟨gb354, 1, none⟩ = some (.slice Ao99 t350.length co99) ∧ w'.cell? ⟨gb354, 2, none⟩ = some (.int .i64 t353) ∧ w'.cell? ⟨gb329, 0, none⟩ = some (.bool a1_0) ∧ w'.cell? ⟨gb329, 1, none⟩ = some (.slice A1_1 l1_1.length c1_1) ∧ w'.cell? ⟨gb329, 2, none⟩ = some (.int .i64 a1_2)) (ds := []) #[false, false, false, false, false] (by kernel_rfl) rfl rfl ⟨(blk_cell BK354.out 0).trans rfl, (blk_cell BK354.out 1).trans rfl, (blk_cell BK354.out 2).trans rfl, (blk_cell BK329.out 0).trans rfl, (blk_cell BK329.out 1).trans rfl, (blk_cell BK329.out 2).trans rfl⟩ (fun hHeld => ?_)
            generalize w107.drew = w108 at HO346 HO352 HO359 BK328 BK329 BK348 BK354 HB hHeld ⊢
            refine take_ (i := 0) (N := some 40) (v := ?_) (a' := ?_) #[true, false, false, false, false] rfl rfl (by kernel_rfl) (fun _ _ _ h => h) (Or.inl ⟨by rfl, ?_⟩) hHeld ?_ ?_
            rotate_left
            · rintro w' ⟨s0, s1, s2, s3, s4, s5⟩
              go_simp
              with_reducible rfl
            rotate_left
            · simp only [Act.put, List.setIfInBounds_toArray, List.set_cons_zero, List.set_cons_succ, i64_w, i32_w]
              rfl
            refine take_ (i := 1) (N := some 41) (v := ?_) (a' := ?_) #[true, true, false, false, false] rfl rfl (by kernel_rfl) (fun _ _ _ h => h) (Or.inl ⟨by rfl, ?_⟩) hHeld ?_ ?_
            rotate_left
            · rintro w' ⟨s0, s1, s2, s3, s4, s5⟩
              go_simp
              with_reducible rfl
            rotate_left
            · simp only [Act.put, List.setIfInBounds_toArray, List.set_cons_zero, List.set_cons_succ, i64_w, i32_w]
              rfl
            refine one_ (i := 2) (N := some 42) #[true, true, true, false, false] rfl rfl (by kernel_rfl) (by decide) (fun K hK => ?_)
            refine goes_ Try.func15 (by kernel_rfl) rfl #[.agg #[.bool a1_0, .slice A1_1 l1_1.length c1_1, .int .i64 a1_2]] (by rfl) rfl rfl hkL ?_
            with_reducible refine (laws_toDy.calls k a1_0 _ _ l1_1 a1_2 t362 t363 t366 _ ?side1 ?side2 A29.out).mono ?_
            (case side1 => repeat (first | exact (Kd.C_below HR1_1.out HB.out) | (with_reducible refine Kd.C_alloc ?_ _) | (with_reducible refine Kd.C_drewN ?_ _) | (with_reducible refine Kd.C_drew ?_)))
            (case side2 => exact HC1_1.out)
            rintro e w109 ⟨v364, rfl, ho0, hb⟩
            refine ⟨_, rfl, ?_⟩
            have n0_ := Aside0.mk (Kd.R_elder' (hkR HO346) (Kd.R_base ho0) hb)
            have n1_ := Aside0.mk (Kd.R_elder' (hkR HO352) (Kd.R_base ho0) hb)
            have n2_ := Aside0.mk (Kd.R_elder' (hkR HO359) (Kd.R_base ho0) hb)
            have n3_ := Aside0.mk (Kd.R_lower (Kd.R_new' (Kd.R_new' (Kd.R_new' ho0 (Kd.R_lt (hkR HO346))) (Kd.R_lt (hkR HO352))) (Kd.R_lt (hkR HO359))) (below_size (hkS HB)))
            have n4_ := hkBb BK328 hb
            have n5_ := hkBb BK329 hb
            have n6_ := hkBb BK348 hb
            have n7_ := hkBb BK354 hb
            have n8_ := Aside0.mk (below_step (hkS HB) hb)
            clear HO346
            clear HO352
            clear HO359
            clear BK328
            clear BK329
            clear BK348
            clear BK354
            clear HB
            have HO346 := n0_
            have HO352 := n1_
            have HO359 := n2_
            have HO365 := n3_
            have BK328 := n4_
            have BK329 := n5_
            have BK348 := n6_
            have BK354 := n7_
            have HB := n8_
            clear n0_ n1_ n2_ n3_ n4_ n5_ n6_ n7_ n8_
            (try clear hb)
            (try clear hb2)
            (try clear hk)
            (try clear hi)
            (try clear ho0)
            obtain ⟨Ao110, co110, eo110⟩ := Kd.R_slice HO365.out
            (first | subst eo110 | (injection eo110 with f1_ f2_ f3_; have f4_ := f1_.symm; have f5_ := f3_.symm; clear f1_ f2_ f3_; subst f4_; subst f5_))
            refine hK.out _ _ ⟨(blk_cell BK354.out 0).trans rfl, (blk_cell BK354.out 1).trans rfl, (blk_cell BK354.out 2).trans rfl, (blk_cell BK329.out 0).trans rfl, (blk_cell BK329.out 1).trans rfl, (blk_cell BK329.out 2).trans rfl⟩ (fun hHeld => ?_)
            clear hK K
            refine norm_ (a' := ?_) ?_ ?_
            rotate_left
            · show Act.put _ (some 42) _ = _
              simp only [Act.put, List.setIfInBounds_toArray, List.set_cons_zero, List.set_cons_succ, i64_w, i32_w]
              rfl
            refine one_ (i := 3) (N := some 43) #[true, true, true, true, false] rfl rfl (by kernel_rfl) (by decide) (fun K hK => ?_)
            refine goes_ Try.func17 (by kernel_rfl) rfl #[.agg #[.bool t349, .slice Ao99 t350.length co99, .int .i64 t353], .agg #[.bool t362, .slice Ao110 t363.length co110, .int .i64 t366]] (by rfl) rfl rfl hkL ?_
            with_reducible refine (laws_eqDy.calls k t349 _ _ t350 t353 t362 _ _ t363 t366 false _ ?side1 ?side2 ?side3 ?side4 A30.out).mono ?_
            (case side1 => repeat (first | exact (Kd.R_reads' HO352.out).2.2 | (with_reducible refine Kd.C_alloc ?_ _) | (with_reducible refine Kd.C_drewN ?_ _) | (with_reducible refine Kd.C_drew ?_)))
            (case side2 => exact (Kd.R_reads' HO352.out).2.1)
            (case side3 => repeat (first | exact (Kd.R_reads' HO365.out).2.2 | (with_reducible refine Kd.C_alloc ?_ _) | (with_reducible refine Kd.C_drewN ?_ _) | (with_reducible refine Kd.C_drew ?_)))
            (case side4 => exact (Kd.R_reads' HO365.out).2.1)
            rintro e w111 ⟨rfl, hb⟩
            refine ⟨_, rfl, ?_⟩
            have n0_ := hkRb HO346 hb
            have n1_ := hkRb HO352 hb
            have n2_ := hkRb HO359 hb
            have n3_ := hkRb HO365 hb
            have n4_ := hkBb BK328 hb
            have n5_ := hkBb BK329 hb
            have n6_ := hkBb BK348 hb
            have n7_ := hkBb BK354 hb
            have n8_ := Aside0.mk (below_step (hkS HB) hb)
            clear HO346
            clear HO352
            clear HO359
            clear HO365
            clear BK328
            clear BK329
            clear BK348
            clear BK354
            clear HB
            have HO346 := n0_
            have HO352 := n1_
            have HO359 := n2_
            have HO365 := n3_
            have BK328 := n4_
            have BK329 := n5_
            have BK348 := n6_
            have BK354 := n7_
            have HB := n8_
            clear n0_ n1_ n2_ n3_ n4_ n5_ n6_ n7_ n8_
            (try clear hb)
            (try clear hb2)
            (try clear hk)
            (try clear hi)
            refine hK.out _ _ ⟨(blk_cell BK354.out 0).trans rfl, (blk_cell BK354.out 1).trans rfl, (blk_cell BK354.out 2).trans rfl, (blk_cell BK329.out 0).trans rfl, (blk_cell BK329.out 1).trans rfl, (blk_cell BK329.out 2).trans rfl⟩ (fun hHeld => ?_)
            clear hK K
            refine norm_ (a' := ?_) ?_ ?_
            rotate_left
            · show Act.put _ (some 43) _ = _
              simp only [Act.put, List.setIfInBounds_toArray, List.set_cons_zero, List.set_cons_succ, i64_w, i32_w]
              rfl
            refine pure_ (i := 4) (N := some 44) (v := ?_) (a' := ?_) #[true, true, true, true, true] rfl rfl (by kernel_rfl) (fun _ _ _ h => h) (Or.inl ⟨by rfl, ?_⟩) ?_ ?_
            rotate_left
            · intro w'
              go_simp
              with_reducible rfl
            rotate_left
            · simp only [Act.put, List.setIfInBounds_toArray, List.set_cons_zero, List.set_cons_succ, i64_w, i32_w]
              rfl
            refine done_ (by kernel_rfl) ?_
            try go_wp2
            go_ret
            exact ⟨by first | rfl | (simp [errW_none, errW_some] <;> rfl) | (simp [*, errW_none, errW_some] <;> rfl), by repeat (first | (with_reducible first | exact HB.out | apply below_alloc | apply pw_below_drewN | apply below_drew1 | refine below_set ?_ GE328.out | refine below_set ?_ GE329.out | refine below_set ?_ GE348.out | refine below_set ?_ GE354.out) | exact HB.out)⟩
        · replace c28 := Bool.eq_false_iff.mpr c28
          subst c28
          have H1 : (some false) = some r := by rw [if_neg (show ¬ (false = true) by decide)] at H; exact H
          clear H
          have H := H1
          clear H1
          obtain rfl := Option.some.inj H
          go_enter Try.func4, Try.ntmps4
          try go_wp2_with (first | ((with_reducible refine gate_dst (N := 2) rfl ?_); refine box_event ?hg (N := 2) ?hd (cs := #[.bool a0_0, .slice A0_1 l0_1.length c0_1, .int .i64 a0_2]) (t := 35) ?hr ?_; (case hd => rfl); (case hg => rfl); (case hr => first | (go_simp; done) | (go_simp; rfl)); intro gb328 hg w112 hbox hb; have n0_ := Aside0.mk (below_step (hkS HB) hb); have n1_ := Aside0.mk (hbox); have n2_ := hkG hg (hkS HB); have n3_ := hkG hg (hkS HB); clear HB; have HB := n0_; have BK328 := n1_; have GW328 := n2_; have GE328 := n3_; clear n0_ n1_ n2_ n3_; clear hb hbox hg) | ((with_reducible refine gate_dst (N := 3) rfl ?_); refine box_event ?hg (N := 3) ?hd (cs := #[.bool a1_0, .slice A1_1 l1_1.length c1_1, .int .i64 a1_2]) (t := 35) ?hr ?_; (case hd => rfl); (case hg => rfl); (case hr => first | (go_simp; done) | (go_simp; rfl)); intro gb329 hg w113 hbox hb; have n0_ := hkBb BK328 hb; have n1_ := Aside0.mk (below_step (hkS HB) hb); have n2_ := Aside0.mk (hbox); have n3_ := hkG hg (hkS HB); have n4_ := hkG hg (hkS HB); have n5_ := hkN hg BK328; have n6_ := hkM hg BK328; clear BK328; clear HB; have BK328 := n0_; have HB := n1_; have BK329 := n2_; have GW329 := n3_; have GE329 := n4_; have NB328_329 := n5_; have NB329_328 := n6_; clear n0_ n1_ n2_ n3_ n4_ n5_ n6_; clear hb hbox hg; have hnb114 := NB328_329.out; have hnc114 := NB329_328.out; have hcz115_0 : w113.cell? ⟨gb328, 0, none⟩ = some (.bool a0_0) := (blk_cell BK328.out 0).trans rfl; have hcz115_1 : w113.cell? ⟨gb328, 1, none⟩ = some (.slice A0_1 l0_1.length c0_1) := (blk_cell BK328.out 1).trans rfl; have hcz115_2 : w113.cell? ⟨gb328, 2, none⟩ = some (.int .i64 a0_2) := (blk_cell BK328.out 2).trans rfl; have hfz115_0 := blk_frozen BK328.out 0; have hfz115_1 := blk_frozen BK328.out 1; have hfz115_2 := blk_frozen BK328.out 2) | ((with_reducible refine gate_callee (f := 13) rfl ?_); refine goesL_ (some 12) rfl rfl Try.func13 (by kernel_rfl) rfl #[.agg #[.bool a0_0, .slice A0_1 l0_1.length c0_1, .int .i64 a0_2], .int .i64 1048576] rfl hkL ?_; (with_reducible refine (laws_szDy.calls a0_0 _ _ l0_1 a0_2 1048576 t330 _ ?side1 ?side2 A3.out).mono ?_); (case side1 => repeat (first | exact (Kd.C_below HR0_1.out HB.out) | (with_reducible refine Kd.C_alloc ?_ _) | (with_reducible refine Kd.C_drewN ?_ _) | (with_reducible refine Kd.C_drew ?_))); (case side2 => exact HC0_1.out); rintro e w116 ⟨rfl, hb⟩; refine ⟨_, rfl, ?_⟩; have n0_ := hkBb BK328 hb; have n1_ := hkBb BK329 hb; have n2_ := Aside0.mk (below_step (hkS HB) hb); clear BK328; clear BK329; clear HB; have BK328 := n0_; have BK329 := n1_; have HB := n2_; clear n0_ n1_ n2_; (try clear hb); (try clear hb2); (try clear hk); (try clear hi); have hcz117_0 : w116.cell? ⟨gb329, 0, none⟩ = some (.bool a1_0) := (blk_cell BK329.out 0).trans rfl; have hcz117_1 : w116.cell? ⟨gb329, 1, none⟩ = some (.slice A1_1 l1_1.length c1_1) := (blk_cell BK329.out 1).trans rfl; have hcz117_2 : w116.cell? ⟨gb329, 2, none⟩ = some (.int .i64 a1_2) := (blk_cell BK329.out 2).trans rfl; have hfz117_0 := blk_frozen BK329.out 0; have hfz117_1 := blk_frozen BK329.out 1; have hfz117_2 := blk_frozen BK329.out 2) | ((with_reducible refine gate_callee (f := 13) rfl ?_); refine goesL_ (some 17) rfl rfl Try.func13 (by kernel_rfl) rfl #[.agg #[.bool a1_0, .slice A1_1 l1_1.length c1_1, .int .i64 a1_2], .int .i64 t330] rfl hkL ?_; (with_reducible refine (laws_szDy.calls a1_0 _ _ l1_1 a1_2 t330 t331 _ ?side1 ?side2 A10.out).mono ?_); (case side1 => repeat (first | exact (Kd.C_below HR1_1.out HB.out) | (with_reducible refine Kd.C_alloc ?_ _) | (with_reducible refine Kd.C_drewN ?_ _) | (with_reducible refine Kd.C_drew ?_))); (case side2 => exact HC1_1.out); rintro e w118 ⟨rfl, hb⟩; refine ⟨_, rfl, ?_⟩; have n0_ := hkBb BK328 hb; have n1_ := hkBb BK329 hb; have n2_ := Aside0.mk (below_step (hkS HB) hb); clear BK328; clear BK329; clear HB; have BK328 := n0_; have BK329 := n1_; have HB := n2_; clear n0_ n1_ n2_; (try clear hb); (try clear hb2); (try clear hk); (try clear hi)))
          have n0_ := Aside0.mk (blk_drew BK328.out)
          have n1_ := Aside0.mk (blk_drew BK329.out)
          have n2_ := Aside0.mk (below_drew1 HB.out)
          clear BK328
          clear BK329
          clear HB
          have BK328 := n0_
          have BK329 := n1_
          have HB := n2_
          clear n0_ n1_ n2_
          refine start_ (n := 6) (S := fun w' => w'.cell? ⟨gb328, 0, none⟩ = some (.bool a0_0) ∧ w'.cell? ⟨gb328, 1, none⟩ = some (.slice A0_1 l0_1.length c0_1) ∧ w'.cell? ⟨gb328, 2, none⟩ = some (.int .i64 a0_2) ∧ w'.cell? ⟨gb329, 0, none⟩ = some (.bool a1_0) ∧ w'.cell? ⟨gb329, 1, none⟩ = some (.slice A1_1 l1_1.length c1_1) ∧ w'.cell? ⟨gb329, 2, none⟩ = some (.int .i64 a1_2)) (ds := []) #[false, false, false, false, false, false] (by kernel_rfl) rfl rfl ⟨(blk_cell BK328.out 0).trans rfl, (blk_cell BK328.out 1).trans rfl, (blk_cell BK328.out 2).trans rfl, (blk_cell BK329.out 0).trans rfl, (blk_cell BK329.out 1).trans rfl, (blk_cell BK329.out 2).trans rfl⟩ (fun hHeld => ?_)
          generalize w118.drew = w119 at BK328 BK329 HB hHeld ⊢
          refine take_ (i := 0) (N := some 20) (v := ?_) (a' := ?_) #[true, false, false, false, false, false] rfl rfl (by kernel_rfl) (fun _ _ _ h => h) (Or.inl ⟨by rfl, ?_⟩) hHeld ?_ ?_
          rotate_left
          · rintro w' ⟨s0, s1, s2, s3, s4, s5⟩
            go_simp
            with_reducible rfl
          rotate_left
          · simp only [Act.put, List.setIfInBounds_toArray, List.set_cons_zero, List.set_cons_succ, i64_w, i32_w]
            rfl
          refine take_ (i := 2) (N := some 22) (v := ?_) (a' := ?_) #[true, false, true, false, false, false] rfl rfl (by kernel_rfl) (fun _ _ _ h => h) (Or.inl ⟨by rfl, ?_⟩) hHeld ?_ ?_
          rotate_left
          · rintro w' ⟨s0, s1, s2, s3, s4, s5⟩
            go_simp
            with_reducible rfl
          rotate_left
          · simp only [Act.put, List.setIfInBounds_toArray, List.set_cons_zero, List.set_cons_succ, i64_w, i32_w]
            rfl
          refine one_ (i := 1) (N := some 21) #[true, true, true, false, false, false] rfl rfl (by kernel_rfl) (by decide) (fun K hK => ?_)
          refine goes_ Try.func15 (by kernel_rfl) rfl #[.agg #[.bool a0_0, .slice A0_1 l0_1.length c0_1, .int .i64 a0_2]] (by rfl) rfl rfl hkL ?_
          with_reducible refine (laws_toDy.calls k a0_0 _ _ l0_1 a0_2 t332 t333 t336 _ ?side1 ?side2 A19.out).mono ?_
          (case side1 => repeat (first | exact (Kd.C_below HR0_1.out HB.out) | (with_reducible refine Kd.C_alloc ?_ _) | (with_reducible refine Kd.C_drewN ?_ _) | (with_reducible refine Kd.C_drew ?_)))
          (case side2 => exact HC0_1.out)
          rintro e w120 ⟨v334, rfl, ho0, hb⟩
          refine ⟨_, rfl, ?_⟩
          have n0_ := Aside0.mk (Kd.R_lower ho0 (below_size (hkS HB)))
          have n1_ := hkBb BK328 hb
          have n2_ := hkBb BK329 hb
          have n3_ := Aside0.mk (below_step (hkS HB) hb)
          clear BK328
          clear BK329
          clear HB
          have HO335 := n0_
          have BK328 := n1_
          have BK329 := n2_
          have HB := n3_
          clear n0_ n1_ n2_ n3_
          (try clear hb)
          (try clear hb2)
          (try clear hk)
          (try clear hi)
          (try clear ho0)
          refine hK.out _ _ ⟨(blk_cell BK328.out 0).trans rfl, (blk_cell BK328.out 1).trans rfl, (blk_cell BK328.out 2).trans rfl, (blk_cell BK329.out 0).trans rfl, (blk_cell BK329.out 1).trans rfl, (blk_cell BK329.out 2).trans rfl⟩ (fun hHeld => ?_)
          clear hK K
          refine norm_ (a' := ?_) ?_ ?_
          rotate_left
          · show Act.put _ (some 21) _ = _
            simp only [Act.put, List.setIfInBounds_toArray, List.set_cons_zero, List.set_cons_succ, i64_w, i32_w]
            rfl
          refine one_ (i := 3) (N := some 23) #[true, true, true, true, false, false] rfl rfl (by kernel_rfl) (by decide) (fun K hK => ?_)
          refine goes_ Try.func15 (by kernel_rfl) rfl #[.agg #[.bool a1_0, .slice A1_1 l1_1.length c1_1, .int .i64 a1_2]] (by rfl) rfl rfl hkL ?_
          with_reducible refine (laws_toDy.calls k a1_0 _ _ l1_1 a1_2 t337 t338 t341 _ ?side1 ?side2 A20.out).mono ?_
          (case side1 => repeat (first | exact (Kd.C_below HR1_1.out HB.out) | (with_reducible refine Kd.C_alloc ?_ _) | (with_reducible refine Kd.C_drewN ?_ _) | (with_reducible refine Kd.C_drew ?_)))
          (case side2 => exact HC1_1.out)
          rintro e w121 ⟨v339, rfl, ho0, hb⟩
          refine ⟨_, rfl, ?_⟩
          have n0_ := Aside0.mk (Kd.R_elder' (hkR HO335) (Kd.R_base ho0) hb)
          have n1_ := Aside0.mk (Kd.R_lower (Kd.R_new' ho0 (Kd.R_lt (hkR HO335))) (below_size (hkS HB)))
          have n2_ := hkBb BK328 hb
          have n3_ := hkBb BK329 hb
          have n4_ := Aside0.mk (below_step (hkS HB) hb)
          clear HO335
          clear BK328
          clear BK329
          clear HB
          have HO335 := n0_
          have HO340 := n1_
          have BK328 := n2_
          have BK329 := n3_
          have HB := n4_
          clear n0_ n1_ n2_ n3_ n4_
          (try clear hb)
          (try clear hb2)
          (try clear hk)
          (try clear hi)
          (try clear ho0)
          obtain ⟨Ao122, co122, eo122⟩ := Kd.R_slice HO335.out
          (first | subst eo122 | (injection eo122 with f1_ f2_ f3_; have f4_ := f1_.symm; have f5_ := f3_.symm; clear f1_ f2_ f3_; subst f4_; subst f5_))
          obtain ⟨Ao123, co123, eo123⟩ := Kd.R_slice HO340.out
          (first | subst eo123 | (injection eo123 with f1_ f2_ f3_; have f4_ := f1_.symm; have f5_ := f3_.symm; clear f1_ f2_ f3_; subst f4_; subst f5_))
          refine hK.out _ _ ⟨(blk_cell BK328.out 0).trans rfl, (blk_cell BK328.out 1).trans rfl, (blk_cell BK328.out 2).trans rfl, (blk_cell BK329.out 0).trans rfl, (blk_cell BK329.out 1).trans rfl, (blk_cell BK329.out 2).trans rfl⟩ (fun hHeld => ?_)
          clear hK K
          refine norm_ (a' := ?_) ?_ ?_
          rotate_left
          · show Act.put _ (some 23) _ = _
            simp only [Act.put, List.setIfInBounds_toArray, List.set_cons_zero, List.set_cons_succ, i64_w, i32_w]
            rfl
          refine one_ (i := 4) (N := some 24) #[true, true, true, true, true, false] rfl rfl (by kernel_rfl) (by decide) (fun K hK => ?_)
          refine goes_ Try.func14 (by kernel_rfl) rfl #[.agg #[.bool t332, .slice Ao122 t333.length co122, .int .i64 t336], .agg #[.bool t337, .slice Ao123 t338.length co123, .int .i64 t341]] (by rfl) rfl rfl hkL ?_
          with_reducible refine (spec_DyCmp.calls k t332 (fun k_ => some k_ = (.slice Ao122 t333.length co122 : Value).ownBlock) (.slice Ao122 t333.length co122) t333 t336 t337 (fun k_ => some k_ = (.slice Ao123 t338.length co123 : Value).ownBlock) (.slice Ao123 t338.length co123) t338 t341 t342 w _ ?side1 ?side2 ?side3 ?side4 ?side5 A21.out).mono ?_
          (case side1 => repeat (first | (with_reducible first | exact HB.out | apply below_alloc | apply pw_below_drewN | apply below_drew1 | refine below_set ?_ GE328.out | refine below_set ?_ GE329.out) | exact HB.out))
          (case side2 => exact Kd.R_tight rfl HO335.out)
          (case side3 => exact fun k_ e_ => (HO335.out.1 k_ e_.symm).2)
          (case side4 => exact Kd.R_tight rfl HO340.out)
          (case side5 => exact fun k_ e_ => (HO340.out.1 k_ e_.symm).2)
          rintro e w124 ⟨rfl, hb, hkp⟩
          refine ⟨_, rfl, ?_⟩
          have n0_ := Aside0.mk (blk_kept (hkB BK328) hkp (fun hs_ => Or.elim hs_ (fun e_ => (fun e_ => (Kd.R_ne HO335.out BK328.out (by decide)) e_) e_) (fun e_ => (fun e_ => (Kd.R_ne HO340.out BK328.out (by decide)) e_) e_)))
          have n1_ := Aside0.mk (blk_kept (hkB BK329) hkp (fun hs_ => Or.elim hs_ (fun e_ => (fun e_ => (Kd.R_ne HO335.out BK329.out (by decide)) e_) e_) (fun e_ => (fun e_ => (Kd.R_ne HO340.out BK329.out (by decide)) e_) e_)))
          have n2_ := Aside0.mk (hb)
          clear BK328
          clear BK329
          clear HB
          clear HO335
          clear HO340
          have BK328 := n0_
          have BK329 := n1_
          have HB := n2_
          clear n0_ n1_ n2_
          (try clear hb)
          (try clear hkp)
          refine hK.out _ _ ⟨(blk_cell BK328.out 0).trans rfl, (blk_cell BK328.out 1).trans rfl, (blk_cell BK328.out 2).trans rfl, (blk_cell BK329.out 0).trans rfl, (blk_cell BK329.out 1).trans rfl, (blk_cell BK329.out 2).trans rfl⟩ (fun hHeld => ?_)
          clear hK K
          refine norm_ (a' := ?_) ?_ ?_
          rotate_left
          · show Act.put _ (some 24) _ = _
            simp only [Act.put, List.setIfInBounds_toArray, List.set_cons_zero, List.set_cons_succ, i64_w, i32_w]
            rfl
          refine pure_ (i := 5) (N := some 6) (v := ?_) (a' := ?_) #[true, true, true, true, true, true] rfl rfl (by kernel_rfl) (fun _ _ _ h => h) (Or.inl ⟨by rfl, ?_⟩) ?_ ?_
          rotate_left
          · intro w'
            go_simp
            with_reducible rfl
          rotate_left
          · simp only [Act.put, List.setIfInBounds_toArray, List.set_cons_zero, List.set_cons_succ, i64_w, i32_w]
            rfl
          refine done_ (by kernel_rfl) ?_
          have hcz125_0 : w124.cell? ⟨gb328, 0, none⟩ = some (.bool a0_0) := (blk_cell BK328.out 0).trans rfl
          have hcz125_1 : w124.cell? ⟨gb328, 1, none⟩ = some (.slice A0_1 l0_1.length c0_1) := (blk_cell BK328.out 1).trans rfl
          have hcz125_2 : w124.cell? ⟨gb328, 2, none⟩ = some (.int .i64 a0_2) := (blk_cell BK328.out 2).trans rfl
          have hfz125_0 := blk_frozen BK328.out 0
          have hfz125_1 := blk_frozen BK328.out 1
          have hfz125_2 := blk_frozen BK328.out 2
          try go_wp2_with (first | ((with_reducible refine gate_callee (f := 15) rfl ?_); refine goesL_ (some 26) rfl rfl Try.func15 (by kernel_rfl) rfl #[.agg #[.bool a0_0, .slice A0_1 l0_1.length c0_1, .int .i64 a0_2]] rfl hkL ?_; (with_reducible refine (laws_toDy.calls k a0_0 _ _ l0_1 a0_2 t343 t344 t347 _ ?side1 ?side2 A22.out).mono ?_); (case side1 => repeat (first | exact (Kd.C_below HR0_1.out HB.out) | (with_reducible refine Kd.C_alloc ?_ _) | (with_reducible refine Kd.C_drewN ?_ _) | (with_reducible refine Kd.C_drew ?_))); (case side2 => exact HC0_1.out); rintro e w126 ⟨v345, rfl, ho0, hb⟩; refine ⟨_, rfl, ?_⟩; have n0_ := Aside0.mk (Kd.R_lower ho0 (below_size (hkS HB))); have n1_ := hkBb BK328 hb; have n2_ := hkBb BK329 hb; have n3_ := Aside0.mk (below_step (hkS HB) hb); clear BK328; clear BK329; clear HB; have HO346 := n0_; have BK328 := n1_; have BK329 := n2_; have HB := n3_; clear n0_ n1_ n2_ n3_; (try clear hb); (try clear hb2); (try clear hk); (try clear hi); (try clear ho0)) | ((with_reducible refine gate_dst (N := 7) rfl ?_); refine box_event ?hg (N := 7) ?hd (cs := #[.bool false, .slice none 0 0, .int .i64 0]) (t := 42) ?hr ?_; (case hd => rfl); (case hg => rfl); (case hr => first | (go_simp; done) | (go_simp; rfl)); intro gb348 hg w127 hbox hb; have n0_ := hkRb HO346 hb; have n1_ := hkBb BK328 hb; have n2_ := hkBb BK329 hb; have n3_ := Aside0.mk (below_step (hkS HB) hb); have n4_ := Aside0.mk (hbox); have n5_ := hkG hg (hkS HB); have n6_ := hkG hg (hkS HB); have n7_ := hkN hg BK328; have n8_ := hkM hg BK328; have n9_ := hkN hg BK329; have n10_ := hkM hg BK329; clear HO346; clear BK328; clear BK329; clear HB; have HO346 := n0_; have BK328 := n1_; have BK329 := n2_; have HB := n3_; have BK348 := n4_; have GW348 := n5_; have GE348 := n6_; have NB328_348 := n7_; have NB348_328 := n8_; have NB329_348 := n9_; have NB348_329 := n10_; clear n0_ n1_ n2_ n3_ n4_ n5_ n6_ n7_ n8_ n9_ n10_; clear hb hbox hg; have hnb128 := NB348_328.out; have hnc128 := NB328_348.out; have hnb129 := NB348_329.out; have hnc129 := NB329_348.out; have hcz130_0 : w127.cell? ⟨gb348, 0, none⟩ = some (.bool false) := (blk_cell BK348.out 0).trans rfl; have hcz130_1 : w127.cell? ⟨gb348, 1, none⟩ = some (.slice none 0 0) := (blk_cell BK348.out 1).trans rfl; have hcz130_2 : w127.cell? ⟨gb348, 2, none⟩ = some (.int .i64 0) := (blk_cell BK348.out 2).trans rfl; have hfz130_0 := blk_frozen BK348.out 0; have hfz130_1 := blk_frozen BK348.out 1; have hfz130_2 := blk_frozen BK348.out 2; obtain ⟨Ao131, co131, eo131⟩ := Kd.R_slice HO346.out; subst eo131; have hcz132_0 : w127.cell? ⟨gb329, 0, none⟩ = some (.bool a1_0) := (blk_cell BK329.out 0).trans rfl; have hcz132_1 : w127.cell? ⟨gb329, 1, none⟩ = some (.slice A1_1 l1_1.length c1_1) := (blk_cell BK329.out 1).trans rfl; have hcz132_2 : w127.cell? ⟨gb329, 2, none⟩ = some (.int .i64 a1_2) := (blk_cell BK329.out 2).trans rfl; have hfz132_0 := blk_frozen BK329.out 0; have hfz132_1 := blk_frozen BK329.out 1; have hfz132_2 := blk_frozen BK329.out 2) | ((with_reducible refine gate_callee (f := 15) rfl ?_); refine goesL_ (some 28) rfl rfl Try.func15 (by kernel_rfl) rfl #[.agg #[.bool a1_0, .slice A1_1 l1_1.length c1_1, .int .i64 a1_2]] rfl hkL ?_; (with_reducible refine (laws_toDy.calls k a1_0 _ _ l1_1 a1_2 t349 t350 t353 _ ?side1 ?side2 A23.out).mono ?_); (case side1 => exact Kd.C_below HR1_1.out (hkS HB)); (case side2 => exact HC1_1.out); rintro e w133 ⟨v351, rfl, ho0, hb⟩; refine ⟨_, rfl, ?_⟩; have n0_ := Aside0.mk (Kd.R_elder' (by (with_reducible repeat (first | apply Kd.R_alloc | apply Kd.R_drewN | apply Kd.R_drew)); exact (Kd.R_mono (Kd.R_far (p := ⟨gb348, 2, none⟩) (Kd.R_far (p := ⟨gb348, 1, none⟩) (Kd.R_far (p := ⟨gb348, 0, none⟩) (Kd.R_types HO346.out BK348.out (by decide)) (fun _ hk => hk.2) (.bool t343)) (fun _ hk => hk.2) (.slice Ao131 t344.length co131)) (fun _ hk => hk.2) (.int .i64 t347)) (fun _ h_ => h_.1))) (Kd.R_base ho0) hb); have n1_ := Aside0.mk (Kd.R_lower (Kd.R_new' ho0 (Kd.R_lt (by (with_reducible repeat (first | apply Kd.R_alloc | apply Kd.R_drewN | apply Kd.R_drew)); exact (Kd.R_mono (Kd.R_far (p := ⟨gb348, 2, none⟩) (Kd.R_far (p := ⟨gb348, 1, none⟩) (Kd.R_far (p := ⟨gb348, 0, none⟩) (Kd.R_types HO346.out BK348.out (by decide)) (fun _ hk => hk.2) (.bool t343)) (fun _ hk => hk.2) (.slice Ao131 t344.length co131)) (fun _ hk => hk.2) (.int .i64 t347)) (fun _ h_ => h_.1))))) (below_size (hkS HB))); have n2_ := Aside0.mk (blk_below (g := gb328) (o := .cells #[.bool a0_0, .slice A0_1 l0_1.length c0_1, .int .i64 a0_2] 35 (0, 0)) (by (with_reducible repeat (first | refine blk_drewN ?_ _ | refine blk_drew ?_ | refine blk_alloc ?_ _)); refine blk_far ?_ NB328_348.out _; (with_reducible repeat (first | refine blk_drewN ?_ _ | refine blk_drew ?_ | refine blk_alloc ?_ _)); refine blk_far ?_ NB328_348.out _; (with_reducible repeat (first | refine blk_drewN ?_ _ | refine blk_drew ?_ | refine blk_alloc ?_ _)); refine blk_far ?_ NB328_348.out _; (with_reducible repeat (first | refine blk_drewN ?_ _ | refine blk_drew ?_ | refine blk_alloc ?_ _)); exact BK328.out) hb); have n3_ := Aside0.mk (blk_below (g := gb329) (o := .cells #[.bool a1_0, .slice A1_1 l1_1.length c1_1, .int .i64 a1_2] 35 (0, 0)) (by (with_reducible repeat (first | refine blk_drewN ?_ _ | refine blk_drew ?_ | refine blk_alloc ?_ _)); refine blk_far ?_ NB329_348.out _; (with_reducible repeat (first | refine blk_drewN ?_ _ | refine blk_drew ?_ | refine blk_alloc ?_ _)); refine blk_far ?_ NB329_348.out _; (with_reducible repeat (first | refine blk_drewN ?_ _ | refine blk_drew ?_ | refine blk_alloc ?_ _)); refine blk_far ?_ NB329_348.out _; (with_reducible repeat (first | refine blk_drewN ?_ _ | refine blk_drew ?_ | refine blk_alloc ?_ _)); exact BK329.out) hb); have n4_ := Aside0.mk (blk_below (g := gb348) (o := .cells #[.bool t343, .slice Ao131 t344.length co131, .int .i64 t347] 42 (0, 0)) (by (with_reducible repeat (first | refine blk_drewN ?_ _ | refine blk_drew ?_ | refine blk_alloc ?_ _)); refine blk_put (cs := #[.bool t343, .slice Ao131 t344.length co131, .int .i64 0]) ?_ 2 _ rfl; (with_reducible repeat (first | refine blk_drewN ?_ _ | refine blk_drew ?_ | refine blk_alloc ?_ _)); refine blk_put (cs := #[.bool t343, .slice none 0 0, .int .i64 0]) ?_ 1 _ rfl; (with_reducible repeat (first | refine blk_drewN ?_ _ | refine blk_drew ?_ | refine blk_alloc ?_ _)); refine blk_put (cs := #[.bool false, .slice none 0 0, .int .i64 0]) ?_ 0 _ rfl; (with_reducible repeat (first | refine blk_drewN ?_ _ | refine blk_drew ?_ | refine blk_alloc ?_ _)); exact BK348.out) hb); have n5_ := Aside0.mk (below_step (hkS HB) hb); clear HO346; clear BK328; clear BK329; clear BK348; clear HB; have HO346 := n0_; have HO352 := n1_; have BK328 := n2_; have BK329 := n3_; have BK348 := n4_; have HB := n5_; clear n0_ n1_ n2_ n3_ n4_ n5_; (try clear hb); (try clear hb2); (try clear hk); (try clear hi); (try clear ho0)) | ((with_reducible refine gate_dst (N := 8) rfl ?_); refine box_event ?hg (N := 8) ?hd (cs := #[.bool false, .slice none 0 0, .int .i64 0]) (t := 42) ?hr ?_; (case hd => rfl); (case hg => rfl); (case hr => first | (go_simp; done) | (go_simp; rfl)); intro gb354 hg w134 hbox hb; have n0_ := hkRb HO346 hb; have n1_ := hkRb HO352 hb; have n2_ := hkBb BK328 hb; have n3_ := hkBb BK329 hb; have n4_ := hkBb BK348 hb; have n5_ := Aside0.mk (below_step (hkS HB) hb); have n6_ := Aside0.mk (hbox); have n7_ := hkG hg (hkS HB); have n8_ := hkG hg (hkS HB); have n9_ := hkN hg BK328; have n10_ := hkM hg BK328; have n11_ := hkN hg BK329; have n12_ := hkM hg BK329; have n13_ := hkN hg BK348; have n14_ := hkM hg BK348; clear HO346; clear HO352; clear BK328; clear BK329; clear BK348; clear HB; have HO346 := n0_; have HO352 := n1_; have BK328 := n2_; have BK329 := n3_; have BK348 := n4_; have HB := n5_; have BK354 := n6_; have GW354 := n7_; have GE354 := n8_; have NB328_354 := n9_; have NB354_328 := n10_; have NB329_354 := n11_; have NB354_329 := n12_; have NB348_354 := n13_; have NB354_348 := n14_; clear n0_ n1_ n2_ n3_ n4_ n5_ n6_ n7_ n8_ n9_ n10_ n11_ n12_ n13_ n14_; clear hb hbox hg; have hnb135 := NB354_328.out; have hnc135 := NB328_354.out; have hnb136 := NB354_329.out; have hnc136 := NB329_354.out; have hnb137 := NB354_348.out; have hnc137 := NB348_354.out; have hcz138_0 : w134.cell? ⟨gb354, 0, none⟩ = some (.bool false) := (blk_cell BK354.out 0).trans rfl; have hcz138_1 : w134.cell? ⟨gb354, 1, none⟩ = some (.slice none 0 0) := (blk_cell BK354.out 1).trans rfl; have hcz138_2 : w134.cell? ⟨gb354, 2, none⟩ = some (.int .i64 0) := (blk_cell BK354.out 2).trans rfl; have hfz138_0 := blk_frozen BK354.out 0; have hfz138_1 := blk_frozen BK354.out 1; have hfz138_2 := blk_frozen BK354.out 2; obtain ⟨Ao139, co139, eo139⟩ := Kd.R_slice HO352.out; subst eo139) | ((with_reducible refine gate_store (t := 42) (p := 8) rfl ?_); refine store_event (t := 42) (p := 8) (v := ?vo_w140) (w1 := (((w134.setCell ⟨gb354, 0, none⟩ (.bool t349)).setCell ⟨gb354, 1, none⟩ (.slice Ao139 t350.length co139)).setCell ⟨gb354, 2, none⟩ (.int .i64 t353))) ?hg ?ho ?hn ?hr ?_; (case ho => rfl); (case hg => rfl); (case hn => rfl); (case hr => first | (go_simp; done) | (go_simp; rfl)); intro w140 hw; have n0_ : Aside0 (Kd.R (Kd.int .i64) 3 w140 w.heap.size (fun k_ => some k_ ≠ (.slice Ao139 t350.length co139 : Value).ownBlock) (.slice Ao131 t344.length co131) t344) := ⟨(by rw [hw]; exact (by (with_reducible repeat (first | apply Kd.R_alloc | apply Kd.R_drewN | apply Kd.R_drew)); exact Kd.R_mono (Kd.R_far (p := ⟨gb354, 2, none⟩) (Kd.R_far (p := ⟨gb354, 1, none⟩) (Kd.R_far (p := ⟨gb354, 0, none⟩) (Kd.R_types HO346.out BK354.out (by decide)) (fun _ hk => hk.2) (.bool t349)) (fun _ hk => hk.2) (.slice Ao139 t350.length co139)) (fun _ hk => hk.2) (.int .i64 t353)) (fun _ hk => hk.1.2)))⟩; have n1_ : Aside0 (Kd.R (Kd.int .i64) 3 w140 w.heap.size (fun k_ => some k_ ≠ (.slice Ao131 t344.length co131 : Value).ownBlock) (.slice Ao139 t350.length co139) t350) := ⟨(by rw [hw]; exact (by (with_reducible repeat (first | apply Kd.R_alloc | apply Kd.R_drewN | apply Kd.R_drew)); exact Kd.R_mono (Kd.R_far (p := ⟨gb354, 2, none⟩) (Kd.R_far (p := ⟨gb354, 1, none⟩) (Kd.R_far (p := ⟨gb354, 0, none⟩) (Kd.R_types HO352.out BK354.out (by decide)) (fun _ hk => hk.2) (.bool t349)) (fun _ hk => hk.2) (.slice Ao139 t350.length co139)) (fun _ hk => hk.2) (.int .i64 t353)) (fun _ hk => hk.1.2)))⟩; have n2_ : Aside0 (w140.heap[gb328]? = some (.cells #[.bool a0_0, .slice A0_1 l0_1.length c0_1, .int .i64 a0_2] 35 (0, 0))) := ⟨(by rw [hw]; exact (by (with_reducible repeat (first | refine blk_drewN ?_ _ | refine blk_drew ?_ | refine blk_alloc ?_ _)); refine blk_far ?_ NB328_354.out _; (with_reducible repeat (first | refine blk_drewN ?_ _ | refine blk_drew ?_ | refine blk_alloc ?_ _)); refine blk_far ?_ NB328_354.out _; (with_reducible repeat (first | refine blk_drewN ?_ _ | refine blk_drew ?_ | refine blk_alloc ?_ _)); refine blk_far ?_ NB328_354.out _; (with_reducible repeat (first | refine blk_drewN ?_ _ | refine blk_drew ?_ | refine blk_alloc ?_ _)); exact BK328.out))⟩; have n3_ : Aside0 (w140.heap[gb329]? = some (.cells #[.bool a1_0, .slice A1_1 l1_1.length c1_1, .int .i64 a1_2] 35 (0, 0))) := ⟨(by rw [hw]; exact (by (with_reducible repeat (first | refine blk_drewN ?_ _ | refine blk_drew ?_ | refine blk_alloc ?_ _)); refine blk_far ?_ NB329_354.out _; (with_reducible repeat (first | refine blk_drewN ?_ _ | refine blk_drew ?_ | refine blk_alloc ?_ _)); refine blk_far ?_ NB329_354.out _; (with_reducible repeat (first | refine blk_drewN ?_ _ | refine blk_drew ?_ | refine blk_alloc ?_ _)); refine blk_far ?_ NB329_354.out _; (with_reducible repeat (first | refine blk_drewN ?_ _ | refine blk_drew ?_ | refine blk_alloc ?_ _)); exact BK329.out))⟩; have n4_ : Aside0 (w140.heap[gb348]? = some (.cells #[.bool t343, .slice Ao131 t344.length co131, .int .i64 t347] 42 (0, 0))) := ⟨(by rw [hw]; exact (by (with_reducible repeat (first | refine blk_drewN ?_ _ | refine blk_drew ?_ | refine blk_alloc ?_ _)); refine blk_far ?_ NB348_354.out _; (with_reducible repeat (first | refine blk_drewN ?_ _ | refine blk_drew ?_ | refine blk_alloc ?_ _)); refine blk_far ?_ NB348_354.out _; (with_reducible repeat (first | refine blk_drewN ?_ _ | refine blk_drew ?_ | refine blk_alloc ?_ _)); refine blk_far ?_ NB348_354.out _; (with_reducible repeat (first | refine blk_drewN ?_ _ | refine blk_drew ?_ | refine blk_alloc ?_ _)); exact BK348.out))⟩; have n5_ : Aside0 (w140.heap[gb354]? = some (.cells #[.bool t349, .slice Ao139 t350.length co139, .int .i64 t353] 42 (0, 0))) := ⟨(by rw [hw]; exact (by (with_reducible repeat (first | refine blk_drewN ?_ _ | refine blk_drew ?_ | refine blk_alloc ?_ _)); refine blk_put (cs := #[.bool t349, .slice Ao139 t350.length co139, .int .i64 0]) ?_ 2 _ rfl; (with_reducible repeat (first | refine blk_drewN ?_ _ | refine blk_drew ?_ | refine blk_alloc ?_ _)); refine blk_put (cs := #[.bool t349, .slice none 0 0, .int .i64 0]) ?_ 1 _ rfl; (with_reducible repeat (first | refine blk_drewN ?_ _ | refine blk_drew ?_ | refine blk_alloc ?_ _)); refine blk_put (cs := #[.bool false, .slice none 0 0, .int .i64 0]) ?_ 0 _ rfl; (with_reducible repeat (first | refine blk_drewN ?_ _ | refine blk_drew ?_ | refine blk_alloc ?_ _)); exact BK354.out))⟩; have n6_ : Aside0 (Below w.heap.size w w140) := ⟨(by rw [hw]; exact (hkS HB))⟩; clear hw; clear HO346; clear HO352; clear BK328; clear BK329; clear BK348; clear BK354; clear HB; have HO346 := n0_; have HO352 := n1_; have BK328 := n2_; have BK329 := n3_; have BK348 := n4_; have BK354 := n5_; have HB := n6_; clear n0_ n1_ n2_ n3_ n4_ n5_ n6_; have hcz141_0 : w140.cell? ⟨gb348, 0, none⟩ = some (.bool t343) := (blk_cell BK348.out 0).trans rfl; have hcz141_1 : w140.cell? ⟨gb348, 1, none⟩ = some (.slice Ao131 t344.length co131) := (blk_cell BK348.out 1).trans rfl; have hcz141_2 : w140.cell? ⟨gb348, 2, none⟩ = some (.int .i64 t347) := (blk_cell BK348.out 2).trans rfl; have hfz141_0 := blk_frozen BK348.out 0; have hfz141_1 := blk_frozen BK348.out 1; have hfz141_2 := blk_frozen BK348.out 2; have hcz142_0 : w140.cell? ⟨gb354, 0, none⟩ = some (.bool t349) := (blk_cell BK354.out 0).trans rfl; have hcz142_1 : w140.cell? ⟨gb354, 1, none⟩ = some (.slice Ao139 t350.length co139) := (blk_cell BK354.out 1).trans rfl; have hcz142_2 : w140.cell? ⟨gb354, 2, none⟩ = some (.int .i64 t353) := (blk_cell BK354.out 2).trans rfl; have hfz142_0 := blk_frozen BK354.out 0; have hfz142_1 := blk_frozen BK354.out 1; have hfz142_2 := blk_frozen BK354.out 2) | ((with_reducible refine gate_callee (f := 16) rfl ?_); refine goesL_ (some 31) rfl rfl Try.func16 (by kernel_rfl) rfl #[.agg #[.bool t343, .slice Ao131 t344.length co131, .int .i64 t347], .agg #[.bool t349, .slice Ao139 t350.length co139, .int .i64 t353]] rfl hkL ?_; (with_reducible refine (impl_DyCmp.calls k t343 (fun k_ => some k_ = (.slice Ao131 t344.length co131 : Value).ownBlock) _ _ t344 t347 t349 (fun k_ => some k_ = (.slice Ao139 t350.length co139 : Value).ownBlock) _ _ t350 t353 t355 _ ?side1 ?side2 A24.out).mono ?_); (case side1 => exact Kd.R_V (Kd.R_tight rfl (Kd.R_types (Kd.R_types (Kd.R_types (Kd.R_types (HO346.out) BK328.out (by decide)) BK329.out (by decide)) BK348.out (by decide)) BK354.out (by decide)))); (case side2 => exact Kd.R_V (Kd.R_tight rfl (Kd.R_types (Kd.R_types (Kd.R_types (Kd.R_types (HO352.out) BK328.out (by decide)) BK329.out (by decide)) BK348.out (by decide)) BK354.out (by decide)))); rintro e w143 ⟨rfl, hb⟩; refine ⟨_, rfl, ?_⟩; have n0_ := hkRb HO346 hb; have n1_ := hkRb HO352 hb; have n2_ := hkBb BK328 hb; have n3_ := hkBb BK329 hb; have n4_ := hkBb BK348 hb; have n5_ := hkBb BK354 hb; have n6_ := Aside0.mk (below_step (hkS HB) hb); clear HO346; clear HO352; clear BK328; clear BK329; clear BK348; clear BK354; clear HB; have HO346 := n0_; have HO352 := n1_; have BK328 := n2_; have BK329 := n3_; have BK348 := n4_; have BK354 := n5_; have HB := n6_; clear n0_ n1_ n2_ n3_ n4_ n5_ n6_; (try clear hb); (try clear hb2); (try clear hk); (try clear hi)))
          have n0_ := Aside0.mk (Kd.R_drew HO346.out)
          have n1_ := Aside0.mk (Kd.R_drew HO352.out)
          have n2_ := Aside0.mk (blk_drew BK328.out)
          have n3_ := Aside0.mk (blk_drew BK329.out)
          have n4_ := Aside0.mk (blk_drew BK348.out)
          have n5_ := Aside0.mk (blk_drew BK354.out)
          have n6_ := Aside0.mk (below_drew1 HB.out)
          clear HO346
          clear HO352
          clear BK328
          clear BK329
          clear BK348
          clear BK354
          clear HB
          have HO346 := n0_
          have HO352 := n1_
          have BK328 := n2_
          have BK329 := n3_
          have BK348 := n4_
          have BK354 := n5_
          have HB := n6_
          clear n0_ n1_ n2_ n3_ n4_ n5_ n6_
          refine start_ (n := 5) (S := fun w' => w'.cell? ⟨gb348, 0, none⟩ = some (.bool t343) ∧ w'.cell? ⟨gb348, 1, none⟩ = some (.slice Ao131 t344.length co131) ∧ w'.cell? ⟨gb348, 2, none⟩ = some (.int .i64 t347) ∧ w'.cell? ⟨gb328, 0, none⟩ = some (.bool a0_0) ∧ w'.cell? ⟨gb328, 1, none⟩ = some (.slice A0_1 l0_1.length c0_1) ∧ w'.cell? ⟨gb328, 2, none⟩ = some (.int .i64 a0_2)) (ds := []) #[false, false, false, false, false] (by kernel_rfl) rfl rfl ⟨(blk_cell BK348.out 0).trans rfl, (blk_cell BK348.out 1).trans rfl, (blk_cell BK348.out 2).trans rfl, (blk_cell BK328.out 0).trans rfl, (blk_cell BK328.out 1).trans rfl, (blk_cell BK328.out 2).trans rfl⟩ (fun hHeld => ?_)
          generalize w143.drew = w144 at HO346 HO352 BK328 BK329 BK348 BK354 HB hHeld ⊢
          refine take_ (i := 0) (N := some 35) (v := ?_) (a' := ?_) #[true, false, false, false, false] rfl rfl (by kernel_rfl) (fun _ _ _ h => h) (Or.inl ⟨by rfl, ?_⟩) hHeld ?_ ?_
          rotate_left
          · rintro w' ⟨s0, s1, s2, s3, s4, s5⟩
            go_simp
            with_reducible rfl
          rotate_left
          · simp only [Act.put, List.setIfInBounds_toArray, List.set_cons_zero, List.set_cons_succ, i64_w, i32_w]
            rfl
          refine take_ (i := 1) (N := some 36) (v := ?_) (a' := ?_) #[true, true, false, false, false] rfl rfl (by kernel_rfl) (fun _ _ _ h => h) (Or.inl ⟨by rfl, ?_⟩) hHeld ?_ ?_
          rotate_left
          · rintro w' ⟨s0, s1, s2, s3, s4, s5⟩
            go_simp
            with_reducible rfl
          rotate_left
          · simp only [Act.put, List.setIfInBounds_toArray, List.set_cons_zero, List.set_cons_succ, i64_w, i32_w]
            rfl
          refine one_ (i := 2) (N := some 37) #[true, true, true, false, false] rfl rfl (by kernel_rfl) (by decide) (fun K hK => ?_)
          refine goes_ Try.func15 (by kernel_rfl) rfl #[.agg #[.bool a0_0, .slice A0_1 l0_1.length c0_1, .int .i64 a0_2]] (by rfl) rfl rfl hkL ?_
          with_reducible refine (laws_toDy.calls k a0_0 _ _ l0_1 a0_2 t356 t357 t360 _ ?side1 ?side2 A26.out).mono ?_
          (case side1 => repeat (first | exact (Kd.C_below HR0_1.out HB.out) | (with_reducible refine Kd.C_alloc ?_ _) | (with_reducible refine Kd.C_drewN ?_ _) | (with_reducible refine Kd.C_drew ?_)))
          (case side2 => exact HC0_1.out)
          rintro e w145 ⟨v358, rfl, ho0, hb⟩
          refine ⟨_, rfl, ?_⟩
          have n0_ := Aside0.mk (Kd.R_elder' (hkR HO346) (Kd.R_base ho0) hb)
          have n1_ := Aside0.mk (Kd.R_elder' (hkR HO352) (Kd.R_base ho0) hb)
          have n2_ := Aside0.mk (Kd.R_lower (Kd.R_new' (Kd.R_new' ho0 (Kd.R_lt (hkR HO346))) (Kd.R_lt (hkR HO352))) (below_size (hkS HB)))
          have n3_ := hkBb BK328 hb
          have n4_ := hkBb BK329 hb
          have n5_ := hkBb BK348 hb
          have n6_ := hkBb BK354 hb
          have n7_ := Aside0.mk (below_step (hkS HB) hb)
          clear HO346
          clear HO352
          clear BK328
          clear BK329
          clear BK348
          clear BK354
          clear HB
          have HO346 := n0_
          have HO352 := n1_
          have HO359 := n2_
          have BK328 := n3_
          have BK329 := n4_
          have BK348 := n5_
          have BK354 := n6_
          have HB := n7_
          clear n0_ n1_ n2_ n3_ n4_ n5_ n6_ n7_
          (try clear hb)
          (try clear hb2)
          (try clear hk)
          (try clear hi)
          (try clear ho0)
          obtain ⟨Ao146, co146, eo146⟩ := Kd.R_slice HO359.out
          (first | subst eo146 | (injection eo146 with f1_ f2_ f3_; have f4_ := f1_.symm; have f5_ := f3_.symm; clear f1_ f2_ f3_; subst f4_; subst f5_))
          refine hK.out _ _ ⟨(blk_cell BK348.out 0).trans rfl, (blk_cell BK348.out 1).trans rfl, (blk_cell BK348.out 2).trans rfl, (blk_cell BK328.out 0).trans rfl, (blk_cell BK328.out 1).trans rfl, (blk_cell BK328.out 2).trans rfl⟩ (fun hHeld => ?_)
          clear hK K
          refine norm_ (a' := ?_) ?_ ?_
          rotate_left
          · show Act.put _ (some 37) _ = _
            simp only [Act.put, List.setIfInBounds_toArray, List.set_cons_zero, List.set_cons_succ, i64_w, i32_w]
            rfl
          refine one_ (i := 3) (N := some 38) #[true, true, true, true, false] rfl rfl (by kernel_rfl) (by decide) (fun K hK => ?_)
          refine goes_ Try.func17 (by kernel_rfl) rfl #[.agg #[.bool t343, .slice Ao131 t344.length co131, .int .i64 t347], .agg #[.bool t356, .slice Ao146 t357.length co146, .int .i64 t360]] (by rfl) rfl rfl hkL ?_
          with_reducible refine (laws_eqDy.calls k t343 _ _ t344 t347 t356 _ _ t357 t360 false _ ?side1 ?side2 ?side3 ?side4 A27.out).mono ?_
          (case side1 => repeat (first | exact (Kd.R_reads' HO346.out).2.2 | (with_reducible refine Kd.C_alloc ?_ _) | (with_reducible refine Kd.C_drewN ?_ _) | (with_reducible refine Kd.C_drew ?_)))
          (case side2 => exact (Kd.R_reads' HO346.out).2.1)
          (case side3 => repeat (first | exact (Kd.R_reads' HO359.out).2.2 | (with_reducible refine Kd.C_alloc ?_ _) | (with_reducible refine Kd.C_drewN ?_ _) | (with_reducible refine Kd.C_drew ?_)))
          (case side4 => exact (Kd.R_reads' HO359.out).2.1)
          rintro e w147 ⟨rfl, hb⟩
          refine ⟨_, rfl, ?_⟩
          have n0_ := hkRb HO346 hb
          have n1_ := hkRb HO352 hb
          have n2_ := hkRb HO359 hb
          have n3_ := hkBb BK328 hb
          have n4_ := hkBb BK329 hb
          have n5_ := hkBb BK348 hb
          have n6_ := hkBb BK354 hb
          have n7_ := Aside0.mk (below_step (hkS HB) hb)
          clear HO346
          clear HO352
          clear HO359
          clear BK328
          clear BK329
          clear BK348
          clear BK354
          clear HB
          have HO346 := n0_
          have HO352 := n1_
          have HO359 := n2_
          have BK328 := n3_
          have BK329 := n4_
          have BK348 := n5_
          have BK354 := n6_
          have HB := n7_
          clear n0_ n1_ n2_ n3_ n4_ n5_ n6_ n7_
          (try clear hb)
          (try clear hb2)
          (try clear hk)
          (try clear hi)
          refine hK.out _ _ ⟨(blk_cell BK348.out 0).trans rfl, (blk_cell BK348.out 1).trans rfl, (blk_cell BK348.out 2).trans rfl, (blk_cell BK328.out 0).trans rfl, (blk_cell BK328.out 1).trans rfl, (blk_cell BK328.out 2).trans rfl⟩ (fun hHeld => ?_)
          clear hK K
          refine norm_ (a' := ?_) ?_ ?_
          rotate_left
          · show Act.put _ (some 38) _ = _
            simp only [Act.put, List.setIfInBounds_toArray, List.set_cons_zero, List.set_cons_succ, i64_w, i32_w]
            rfl
          refine pure_ (i := 4) (N := some 39) (v := ?_) (a' := ?_) #[true, true, true, true, true] rfl rfl (by kernel_rfl) (fun _ _ _ h => h) (Or.inl ⟨by rfl, ?_⟩) ?_ ?_
          rotate_left
          · intro w'
            go_simp
            with_reducible rfl
          rotate_left
          · simp only [Act.put, List.setIfInBounds_toArray, List.set_cons_zero, List.set_cons_succ, i64_w, i32_w]
            rfl
          refine done_ (by kernel_rfl) ?_
          try go_wp2
          go_ret
          exact ⟨by first | rfl | (simp [errW_none, errW_some] <;> rfl) | (simp [*, errW_none, errW_some] <;> rfl), by repeat (first | (with_reducible first | exact HB.out | apply below_alloc | apply pw_below_drewN | apply below_drew1 | refine below_set ?_ GE328.out | refine below_set ?_ GE329.out | refine below_set ?_ GE348.out | refine below_set ?_ GE354.out) | exact HB.out)⟩
      · rw [if_neg c25] at H
        have c25b0 : (t355 == t342) = false := beq_eq_false_iff_ne.mpr c25
        have c25b1 : (t355 != t342) = true := bne_iff_ne.mpr c25
        obtain rfl := Option.some.inj H
        go_enter Try.func4, Try.ntmps4
        try go_wp2_with (first | ((with_reducible refine gate_dst (N := 2) rfl ?_); refine box_event ?hg (N := 2) ?hd (cs := #[.bool a0_0, .slice A0_1 l0_1.length c0_1, .int .i64 a0_2]) (t := 35) ?hr ?_; (case hd => rfl); (case hg => rfl); (case hr => first | (go_simp; done) | (go_simp; rfl)); intro gb328 hg w148 hbox hb; have n0_ := Aside0.mk (below_step (hkS HB) hb); have n1_ := Aside0.mk (hbox); have n2_ := hkG hg (hkS HB); have n3_ := hkG hg (hkS HB); clear HB; have HB := n0_; have BK328 := n1_; have GW328 := n2_; have GE328 := n3_; clear n0_ n1_ n2_ n3_; clear hb hbox hg) | ((with_reducible refine gate_dst (N := 3) rfl ?_); refine box_event ?hg (N := 3) ?hd (cs := #[.bool a1_0, .slice A1_1 l1_1.length c1_1, .int .i64 a1_2]) (t := 35) ?hr ?_; (case hd => rfl); (case hg => rfl); (case hr => first | (go_simp; done) | (go_simp; rfl)); intro gb329 hg w149 hbox hb; have n0_ := hkBb BK328 hb; have n1_ := Aside0.mk (below_step (hkS HB) hb); have n2_ := Aside0.mk (hbox); have n3_ := hkG hg (hkS HB); have n4_ := hkG hg (hkS HB); have n5_ := hkN hg BK328; have n6_ := hkM hg BK328; clear BK328; clear HB; have BK328 := n0_; have HB := n1_; have BK329 := n2_; have GW329 := n3_; have GE329 := n4_; have NB328_329 := n5_; have NB329_328 := n6_; clear n0_ n1_ n2_ n3_ n4_ n5_ n6_; clear hb hbox hg; have hnb150 := NB328_329.out; have hnc150 := NB329_328.out; have hcz151_0 : w149.cell? ⟨gb328, 0, none⟩ = some (.bool a0_0) := (blk_cell BK328.out 0).trans rfl; have hcz151_1 : w149.cell? ⟨gb328, 1, none⟩ = some (.slice A0_1 l0_1.length c0_1) := (blk_cell BK328.out 1).trans rfl; have hcz151_2 : w149.cell? ⟨gb328, 2, none⟩ = some (.int .i64 a0_2) := (blk_cell BK328.out 2).trans rfl; have hfz151_0 := blk_frozen BK328.out 0; have hfz151_1 := blk_frozen BK328.out 1; have hfz151_2 := blk_frozen BK328.out 2) | ((with_reducible refine gate_callee (f := 13) rfl ?_); refine goesL_ (some 12) rfl rfl Try.func13 (by kernel_rfl) rfl #[.agg #[.bool a0_0, .slice A0_1 l0_1.length c0_1, .int .i64 a0_2], .int .i64 1048576] rfl hkL ?_; (with_reducible refine (laws_szDy.calls a0_0 _ _ l0_1 a0_2 1048576 t330 _ ?side1 ?side2 A3.out).mono ?_); (case side1 => repeat (first | exact (Kd.C_below HR0_1.out HB.out) | (with_reducible refine Kd.C_alloc ?_ _) | (with_reducible refine Kd.C_drewN ?_ _) | (with_reducible refine Kd.C_drew ?_))); (case side2 => exact HC0_1.out); rintro e w152 ⟨rfl, hb⟩; refine ⟨_, rfl, ?_⟩; have n0_ := hkBb BK328 hb; have n1_ := hkBb BK329 hb; have n2_ := Aside0.mk (below_step (hkS HB) hb); clear BK328; clear BK329; clear HB; have BK328 := n0_; have BK329 := n1_; have HB := n2_; clear n0_ n1_ n2_; (try clear hb); (try clear hb2); (try clear hk); (try clear hi); have hcz153_0 : w152.cell? ⟨gb329, 0, none⟩ = some (.bool a1_0) := (blk_cell BK329.out 0).trans rfl; have hcz153_1 : w152.cell? ⟨gb329, 1, none⟩ = some (.slice A1_1 l1_1.length c1_1) := (blk_cell BK329.out 1).trans rfl; have hcz153_2 : w152.cell? ⟨gb329, 2, none⟩ = some (.int .i64 a1_2) := (blk_cell BK329.out 2).trans rfl; have hfz153_0 := blk_frozen BK329.out 0; have hfz153_1 := blk_frozen BK329.out 1; have hfz153_2 := blk_frozen BK329.out 2) | ((with_reducible refine gate_callee (f := 13) rfl ?_); refine goesL_ (some 17) rfl rfl Try.func13 (by kernel_rfl) rfl #[.agg #[.bool a1_0, .slice A1_1 l1_1.length c1_1, .int .i64 a1_2], .int .i64 t330] rfl hkL ?_; (with_reducible refine (laws_szDy.calls a1_0 _ _ l1_1 a1_2 t330 t331 _ ?side1 ?side2 A10.out).mono ?_); (case side1 => repeat (first | exact (Kd.C_below HR1_1.out HB.out) | (with_reducible refine Kd.C_alloc ?_ _) | (with_reducible refine Kd.C_drewN ?_ _) | (with_reducible refine Kd.C_drew ?_))); (case side2 => exact HC1_1.out); rintro e w154 ⟨rfl, hb⟩; refine ⟨_, rfl, ?_⟩; have n0_ := hkBb BK328 hb; have n1_ := hkBb BK329 hb; have n2_ := Aside0.mk (below_step (hkS HB) hb); clear BK328; clear BK329; clear HB; have BK328 := n0_; have BK329 := n1_; have HB := n2_; clear n0_ n1_ n2_; (try clear hb); (try clear hb2); (try clear hk); (try clear hi)))
        have n0_ := Aside0.mk (blk_drew BK328.out)
        have n1_ := Aside0.mk (blk_drew BK329.out)
        have n2_ := Aside0.mk (below_drew1 HB.out)
        clear BK328
        clear BK329
        clear HB
        have BK328 := n0_
        have BK329 := n1_
        have HB := n2_
        clear n0_ n1_ n2_
        refine start_ (n := 6) (S := fun w' => w'.cell? ⟨gb328, 0, none⟩ = some (.bool a0_0) ∧ w'.cell? ⟨gb328, 1, none⟩ = some (.slice A0_1 l0_1.length c0_1) ∧ w'.cell? ⟨gb328, 2, none⟩ = some (.int .i64 a0_2) ∧ w'.cell? ⟨gb329, 0, none⟩ = some (.bool a1_0) ∧ w'.cell? ⟨gb329, 1, none⟩ = some (.slice A1_1 l1_1.length c1_1) ∧ w'.cell? ⟨gb329, 2, none⟩ = some (.int .i64 a1_2)) (ds := []) #[false, false, false, false, false, false] (by kernel_rfl) rfl rfl ⟨(blk_cell BK328.out 0).trans rfl, (blk_cell BK328.out 1).trans rfl, (blk_cell BK328.out 2).trans rfl, (blk_cell BK329.out 0).trans rfl, (blk_cell BK329.out 1).trans rfl, (blk_cell BK329.out 2).trans rfl⟩ (fun hHeld => ?_)
        generalize w154.drew = w155 at BK328 BK329 HB hHeld ⊢
        refine take_ (i := 0) (N := some 20) (v := ?_) (a' := ?_) #[true, false, false, false, false, false] rfl rfl (by kernel_rfl) (fun _ _ _ h => h) (Or.inl ⟨by rfl, ?_⟩) hHeld ?_ ?_
        rotate_left
        · rintro w' ⟨s0, s1, s2, s3, s4, s5⟩
          go_simp
          with_reducible rfl
        rotate_left
        · simp only [Act.put, List.setIfInBounds_toArray, List.set_cons_zero, List.set_cons_succ, i64_w, i32_w]
          rfl
        refine take_ (i := 2) (N := some 22) (v := ?_) (a' := ?_) #[true, false, true, false, false, false] rfl rfl (by kernel_rfl) (fun _ _ _ h => h) (Or.inl ⟨by rfl, ?_⟩) hHeld ?_ ?_
        rotate_left
        · rintro w' ⟨s0, s1, s2, s3, s4, s5⟩
          go_simp
          with_reducible rfl
        rotate_left
        · simp only [Act.put, List.setIfInBounds_toArray, List.set_cons_zero, List.set_cons_succ, i64_w, i32_w]
          rfl
        refine one_ (i := 1) (N := some 21) #[true, true, true, false, false, false] rfl rfl (by kernel_rfl) (by decide) (fun K hK => ?_)
        refine goes_ Try.func15 (by kernel_rfl) rfl #[.agg #[.bool a0_0, .slice A0_1 l0_1.length c0_1, .int .i64 a0_2]] (by rfl) rfl rfl hkL ?_
        with_reducible refine (laws_toDy.calls k a0_0 _ _ l0_1 a0_2 t332 t333 t336 _ ?side1 ?side2 A19.out).mono ?_
        (case side1 => repeat (first | exact (Kd.C_below HR0_1.out HB.out) | (with_reducible refine Kd.C_alloc ?_ _) | (with_reducible refine Kd.C_drewN ?_ _) | (with_reducible refine Kd.C_drew ?_)))
        (case side2 => exact HC0_1.out)
        rintro e w156 ⟨v334, rfl, ho0, hb⟩
        refine ⟨_, rfl, ?_⟩
        have n0_ := Aside0.mk (Kd.R_lower ho0 (below_size (hkS HB)))
        have n1_ := hkBb BK328 hb
        have n2_ := hkBb BK329 hb
        have n3_ := Aside0.mk (below_step (hkS HB) hb)
        clear BK328
        clear BK329
        clear HB
        have HO335 := n0_
        have BK328 := n1_
        have BK329 := n2_
        have HB := n3_
        clear n0_ n1_ n2_ n3_
        (try clear hb)
        (try clear hb2)
        (try clear hk)
        (try clear hi)
        (try clear ho0)
        refine hK.out _ _ ⟨(blk_cell BK328.out 0).trans rfl, (blk_cell BK328.out 1).trans rfl, (blk_cell BK328.out 2).trans rfl, (blk_cell BK329.out 0).trans rfl, (blk_cell BK329.out 1).trans rfl, (blk_cell BK329.out 2).trans rfl⟩ (fun hHeld => ?_)
        clear hK K
        refine norm_ (a' := ?_) ?_ ?_
        rotate_left
        · show Act.put _ (some 21) _ = _
          simp only [Act.put, List.setIfInBounds_toArray, List.set_cons_zero, List.set_cons_succ, i64_w, i32_w]
          rfl
        refine one_ (i := 3) (N := some 23) #[true, true, true, true, false, false] rfl rfl (by kernel_rfl) (by decide) (fun K hK => ?_)
        refine goes_ Try.func15 (by kernel_rfl) rfl #[.agg #[.bool a1_0, .slice A1_1 l1_1.length c1_1, .int .i64 a1_2]] (by rfl) rfl rfl hkL ?_
        with_reducible refine (laws_toDy.calls k a1_0 _ _ l1_1 a1_2 t337 t338 t341 _ ?side1 ?side2 A20.out).mono ?_
        (case side1 => repeat (first | exact (Kd.C_below HR1_1.out HB.out) | (with_reducible refine Kd.C_alloc ?_ _) | (with_reducible refine Kd.C_drewN ?_ _) | (with_reducible refine Kd.C_drew ?_)))
        (case side2 => exact HC1_1.out)
        rintro e w157 ⟨v339, rfl, ho0, hb⟩
        refine ⟨_, rfl, ?_⟩
        have n0_ := Aside0.mk (Kd.R_elder' (hkR HO335) (Kd.R_base ho0) hb)
        have n1_ := Aside0.mk (Kd.R_lower (Kd.R_new' ho0 (Kd.R_lt (hkR HO335))) (below_size (hkS HB)))
        have n2_ := hkBb BK328 hb
        have n3_ := hkBb BK329 hb
        have n4_ := Aside0.mk (below_step (hkS HB) hb)
        clear HO335
        clear BK328
        clear BK329
        clear HB
        have HO335 := n0_
        have HO340 := n1_
        have BK328 := n2_
        have BK329 := n3_
        have HB := n4_
        clear n0_ n1_ n2_ n3_ n4_
        (try clear hb)
        (try clear hb2)
        (try clear hk)
        (try clear hi)
        (try clear ho0)
        obtain ⟨Ao158, co158, eo158⟩ := Kd.R_slice HO335.out
        (first | subst eo158 | (injection eo158 with f1_ f2_ f3_; have f4_ := f1_.symm; have f5_ := f3_.symm; clear f1_ f2_ f3_; subst f4_; subst f5_))
        obtain ⟨Ao159, co159, eo159⟩ := Kd.R_slice HO340.out
        (first | subst eo159 | (injection eo159 with f1_ f2_ f3_; have f4_ := f1_.symm; have f5_ := f3_.symm; clear f1_ f2_ f3_; subst f4_; subst f5_))
        refine hK.out _ _ ⟨(blk_cell BK328.out 0).trans rfl, (blk_cell BK328.out 1).trans rfl, (blk_cell BK328.out 2).trans rfl, (blk_cell BK329.out 0).trans rfl, (blk_cell BK329.out 1).trans rfl, (blk_cell BK329.out 2).trans rfl⟩ (fun hHeld => ?_)
        clear hK K
        refine norm_ (a' := ?_) ?_ ?_
        rotate_left
        · show Act.put _ (some 23) _ = _
          simp only [Act.put, List.setIfInBounds_toArray, List.set_cons_zero, List.set_cons_succ, i64_w, i32_w]
          rfl
        refine one_ (i := 4) (N := some 24) #[true, true, true, true, true, false] rfl rfl (by kernel_rfl) (by decide) (fun K hK => ?_)
        refine goes_ Try.func14 (by kernel_rfl) rfl #[.agg #[.bool t332, .slice Ao158 t333.length co158, .int .i64 t336], .agg #[.bool t337, .slice Ao159 t338.length co159, .int .i64 t341]] (by rfl) rfl rfl hkL ?_
        with_reducible refine (spec_DyCmp.calls k t332 (fun k_ => some k_ = (.slice Ao158 t333.length co158 : Value).ownBlock) (.slice Ao158 t333.length co158) t333 t336 t337 (fun k_ => some k_ = (.slice Ao159 t338.length co159 : Value).ownBlock) (.slice Ao159 t338.length co159) t338 t341 t342 w _ ?side1 ?side2 ?side3 ?side4 ?side5 A21.out).mono ?_
        (case side1 => repeat (first | (with_reducible first | exact HB.out | apply below_alloc | apply pw_below_drewN | apply below_drew1 | refine below_set ?_ GE328.out | refine below_set ?_ GE329.out) | exact HB.out))
        (case side2 => exact Kd.R_tight rfl HO335.out)
        (case side3 => exact fun k_ e_ => (HO335.out.1 k_ e_.symm).2)
        (case side4 => exact Kd.R_tight rfl HO340.out)
        (case side5 => exact fun k_ e_ => (HO340.out.1 k_ e_.symm).2)
        rintro e w160 ⟨rfl, hb, hkp⟩
        refine ⟨_, rfl, ?_⟩
        have n0_ := Aside0.mk (blk_kept (hkB BK328) hkp (fun hs_ => Or.elim hs_ (fun e_ => (fun e_ => (Kd.R_ne HO335.out BK328.out (by decide)) e_) e_) (fun e_ => (fun e_ => (Kd.R_ne HO340.out BK328.out (by decide)) e_) e_)))
        have n1_ := Aside0.mk (blk_kept (hkB BK329) hkp (fun hs_ => Or.elim hs_ (fun e_ => (fun e_ => (Kd.R_ne HO335.out BK329.out (by decide)) e_) e_) (fun e_ => (fun e_ => (Kd.R_ne HO340.out BK329.out (by decide)) e_) e_)))
        have n2_ := Aside0.mk (hb)
        clear BK328
        clear BK329
        clear HB
        clear HO335
        clear HO340
        have BK328 := n0_
        have BK329 := n1_
        have HB := n2_
        clear n0_ n1_ n2_
        (try clear hb)
        (try clear hkp)
        refine hK.out _ _ ⟨(blk_cell BK328.out 0).trans rfl, (blk_cell BK328.out 1).trans rfl, (blk_cell BK328.out 2).trans rfl, (blk_cell BK329.out 0).trans rfl, (blk_cell BK329.out 1).trans rfl, (blk_cell BK329.out 2).trans rfl⟩ (fun hHeld => ?_)
        clear hK K
        refine norm_ (a' := ?_) ?_ ?_
        rotate_left
        · show Act.put _ (some 24) _ = _
          simp only [Act.put, List.setIfInBounds_toArray, List.set_cons_zero, List.set_cons_succ, i64_w, i32_w]
          rfl
        refine pure_ (i := 5) (N := some 6) (v := ?_) (a' := ?_) #[true, true, true, true, true, true] rfl rfl (by kernel_rfl) (fun _ _ _ h => h) (Or.inl ⟨by rfl, ?_⟩) ?_ ?_
        rotate_left
        · intro w'
          go_simp
          with_reducible rfl
        rotate_left
        · simp only [Act.put, List.setIfInBounds_toArray, List.set_cons_zero, List.set_cons_succ, i64_w, i32_w]
          rfl
        refine done_ (by kernel_rfl) ?_
        have hcz161_0 : w160.cell? ⟨gb328, 0, none⟩ = some (.bool a0_0) := (blk_cell BK328.out 0).trans rfl
        have hcz161_1 : w160.cell? ⟨gb328, 1, none⟩ = some (.slice A0_1 l0_1.length c0_1) := (blk_cell BK328.out 1).trans rfl
        have hcz161_2 : w160.cell? ⟨gb328, 2, none⟩ = some (.int .i64 a0_2) := (blk_cell BK328.out 2).trans rfl
        have hfz161_0 := blk_frozen BK328.out 0
        have hfz161_1 := blk_frozen BK328.out 1
        have hfz161_2 := blk_frozen BK328.out 2
        try go_wp2_with (first | ((with_reducible refine gate_callee (f := 15) rfl ?_); refine goesL_ (some 26) rfl rfl Try.func15 (by kernel_rfl) rfl #[.agg #[.bool a0_0, .slice A0_1 l0_1.length c0_1, .int .i64 a0_2]] rfl hkL ?_; (with_reducible refine (laws_toDy.calls k a0_0 _ _ l0_1 a0_2 t343 t344 t347 _ ?side1 ?side2 A22.out).mono ?_); (case side1 => repeat (first | exact (Kd.C_below HR0_1.out HB.out) | (with_reducible refine Kd.C_alloc ?_ _) | (with_reducible refine Kd.C_drewN ?_ _) | (with_reducible refine Kd.C_drew ?_))); (case side2 => exact HC0_1.out); rintro e w162 ⟨v345, rfl, ho0, hb⟩; refine ⟨_, rfl, ?_⟩; have n0_ := Aside0.mk (Kd.R_lower ho0 (below_size (hkS HB))); have n1_ := hkBb BK328 hb; have n2_ := hkBb BK329 hb; have n3_ := Aside0.mk (below_step (hkS HB) hb); clear BK328; clear BK329; clear HB; have HO346 := n0_; have BK328 := n1_; have BK329 := n2_; have HB := n3_; clear n0_ n1_ n2_ n3_; (try clear hb); (try clear hb2); (try clear hk); (try clear hi); (try clear ho0)) | ((with_reducible refine gate_dst (N := 7) rfl ?_); refine box_event ?hg (N := 7) ?hd (cs := #[.bool false, .slice none 0 0, .int .i64 0]) (t := 42) ?hr ?_; (case hd => rfl); (case hg => rfl); (case hr => first | (go_simp; done) | (go_simp; rfl)); intro gb348 hg w163 hbox hb; have n0_ := hkRb HO346 hb; have n1_ := hkBb BK328 hb; have n2_ := hkBb BK329 hb; have n3_ := Aside0.mk (below_step (hkS HB) hb); have n4_ := Aside0.mk (hbox); have n5_ := hkG hg (hkS HB); have n6_ := hkG hg (hkS HB); have n7_ := hkN hg BK328; have n8_ := hkM hg BK328; have n9_ := hkN hg BK329; have n10_ := hkM hg BK329; clear HO346; clear BK328; clear BK329; clear HB; have HO346 := n0_; have BK328 := n1_; have BK329 := n2_; have HB := n3_; have BK348 := n4_; have GW348 := n5_; have GE348 := n6_; have NB328_348 := n7_; have NB348_328 := n8_; have NB329_348 := n9_; have NB348_329 := n10_; clear n0_ n1_ n2_ n3_ n4_ n5_ n6_ n7_ n8_ n9_ n10_; clear hb hbox hg; have hnb164 := NB348_328.out; have hnc164 := NB328_348.out; have hnb165 := NB348_329.out; have hnc165 := NB329_348.out; have hcz166_0 : w163.cell? ⟨gb348, 0, none⟩ = some (.bool false) := (blk_cell BK348.out 0).trans rfl; have hcz166_1 : w163.cell? ⟨gb348, 1, none⟩ = some (.slice none 0 0) := (blk_cell BK348.out 1).trans rfl; have hcz166_2 : w163.cell? ⟨gb348, 2, none⟩ = some (.int .i64 0) := (blk_cell BK348.out 2).trans rfl; have hfz166_0 := blk_frozen BK348.out 0; have hfz166_1 := blk_frozen BK348.out 1; have hfz166_2 := blk_frozen BK348.out 2; obtain ⟨Ao167, co167, eo167⟩ := Kd.R_slice HO346.out; subst eo167; have hcz168_0 : w163.cell? ⟨gb329, 0, none⟩ = some (.bool a1_0) := (blk_cell BK329.out 0).trans rfl; have hcz168_1 : w163.cell? ⟨gb329, 1, none⟩ = some (.slice A1_1 l1_1.length c1_1) := (blk_cell BK329.out 1).trans rfl; have hcz168_2 : w163.cell? ⟨gb329, 2, none⟩ = some (.int .i64 a1_2) := (blk_cell BK329.out 2).trans rfl; have hfz168_0 := blk_frozen BK329.out 0; have hfz168_1 := blk_frozen BK329.out 1; have hfz168_2 := blk_frozen BK329.out 2) | ((with_reducible refine gate_callee (f := 15) rfl ?_); refine goesL_ (some 28) rfl rfl Try.func15 (by kernel_rfl) rfl #[.agg #[.bool a1_0, .slice A1_1 l1_1.length c1_1, .int .i64 a1_2]] rfl hkL ?_; (with_reducible refine (laws_toDy.calls k a1_0 _ _ l1_1 a1_2 t349 t350 t353 _ ?side1 ?side2 A23.out).mono ?_); (case side1 => exact Kd.C_below HR1_1.out (hkS HB)); (case side2 => exact HC1_1.out); rintro e w169 ⟨v351, rfl, ho0, hb⟩; refine ⟨_, rfl, ?_⟩; have n0_ := Aside0.mk (Kd.R_elder' (by (with_reducible repeat (first | apply Kd.R_alloc | apply Kd.R_drewN | apply Kd.R_drew)); exact (Kd.R_mono (Kd.R_far (p := ⟨gb348, 2, none⟩) (Kd.R_far (p := ⟨gb348, 1, none⟩) (Kd.R_far (p := ⟨gb348, 0, none⟩) (Kd.R_types HO346.out BK348.out (by decide)) (fun _ hk => hk.2) (.bool t343)) (fun _ hk => hk.2) (.slice Ao167 t344.length co167)) (fun _ hk => hk.2) (.int .i64 t347)) (fun _ h_ => h_.1))) (Kd.R_base ho0) hb); have n1_ := Aside0.mk (Kd.R_lower (Kd.R_new' ho0 (Kd.R_lt (by (with_reducible repeat (first | apply Kd.R_alloc | apply Kd.R_drewN | apply Kd.R_drew)); exact (Kd.R_mono (Kd.R_far (p := ⟨gb348, 2, none⟩) (Kd.R_far (p := ⟨gb348, 1, none⟩) (Kd.R_far (p := ⟨gb348, 0, none⟩) (Kd.R_types HO346.out BK348.out (by decide)) (fun _ hk => hk.2) (.bool t343)) (fun _ hk => hk.2) (.slice Ao167 t344.length co167)) (fun _ hk => hk.2) (.int .i64 t347)) (fun _ h_ => h_.1))))) (below_size (hkS HB))); have n2_ := Aside0.mk (blk_below (g := gb328) (o := .cells #[.bool a0_0, .slice A0_1 l0_1.length c0_1, .int .i64 a0_2] 35 (0, 0)) (by (with_reducible repeat (first | refine blk_drewN ?_ _ | refine blk_drew ?_ | refine blk_alloc ?_ _)); refine blk_far ?_ NB328_348.out _; (with_reducible repeat (first | refine blk_drewN ?_ _ | refine blk_drew ?_ | refine blk_alloc ?_ _)); refine blk_far ?_ NB328_348.out _; (with_reducible repeat (first | refine blk_drewN ?_ _ | refine blk_drew ?_ | refine blk_alloc ?_ _)); refine blk_far ?_ NB328_348.out _; (with_reducible repeat (first | refine blk_drewN ?_ _ | refine blk_drew ?_ | refine blk_alloc ?_ _)); exact BK328.out) hb); have n3_ := Aside0.mk (blk_below (g := gb329) (o := .cells #[.bool a1_0, .slice A1_1 l1_1.length c1_1, .int .i64 a1_2] 35 (0, 0)) (by (with_reducible repeat (first | refine blk_drewN ?_ _ | refine blk_drew ?_ | refine blk_alloc ?_ _)); refine blk_far ?_ NB329_348.out _; (with_reducible repeat (first | refine blk_drewN ?_ _ | refine blk_drew ?_ | refine blk_alloc ?_ _)); refine blk_far ?_ NB329_348.out _; (with_reducible repeat (first | refine blk_drewN ?_ _ | refine blk_drew ?_ | refine blk_alloc ?_ _)); refine blk_far ?_ NB329_348.out _; (with_reducible repeat (first | refine blk_drewN ?_ _ | refine blk_drew ?_ | refine blk_alloc ?_ _)); exact BK329.out) hb); have n4_ := Aside0.mk (blk_below (g := gb348) (o := .cells #[.bool t343, .slice Ao167 t344.length co167, .int .i64 t347] 42 (0, 0)) (by (with_reducible repeat (first | refine blk_drewN ?_ _ | refine blk_drew ?_ | refine blk_alloc ?_ _)); refine blk_put (cs := #[.bool t343, .slice Ao167 t344.length co167, .int .i64 0]) ?_ 2 _ rfl; (with_reducible repeat (first | refine blk_drewN ?_ _ | refine blk_drew ?_ | refine blk_alloc ?_ _)); refine blk_put (cs := #[.bool t343, .slice none 0 0, .int .i64 0]) ?_ 1 _ rfl; (with_reducible repeat (first | refine blk_drewN ?_ _ | refine blk_drew ?_ | refine blk_alloc ?_ _)); refine blk_put (cs := #[.bool false, .slice none 0 0, .int .i64 0]) ?_ 0 _ rfl; (with_reducible repeat (first | refine blk_drewN ?_ _ | refine blk_drew ?_ | refine blk_alloc ?_ _)); exact BK348.out) hb); have n5_ := Aside0.mk (below_step (hkS HB) hb); clear HO346; clear BK328; clear BK329; clear BK348; clear HB; have HO346 := n0_; have HO352 := n1_; have BK328 := n2_; have BK329 := n3_; have BK348 := n4_; have HB := n5_; clear n0_ n1_ n2_ n3_ n4_ n5_; (try clear hb); (try clear hb2); (try clear hk); (try clear hi); (try clear ho0)) | ((with_reducible refine gate_dst (N := 8) rfl ?_); refine box_event ?hg (N := 8) ?hd (cs := #[.bool false, .slice none 0 0, .int .i64 0]) (t := 42) ?hr ?_; (case hd => rfl); (case hg => rfl); (case hr => first | (go_simp; done) | (go_simp; rfl)); intro gb354 hg w170 hbox hb; have n0_ := hkRb HO346 hb; have n1_ := hkRb HO352 hb; have n2_ := hkBb BK328 hb; have n3_ := hkBb BK329 hb; have n4_ := hkBb BK348 hb; have n5_ := Aside0.mk (below_step (hkS HB) hb); have n6_ := Aside0.mk (hbox); have n7_ := hkG hg (hkS HB); have n8_ := hkG hg (hkS HB); have n9_ := hkN hg BK328; have n10_ := hkM hg BK328; have n11_ := hkN hg BK329; have n12_ := hkM hg BK329; have n13_ := hkN hg BK348; have n14_ := hkM hg BK348; clear HO346; clear HO352; clear BK328; clear BK329; clear BK348; clear HB; have HO346 := n0_; have HO352 := n1_; have BK328 := n2_; have BK329 := n3_; have BK348 := n4_; have HB := n5_; have BK354 := n6_; have GW354 := n7_; have GE354 := n8_; have NB328_354 := n9_; have NB354_328 := n10_; have NB329_354 := n11_; have NB354_329 := n12_; have NB348_354 := n13_; have NB354_348 := n14_; clear n0_ n1_ n2_ n3_ n4_ n5_ n6_ n7_ n8_ n9_ n10_ n11_ n12_ n13_ n14_; clear hb hbox hg; have hnb171 := NB354_328.out; have hnc171 := NB328_354.out; have hnb172 := NB354_329.out; have hnc172 := NB329_354.out; have hnb173 := NB354_348.out; have hnc173 := NB348_354.out; have hcz174_0 : w170.cell? ⟨gb354, 0, none⟩ = some (.bool false) := (blk_cell BK354.out 0).trans rfl; have hcz174_1 : w170.cell? ⟨gb354, 1, none⟩ = some (.slice none 0 0) := (blk_cell BK354.out 1).trans rfl; have hcz174_2 : w170.cell? ⟨gb354, 2, none⟩ = some (.int .i64 0) := (blk_cell BK354.out 2).trans rfl; have hfz174_0 := blk_frozen BK354.out 0; have hfz174_1 := blk_frozen BK354.out 1; have hfz174_2 := blk_frozen BK354.out 2; obtain ⟨Ao175, co175, eo175⟩ := Kd.R_slice HO352.out; subst eo175) | ((with_reducible refine gate_store (t := 42) (p := 8) rfl ?_); refine store_event (t := 42) (p := 8) (v := ?vo_w176) (w1 := (((w170.setCell ⟨gb354, 0, none⟩ (.bool t349)).setCell ⟨gb354, 1, none⟩ (.slice Ao175 t350.length co175)).setCell ⟨gb354, 2, none⟩ (.int .i64 t353))) ?hg ?ho ?hn ?hr ?_; (case ho => rfl); (case hg => rfl); (case hn => rfl); (case hr => first | (go_simp; done) | (go_simp; rfl)); intro w176 hw; have n0_ : Aside0 (Kd.R (Kd.int .i64) 3 w176 w.heap.size (fun k_ => some k_ ≠ (.slice Ao175 t350.length co175 : Value).ownBlock) (.slice Ao167 t344.length co167) t344) := ⟨(by rw [hw]; exact (by (with_reducible repeat (first | apply Kd.R_alloc | apply Kd.R_drewN | apply Kd.R_drew)); exact Kd.R_mono (Kd.R_far (p := ⟨gb354, 2, none⟩) (Kd.R_far (p := ⟨gb354, 1, none⟩) (Kd.R_far (p := ⟨gb354, 0, none⟩) (Kd.R_types HO346.out BK354.out (by decide)) (fun _ hk => hk.2) (.bool t349)) (fun _ hk => hk.2) (.slice Ao175 t350.length co175)) (fun _ hk => hk.2) (.int .i64 t353)) (fun _ hk => hk.1.2)))⟩; have n1_ : Aside0 (Kd.R (Kd.int .i64) 3 w176 w.heap.size (fun k_ => some k_ ≠ (.slice Ao167 t344.length co167 : Value).ownBlock) (.slice Ao175 t350.length co175) t350) := ⟨(by rw [hw]; exact (by (with_reducible repeat (first | apply Kd.R_alloc | apply Kd.R_drewN | apply Kd.R_drew)); exact Kd.R_mono (Kd.R_far (p := ⟨gb354, 2, none⟩) (Kd.R_far (p := ⟨gb354, 1, none⟩) (Kd.R_far (p := ⟨gb354, 0, none⟩) (Kd.R_types HO352.out BK354.out (by decide)) (fun _ hk => hk.2) (.bool t349)) (fun _ hk => hk.2) (.slice Ao175 t350.length co175)) (fun _ hk => hk.2) (.int .i64 t353)) (fun _ hk => hk.1.2)))⟩; have n2_ : Aside0 (w176.heap[gb328]? = some (.cells #[.bool a0_0, .slice A0_1 l0_1.length c0_1, .int .i64 a0_2] 35 (0, 0))) := ⟨(by rw [hw]; exact (by (with_reducible repeat (first | refine blk_drewN ?_ _ | refine blk_drew ?_ | refine blk_alloc ?_ _)); refine blk_far ?_ NB328_354.out _; (with_reducible repeat (first | refine blk_drewN ?_ _ | refine blk_drew ?_ | refine blk_alloc ?_ _)); refine blk_far ?_ NB328_354.out _; (with_reducible repeat (first | refine blk_drewN ?_ _ | refine blk_drew ?_ | refine blk_alloc ?_ _)); refine blk_far ?_ NB328_354.out _; (with_reducible repeat (first | refine blk_drewN ?_ _ | refine blk_drew ?_ | refine blk_alloc ?_ _)); exact BK328.out))⟩; have n3_ : Aside0 (w176.heap[gb329]? = some (.cells #[.bool a1_0, .slice A1_1 l1_1.length c1_1, .int .i64 a1_2] 35 (0, 0))) := ⟨(by rw [hw]; exact (by (with_reducible repeat (first | refine blk_drewN ?_ _ | refine blk_drew ?_ | refine blk_alloc ?_ _)); refine blk_far ?_ NB329_354.out _; (with_reducible repeat (first | refine blk_drewN ?_ _ | refine blk_drew ?_ | refine blk_alloc ?_ _)); refine blk_far ?_ NB329_354.out _; (with_reducible repeat (first | refine blk_drewN ?_ _ | refine blk_drew ?_ | refine blk_alloc ?_ _)); refine blk_far ?_ NB329_354.out _; (with_reducible repeat (first | refine blk_drewN ?_ _ | refine blk_drew ?_ | refine blk_alloc ?_ _)); exact BK329.out))⟩; have n4_ : Aside0 (w176.heap[gb348]? = some (.cells #[.bool t343, .slice Ao167 t344.length co167, .int .i64 t347] 42 (0, 0))) := ⟨(by rw [hw]; exact (by (with_reducible repeat (first | refine blk_drewN ?_ _ | refine blk_drew ?_ | refine blk_alloc ?_ _)); refine blk_far ?_ NB348_354.out _; (with_reducible repeat (first | refine blk_drewN ?_ _ | refine blk_drew ?_ | refine blk_alloc ?_ _)); refine blk_far ?_ NB348_354.out _; (with_reducible repeat (first | refine blk_drewN ?_ _ | refine blk_drew ?_ | refine blk_alloc ?_ _)); refine blk_far ?_ NB348_354.out _; (with_reducible repeat (first | refine blk_drewN ?_ _ | refine blk_drew ?_ | refine blk_alloc ?_ _)); exact BK348.out))⟩; have n5_ : Aside0 (w176.heap[gb354]? = some (.cells #[.bool t349, .slice Ao175 t350.length co175, .int .i64 t353] 42 (0, 0))) := ⟨(by rw [hw]; exact (by (with_reducible repeat (first | refine blk_drewN ?_ _ | refine blk_drew ?_ | refine blk_alloc ?_ _)); refine blk_put (cs := #[.bool t349, .slice Ao175 t350.length co175, .int .i64 0]) ?_ 2 _ rfl; (with_reducible repeat (first | refine blk_drewN ?_ _ | refine blk_drew ?_ | refine blk_alloc ?_ _)); refine blk_put (cs := #[.bool t349, .slice none 0 0, .int .i64 0]) ?_ 1 _ rfl; (with_reducible repeat (first | refine blk_drewN ?_ _ | refine blk_drew ?_ | refine blk_alloc ?_ _)); refine blk_put (cs := #[.bool false, .slice none 0 0, .int .i64 0]) ?_ 0 _ rfl; (with_reducible repeat (first | refine blk_drewN ?_ _ | refine blk_drew ?_ | refine blk_alloc ?_ _)); exact BK354.out))⟩; have n6_ : Aside0 (Below w.heap.size w w176) := ⟨(by rw [hw]; exact (hkS HB))⟩; clear hw; clear HO346; clear HO352; clear BK328; clear BK329; clear BK348; clear BK354; clear HB; have HO346 := n0_; have HO352 := n1_; have BK328 := n2_; have BK329 := n3_; have BK348 := n4_; have BK354 := n5_; have HB := n6_; clear n0_ n1_ n2_ n3_ n4_ n5_ n6_; have hcz177_0 : w176.cell? ⟨gb348, 0, none⟩ = some (.bool t343) := (blk_cell BK348.out 0).trans rfl; have hcz177_1 : w176.cell? ⟨gb348, 1, none⟩ = some (.slice Ao167 t344.length co167) := (blk_cell BK348.out 1).trans rfl; have hcz177_2 : w176.cell? ⟨gb348, 2, none⟩ = some (.int .i64 t347) := (blk_cell BK348.out 2).trans rfl; have hfz177_0 := blk_frozen BK348.out 0; have hfz177_1 := blk_frozen BK348.out 1; have hfz177_2 := blk_frozen BK348.out 2; have hcz178_0 : w176.cell? ⟨gb354, 0, none⟩ = some (.bool t349) := (blk_cell BK354.out 0).trans rfl; have hcz178_1 : w176.cell? ⟨gb354, 1, none⟩ = some (.slice Ao175 t350.length co175) := (blk_cell BK354.out 1).trans rfl; have hcz178_2 : w176.cell? ⟨gb354, 2, none⟩ = some (.int .i64 t353) := (blk_cell BK354.out 2).trans rfl; have hfz178_0 := blk_frozen BK354.out 0; have hfz178_1 := blk_frozen BK354.out 1; have hfz178_2 := blk_frozen BK354.out 2) | ((with_reducible refine gate_callee (f := 16) rfl ?_); refine goesL_ (some 31) rfl rfl Try.func16 (by kernel_rfl) rfl #[.agg #[.bool t343, .slice Ao167 t344.length co167, .int .i64 t347], .agg #[.bool t349, .slice Ao175 t350.length co175, .int .i64 t353]] rfl hkL ?_; (with_reducible refine (impl_DyCmp.calls k t343 (fun k_ => some k_ = (.slice Ao167 t344.length co167 : Value).ownBlock) _ _ t344 t347 t349 (fun k_ => some k_ = (.slice Ao175 t350.length co175 : Value).ownBlock) _ _ t350 t353 t355 _ ?side1 ?side2 A24.out).mono ?_); (case side1 => exact Kd.R_V (Kd.R_tight rfl (Kd.R_types (Kd.R_types (Kd.R_types (Kd.R_types (HO346.out) BK328.out (by decide)) BK329.out (by decide)) BK348.out (by decide)) BK354.out (by decide)))); (case side2 => exact Kd.R_V (Kd.R_tight rfl (Kd.R_types (Kd.R_types (Kd.R_types (Kd.R_types (HO352.out) BK328.out (by decide)) BK329.out (by decide)) BK348.out (by decide)) BK354.out (by decide)))); rintro e w179 ⟨rfl, hb⟩; refine ⟨_, rfl, ?_⟩; have n0_ := hkRb HO346 hb; have n1_ := hkRb HO352 hb; have n2_ := hkBb BK328 hb; have n3_ := hkBb BK329 hb; have n4_ := hkBb BK348 hb; have n5_ := hkBb BK354 hb; have n6_ := Aside0.mk (below_step (hkS HB) hb); clear HO346; clear HO352; clear BK328; clear BK329; clear BK348; clear BK354; clear HB; have HO346 := n0_; have HO352 := n1_; have BK328 := n2_; have BK329 := n3_; have BK348 := n4_; have BK354 := n5_; have HB := n6_; clear n0_ n1_ n2_ n3_ n4_ n5_ n6_; (try clear hb); (try clear hb2); (try clear hk); (try clear hi)))
        go_ret
        exact ⟨by first | rfl | (simp [errW_none, errW_some] <;> rfl) | (simp [*, errW_none, errW_some] <;> rfl), by repeat (first | (with_reducible first | exact HB.out | apply below_alloc | apply pw_below_drewN | apply below_drew1 | refine below_set ?_ GE328.out | refine below_set ?_ GE329.out | refine below_set ?_ GE348.out | refine below_set ?_ GE354.out) | exact HB.out)⟩

/-- THE ONE PURE STATEMENT of laws_FnExactDyCmp. -/
def laws_FnExactDyCmp.Pure : Prop := ∀ (a0_0 : Bool) (l0_1 : List Int) (a0_2 : Int) (a1_0 : Bool) (l1_1 : List Int) (a1_2 : Int), l0_1.length ≤ maxLen → (∀ x ∈ l0_1, (Lit.int .i64 x).wf = true) → (Lit.int .i64 a0_2).wf = true → l1_1.length ≤ maxLen → (∀ x ∈ l1_1, (Lit.int .i64 x).wf = true) → (Lit.int .i64 a1_2).wf = true → ∃ k, laws_FnExactDyCmp.f k a0_0 l0_1 a0_2 a1_0 l1_1 a1_2 = some true
theorem laws_FnExactDyCmp.walk (P : laws_FnExactDyCmp.Pure) (a0_0 : Bool) (a0_1 : Option Addr) (len0_1 cap0_1 : Nat) (z0_1 : List Int) (a0_2 : Int) (a1_0 : Bool) (a1_1 : Option Addr) (len1_1 cap1_1 : Nat) (z1_1 : List Int) (a1_2 : Int) (w : World) (w0_1 : ((a0_1 = none ∧ len0_1 = 0 ∧ cap0_1 = 0 ∧ z0_1 = []) ∨ ∃ x, a0_1 = some x ∧ len0_1 ≤ cap0_1 ∧ cap0_1 ≤ maxLen ∧ z0_1.length = cap0_1 ∧ (∀ i, i < z0_1.length → w.cell? (x.add i) = some (.int .i64 (z0_1.getD i 0))) ∧ ∀ n ∈ z0_1, (Lit.int .i64 n).wf = true)) (w0_2 : (Lit.int .i64 a0_2).wf = true) (w1_1 : ((a1_1 = none ∧ len1_1 = 0 ∧ cap1_1 = 0 ∧ z1_1 = []) ∨ ∃ x, a1_1 = some x ∧ len1_1 ≤ cap1_1 ∧ cap1_1 ≤ maxLen ∧ z1_1.length = cap1_1 ∧ (∀ i, i < z1_1.length → w.cell? (x.add i) = some (.int .i64 (z1_1.getD i 0))) ∧ ∀ n ∈ z1_1, (Lit.int .i64 n).wf = true)) (w1_2 : (Lit.int .i64 a1_2).wf = true) :
    Calls Try.prog 4 #[.agg #[.bool a0_0, .slice a0_1 len0_1 cap0_1, .int .i64 a0_2], .agg #[.bool a1_0, .slice a1_1 len1_1 cap1_1, .int .i64 a1_2]] w fun e w' => e = .returned (.bool true) ∧ Below w.heap.size w w' := by
  obtain ⟨l0_1, rfl, hr0_1, hm0_1, hw0_1, hc0_1⟩ := ReadsInt.ofRowC w0_1
  obtain ⟨l1_1, rfl, hr1_1, hm1_1, hw1_1, hc1_1⟩ := ReadsInt.ofRowC w1_1
  obtain ⟨k, h⟩ := P a0_0 l0_1 a0_2 a1_0 l1_1 a1_2 hm0_1 hw0_1 w0_2 hm1_1 hw1_1 w1_2
  refine (laws_FnExactDyCmp.calls k a0_0 _ _ l0_1 a0_2 a1_0 _ _ l1_1 a1_2 true w (Kd.C_of_reads (d := (0 : Int)) (h1 := fun _ => rfl) hr0_1) hc0_1 (Kd.C_of_reads (d := (0 : Int)) (h1 := fun _ => rfl) hr1_1) hc1_1 h).mono ?_
  rintro e w' ⟨rfl, hd⟩
  exact ⟨rfl, hd⟩

end Go.Proofs.Ytgjpahofopoflaa.PFnExactDyCmp
