-- Written by our own driver (wip/hand/hprint.py) over the seat's translation.
import Derived.Test.YtgjpahofopoflaaPFnExactNatGcdx0
import Derived.Test.YtgjpahofopoflaaPFnExactNatGcdx4
import Derived.Test.YtgjpahofopoflaaPFnExactNatGcdx5
import Derived.Test.YtgjpahofopoflaaPFnExactNatGcdx9
namespace Go.Proofs.Ytgjpahofopoflaa.PFnExactNatGcd
open Go.RowKit Go.Proofs.YtgjpahofopoflaaW.PrintWords Go.Proofs.YtgjpahofopoflaaW.PrintLast Go.Proofs.YtgjpahofopoflaaW.PrintMore
attribute [local go_sem] max2_int min2_int max_two min_two max_three min_three max_four min_four   -- for this text's walks alone
set_option linter.unusedVariables false
set_option linter.unusedSimpArgs false

/-! ### laws_FnExactNatGcd: function 8 -/
def laws_FnExactNatGcd.j0 : Nat → Bool → List Int → List Int → List Int → List Int → Option (Bool)
  | 0, _, _, _, _, _ => none
  | k + 1, x63, x406000, x407000, x419000, x431000 => if x63 = true then (some false) else ((laws_markNat.f k x431000 1).bind fun bt445 => ((laws_heldNat.f k bt445.2 1).bind fun t447 => (if t447 < 0 then (some false) else (if t447 = bt445.1 then ((laws_toNat.f k x406000).bind fun t448 => ((laws_toNat.f k x407000).bind fun t451 => ((impl_NatGcd.f k t448 t451).bind fun t454 => ((laws_eqNat.f k t454 x419000).bind fun t458 => (if t458 = true then ((laws_heldNat.f k bt445.2 1).bind fun t459 => (if t459 < 0 then (some false) else (if t459 = bt445.1 then (some true) else (some false)))) else (some false)))))) else (some false)))))
def laws_FnExactNatGcd.f (k : Nat) (l0_0 : List Int) (l1_0 : List Int) : Option (Bool) := (laws_szNat.f l0_0 1048576).bind fun t407 => (if t407 < 0 then (some true) else ((laws_szNat.f l1_0 t407).bind fun t408 => (if t408 < 0 then (some true) else ((laws_toNat.f k l0_0).bind fun t409 => ((laws_toNat.f k l1_0).bind fun t412 => ((spec_NatGcd.f k t409 t412).bind fun t415 => ((laws_toNat.f k l0_0).bind fun t419 => ((laws_toNat.f k l1_0).bind fun t423 => ((impl_NatGcd.f k t419 t423).bind fun t427 => ((laws_eqNat.f k t427 t415).bind fun t431 => (if t431 = true then ((laws_toNat.f k l0_0).bind fun t432 => ((laws_eqNat.f k t419 t432).bind fun t435 => (if t435 = true then ((laws_toNat.f k l1_0).bind fun t436 => ((laws_eqNat.f k t423 t436).bind fun t439 => (if t439 = true then ((laws_markNat.f k t419 1).bind fun bt440 => ((laws_markNat.f k t423 bt440.1).bind fun bt442 => (if bt442.1 < 0 then (laws_FnExactNatGcd.j0 k true l0_0 l1_0 t415 t427) else ((laws_eqNat.f k t427 t415).bind fun t444 => (laws_FnExactNatGcd.j0 k (!t444) l0_0 l1_0 t415 t427))))) else (some false)))) else (some false)))) else (some false))))))))))))
theorem laws_FnExactNatGcd.mono_l : ∀ k, (∀ y0 y1 y2 y3 y4, LeO (laws_FnExactNatGcd.j0 k y0 y1 y2 y3 y4) (laws_FnExactNatGcd.j0 (k + 1) y0 y1 y2 y3 y4))
  | 0 => fun _ _ _ _ _ r h => by simp [laws_FnExactNatGcd.j0] at h
  | k + 1 => by
    have ih0 := laws_FnExactNatGcd.mono_l k
    · intro y0 y1 y2 y3 y4
      unfold laws_FnExactNatGcd.j0
      repeat' first
      | (with_reducible exact ih0 _ _ _ _ _)
      | (with_reducible exact impl_NatGcd.mono _ _ _)
      | (with_reducible exact laws_eqNat.mono _ _ _)
      | (with_reducible exact laws_heldNat.mono _ _ _)
      | (with_reducible exact laws_markNat.mono _ _ _)
      | (with_reducible exact laws_toNat.mono _ _)
      | (with_reducible exact spec_NatGcd.mono _ _ _)
      | (with_reducible exact LeO.refl _)
      | (with_reducible exact LeO.none _)
      | (with_reducible refine LeO.ite ?_ ?_)
      | (with_reducible refine LeO.bind ?_ (fun _ => ?_))
      | exact ih0 _ _ _ _ _
      | exact impl_NatGcd.mono _ _ _
      | exact laws_eqNat.mono _ _ _
      | exact laws_heldNat.mono _ _ _
      | exact laws_markNat.mono _ _ _
      | exact laws_toNat.mono _ _
      | exact spec_NatGcd.mono _ _ _
      | exact LeO.none _
      | refine LeO.ite ?_ ?_
      | refine LeO.bind ?_ (fun _ => ?_)
theorem laws_FnExactNatGcd.mono : ∀ a0 a1 k, LeO (laws_FnExactNatGcd.f k a0 a1) (laws_FnExactNatGcd.f (k + 1) a0 a1) := by
  intro a0 a1 k
  have ih0 := laws_FnExactNatGcd.mono_l k
  unfold laws_FnExactNatGcd.f
  repeat' first
      | (with_reducible exact ih0 _ _ _ _ _)
      | (with_reducible exact impl_NatGcd.mono _ _ _)
      | (with_reducible exact laws_eqNat.mono _ _ _)
      | (with_reducible exact laws_heldNat.mono _ _ _)
      | (with_reducible exact laws_markNat.mono _ _ _)
      | (with_reducible exact laws_toNat.mono _ _)
      | (with_reducible exact spec_NatGcd.mono _ _ _)
      | (with_reducible exact LeO.refl _)
      | (with_reducible exact LeO.none _)
      | (with_reducible refine LeO.ite ?_ ?_)
      | (with_reducible refine LeO.bind ?_ (fun _ => ?_))
      | exact ih0 _ _ _ _ _
      | exact impl_NatGcd.mono _ _ _
      | exact laws_eqNat.mono _ _ _
      | exact laws_heldNat.mono _ _ _
      | exact laws_markNat.mono _ _ _
      | exact laws_toNat.mono _ _
      | exact spec_NatGcd.mono _ _ _
      | exact LeO.none _
      | refine LeO.ite ?_ ?_
      | refine LeO.bind ?_ (fun _ => ?_)
set_option maxHeartbeats 8000000 in
set_option maxRecDepth 100000 in
theorem laws_FnExactNatGcd.calls (k : Nat) (A0_0 : Option Addr) (c0_0 : Nat) (l0_0 : List Int) (A1_0 : Option Addr) (c1_0 : Nat) (l1_0 : List Int) (w : World) (hr0_0 : Kd.C (Kd.int .i64) w A0_0 l0_0.length l0_0) (hc0_0 : l0_0.length ≤ c0_0) (hr1_0 : Kd.C (Kd.int .i64) w A1_0 l1_0.length l1_0) (hc1_0 : l1_0.length ≤ c1_0) (h : laws_FnExactNatGcd.f k l0_0 l1_0 = some true) :
    Calls Try.prog 8 #[.agg #[.slice A0_0 l0_0.length c0_0], .agg #[.slice A1_0 l1_0.length c1_0]] w fun e w' => e = .returned (.bool true) ∧ Below w.heap.size w w' := by
  have hu31 := Try.underlying31
  have hu38 := Try.underlying38
  have HR0_0 := Aside0.mk hr0_0
  have HC0_0 := Aside0.mk hc0_0
  clear hr0_0 hc0_0
  have HR1_0 := Aside0.mk hr1_0
  have HC1_0 := Aside0.mk hc1_0
  clear hr1_0 hc1_0
  have HB := Aside0.mk (Below.refl w.heap.size w)
  have H : ((laws_szNat.f l0_0 1048576).bind fun t407 => (if t407 < 0 then (some true) else ((laws_szNat.f l1_0 t407).bind fun t408 => (if t408 < 0 then (some true) else ((laws_toNat.f k l0_0).bind fun t409 => ((laws_toNat.f k l1_0).bind fun t412 => ((spec_NatGcd.f k t409 t412).bind fun t415 => ((laws_toNat.f k l0_0).bind fun t419 => ((laws_toNat.f k l1_0).bind fun t423 => ((impl_NatGcd.f k t419 t423).bind fun t427 => ((laws_eqNat.f k t427 t415).bind fun t431 => (if t431 = true then ((laws_toNat.f k l0_0).bind fun t432 => ((laws_eqNat.f k t419 t432).bind fun t435 => (if t435 = true then ((laws_toNat.f k l1_0).bind fun t436 => ((laws_eqNat.f k t423 t436).bind fun t439 => (if t439 = true then ((laws_markNat.f k t419 1).bind fun bt440 => ((laws_markNat.f k t423 bt440.1).bind fun bt442 => (if bt442.1 < 0 then (laws_FnExactNatGcd.j0 k true l0_0 l1_0 t415 t427) else ((laws_eqNat.f k t427 t415).bind fun t444 => (laws_FnExactNatGcd.j0 k (!t444) l0_0 l1_0 t415 t427))))) else (some false)))) else (some false)))) else (some false))))))))))))) = some true := h
  clear h
  replace H := Option.bind_eq_some_iff.mp H
  obtain ⟨t407, A30, H⟩ := H
  replace H : (if t407 < 0 then (some true) else ((laws_szNat.f l1_0 t407).bind fun t408 => (if t408 < 0 then (some true) else ((laws_toNat.f k l0_0).bind fun t409 => ((laws_toNat.f k l1_0).bind fun t412 => ((spec_NatGcd.f k t409 t412).bind fun t415 => ((laws_toNat.f k l0_0).bind fun t419 => ((laws_toNat.f k l1_0).bind fun t423 => ((impl_NatGcd.f k t419 t423).bind fun t427 => ((laws_eqNat.f k t427 t415).bind fun t431 => (if t431 = true then ((laws_toNat.f k l0_0).bind fun t432 => ((laws_eqNat.f k t419 t432).bind fun t435 => (if t435 = true then ((laws_toNat.f k l1_0).bind fun t436 => ((laws_eqNat.f k t423 t436).bind fun t439 => (if t439 = true then ((laws_markNat.f k t419 1).bind fun bt440 => ((laws_markNat.f k t423 bt440.1).bind fun bt442 => (if bt442.1 < 0 then (laws_FnExactNatGcd.j0 k true l0_0 l1_0 t415 t427) else ((laws_eqNat.f k t427 t415).bind fun t444 => (laws_FnExactNatGcd.j0 k (!t444) l0_0 l1_0 t415 t427))))) else (some false)))) else (some false)))) else (some false)))))))))))) = some true := H
  have A3 := Aside0.mk A30
  clear A30
  by_cases c4 : t407 < 0
  · rw [if_pos c4] at H
    have c4b0 : decide (t407 < 0) = true := decide_eq_true c4
    clear c4
    clear H
    go_enter Try.func8, Try.ntmps8
    go_wp2_with (first | ((with_reducible refine gate_dst (N := 2) rfl ?_); refine box_event ?hg (N := 2) ?hd (cs := #[.slice A0_0 l0_0.length c0_0]) (t := 31) ?hr ?_; (case hd => rfl); (case hg => rfl); (case hr => first | (go_simp; done) | (go_simp; rfl)); intro gb405 hg w5 hbox hb; have n0_ := Aside0.mk (below_step (hkS HB) hb); have n1_ := Aside0.mk (hbox); have n2_ := hkG hg (hkS HB); have n3_ := hkG hg (hkS HB); clear HB; have HB := n0_; have BK405 := n1_; have GW405 := n2_; have GE405 := n3_; clear n0_ n1_ n2_ n3_; clear hb hbox hg) | ((with_reducible refine gate_dst (N := 3) rfl ?_); refine box_event ?hg (N := 3) ?hd (cs := #[.slice A1_0 l1_0.length c1_0]) (t := 31) ?hr ?_; (case hd => rfl); (case hg => rfl); (case hr => first | (go_simp; done) | (go_simp; rfl)); intro gb406 hg w6 hbox hb; have n0_ := hkBb BK405 hb; have n1_ := Aside0.mk (below_step (hkS HB) hb); have n2_ := Aside0.mk (hbox); have n3_ := hkG hg (hkS HB); have n4_ := hkG hg (hkS HB); have n5_ := hkN hg BK405; have n6_ := hkM hg BK405; clear BK405; clear HB; have BK405 := n0_; have HB := n1_; have BK406 := n2_; have GW406 := n3_; have GE406 := n4_; have NB405_406 := n5_; have NB406_405 := n6_; clear n0_ n1_ n2_ n3_ n4_ n5_ n6_; clear hb hbox hg; have hnb7 := NB405_406.out; have hnc7 := NB406_405.out; have hcz8_0 : w6.cell? ⟨gb405, 0, none⟩ = some (.slice A0_0 l0_0.length c0_0) := (blk_cell BK405.out 0).trans rfl; have hfz8_0 := blk_frozen BK405.out 0) | ((with_reducible refine gate_callee (f := 24) rfl ?_); refine goesL_ (some 16) rfl rfl Try.func24 (by kernel_rfl) rfl #[.agg #[.slice A0_0 l0_0.length c0_0], .int .i64 1048576] rfl hkL ?_; (with_reducible refine (laws_szNat.calls _ _ l0_0 1048576 t407 _ ?side1 ?side2 A3.out).mono ?_); (case side1 => repeat (first | exact (Kd.C_below HR0_0.out HB.out) | (with_reducible refine Kd.C_alloc ?_ _) | (with_reducible refine Kd.C_drewN ?_ _) | (with_reducible refine Kd.C_drew ?_))); (case side2 => exact HC0_0.out); rintro e w9 ⟨rfl, hb⟩; refine ⟨_, rfl, ?_⟩; have n0_ := hkBb BK405 hb; have n1_ := hkBb BK406 hb; have n2_ := Aside0.mk (below_step (hkS HB) hb); clear BK405; clear BK406; clear HB; have BK405 := n0_; have BK406 := n1_; have HB := n2_; clear n0_ n1_ n2_; (try clear hb); (try clear hb2); (try clear hk); (try clear hi)))
    go_ret
    exact ⟨by first | rfl | (simp [errW_none, errW_some] <;> rfl) | (simp [*, errW_none, errW_some] <;> rfl), by repeat (first | (with_reducible first | exact HB.out | apply below_alloc | apply pw_below_drewN | apply below_drew1 | refine below_set ?_ GE405.out | refine below_set ?_ GE406.out) | exact HB.out)⟩
  · rw [if_neg c4] at H
    have c4b0 : decide (t407 < 0) = false := decide_eq_false c4
    clear c4
    replace H := Option.bind_eq_some_iff.mp H
    obtain ⟨t408, A100, H⟩ := H
    replace H : (if t408 < 0 then (some true) else ((laws_toNat.f k l0_0).bind fun t409 => ((laws_toNat.f k l1_0).bind fun t412 => ((spec_NatGcd.f k t409 t412).bind fun t415 => ((laws_toNat.f k l0_0).bind fun t419 => ((laws_toNat.f k l1_0).bind fun t423 => ((impl_NatGcd.f k t419 t423).bind fun t427 => ((laws_eqNat.f k t427 t415).bind fun t431 => (if t431 = true then ((laws_toNat.f k l0_0).bind fun t432 => ((laws_eqNat.f k t419 t432).bind fun t435 => (if t435 = true then ((laws_toNat.f k l1_0).bind fun t436 => ((laws_eqNat.f k t423 t436).bind fun t439 => (if t439 = true then ((laws_markNat.f k t419 1).bind fun bt440 => ((laws_markNat.f k t423 bt440.1).bind fun bt442 => (if bt442.1 < 0 then (laws_FnExactNatGcd.j0 k true l0_0 l1_0 t415 t427) else ((laws_eqNat.f k t427 t415).bind fun t444 => (laws_FnExactNatGcd.j0 k (!t444) l0_0 l1_0 t415 t427))))) else (some false)))) else (some false)))) else (some false)))))))))) = some true := H
    have A10 := Aside0.mk A100
    clear A100
    by_cases c11 : t408 < 0
    · rw [if_pos c11] at H
      have c11b0 : decide (t408 < 0) = true := decide_eq_true c11
      clear c11
      clear H
      go_enter Try.func8, Try.ntmps8
      go_wp2_with (first | ((with_reducible refine gate_dst (N := 2) rfl ?_); refine box_event ?hg (N := 2) ?hd (cs := #[.slice A0_0 l0_0.length c0_0]) (t := 31) ?hr ?_; (case hd => rfl); (case hg => rfl); (case hr => first | (go_simp; done) | (go_simp; rfl)); intro gb405 hg w12 hbox hb; have n0_ := Aside0.mk (below_step (hkS HB) hb); have n1_ := Aside0.mk (hbox); have n2_ := hkG hg (hkS HB); have n3_ := hkG hg (hkS HB); clear HB; have HB := n0_; have BK405 := n1_; have GW405 := n2_; have GE405 := n3_; clear n0_ n1_ n2_ n3_; clear hb hbox hg) | ((with_reducible refine gate_dst (N := 3) rfl ?_); refine box_event ?hg (N := 3) ?hd (cs := #[.slice A1_0 l1_0.length c1_0]) (t := 31) ?hr ?_; (case hd => rfl); (case hg => rfl); (case hr => first | (go_simp; done) | (go_simp; rfl)); intro gb406 hg w13 hbox hb; have n0_ := hkBb BK405 hb; have n1_ := Aside0.mk (below_step (hkS HB) hb); have n2_ := Aside0.mk (hbox); have n3_ := hkG hg (hkS HB); have n4_ := hkG hg (hkS HB); have n5_ := hkN hg BK405; have n6_ := hkM hg BK405; clear BK405; clear HB; have BK405 := n0_; have HB := n1_; have BK406 := n2_; have GW406 := n3_; have GE406 := n4_; have NB405_406 := n5_; have NB406_405 := n6_; clear n0_ n1_ n2_ n3_ n4_ n5_ n6_; clear hb hbox hg; have hnb14 := NB405_406.out; have hnc14 := NB406_405.out; have hcz15_0 : w13.cell? ⟨gb405, 0, none⟩ = some (.slice A0_0 l0_0.length c0_0) := (blk_cell BK405.out 0).trans rfl; have hfz15_0 := blk_frozen BK405.out 0) | ((with_reducible refine gate_callee (f := 24) rfl ?_); refine goesL_ (some 16) rfl rfl Try.func24 (by kernel_rfl) rfl #[.agg #[.slice A0_0 l0_0.length c0_0], .int .i64 1048576] rfl hkL ?_; (with_reducible refine (laws_szNat.calls _ _ l0_0 1048576 t407 _ ?side1 ?side2 A3.out).mono ?_); (case side1 => repeat (first | exact (Kd.C_below HR0_0.out HB.out) | (with_reducible refine Kd.C_alloc ?_ _) | (with_reducible refine Kd.C_drewN ?_ _) | (with_reducible refine Kd.C_drew ?_))); (case side2 => exact HC0_0.out); rintro e w16 ⟨rfl, hb⟩; refine ⟨_, rfl, ?_⟩; have n0_ := hkBb BK405 hb; have n1_ := hkBb BK406 hb; have n2_ := Aside0.mk (below_step (hkS HB) hb); clear BK405; clear BK406; clear HB; have BK405 := n0_; have BK406 := n1_; have HB := n2_; clear n0_ n1_ n2_; (try clear hb); (try clear hb2); (try clear hk); (try clear hi); have hcz17_0 : w16.cell? ⟨gb406, 0, none⟩ = some (.slice A1_0 l1_0.length c1_0) := (blk_cell BK406.out 0).trans rfl; have hfz17_0 := blk_frozen BK406.out 0) | ((with_reducible refine gate_callee (f := 24) rfl ?_); refine goesL_ (some 21) rfl rfl Try.func24 (by kernel_rfl) rfl #[.agg #[.slice A1_0 l1_0.length c1_0], .int .i64 t407] rfl hkL ?_; (with_reducible refine (laws_szNat.calls _ _ l1_0 t407 t408 _ ?side1 ?side2 A10.out).mono ?_); (case side1 => repeat (first | exact (Kd.C_below HR1_0.out HB.out) | (with_reducible refine Kd.C_alloc ?_ _) | (with_reducible refine Kd.C_drewN ?_ _) | (with_reducible refine Kd.C_drew ?_))); (case side2 => exact HC1_0.out); rintro e w18 ⟨rfl, hb⟩; refine ⟨_, rfl, ?_⟩; have n0_ := hkBb BK405 hb; have n1_ := hkBb BK406 hb; have n2_ := Aside0.mk (below_step (hkS HB) hb); clear BK405; clear BK406; clear HB; have BK405 := n0_; have BK406 := n1_; have HB := n2_; clear n0_ n1_ n2_; (try clear hb); (try clear hb2); (try clear hk); (try clear hi)))
      go_ret
      exact ⟨by first | rfl | (simp [errW_none, errW_some] <;> rfl) | (simp [*, errW_none, errW_some] <;> rfl), by repeat (first | (with_reducible first | exact HB.out | apply below_alloc | apply pw_below_drewN | apply below_drew1 | refine below_set ?_ GE405.out | refine below_set ?_ GE406.out) | exact HB.out)⟩
    · rw [if_neg c11] at H
      have c11b0 : decide (t408 < 0) = false := decide_eq_false c11
      clear c11
      replace H := Option.bind_eq_some_iff.mp H
      obtain ⟨t409, A190, H⟩ := H
      replace H : ((laws_toNat.f k l1_0).bind fun t412 => ((spec_NatGcd.f k t409 t412).bind fun t415 => ((laws_toNat.f k l0_0).bind fun t419 => ((laws_toNat.f k l1_0).bind fun t423 => ((impl_NatGcd.f k t419 t423).bind fun t427 => ((laws_eqNat.f k t427 t415).bind fun t431 => (if t431 = true then ((laws_toNat.f k l0_0).bind fun t432 => ((laws_eqNat.f k t419 t432).bind fun t435 => (if t435 = true then ((laws_toNat.f k l1_0).bind fun t436 => ((laws_eqNat.f k t423 t436).bind fun t439 => (if t439 = true then ((laws_markNat.f k t419 1).bind fun bt440 => ((laws_markNat.f k t423 bt440.1).bind fun bt442 => (if bt442.1 < 0 then (laws_FnExactNatGcd.j0 k true l0_0 l1_0 t415 t427) else ((laws_eqNat.f k t427 t415).bind fun t444 => (laws_FnExactNatGcd.j0 k (!t444) l0_0 l1_0 t415 t427))))) else (some false)))) else (some false)))) else (some false)))))))) = some true := H
      have A19 := Aside0.mk A190
      clear A190
      replace H := Option.bind_eq_some_iff.mp H
      obtain ⟨t412, A200, H⟩ := H
      replace H : ((spec_NatGcd.f k t409 t412).bind fun t415 => ((laws_toNat.f k l0_0).bind fun t419 => ((laws_toNat.f k l1_0).bind fun t423 => ((impl_NatGcd.f k t419 t423).bind fun t427 => ((laws_eqNat.f k t427 t415).bind fun t431 => (if t431 = true then ((laws_toNat.f k l0_0).bind fun t432 => ((laws_eqNat.f k t419 t432).bind fun t435 => (if t435 = true then ((laws_toNat.f k l1_0).bind fun t436 => ((laws_eqNat.f k t423 t436).bind fun t439 => (if t439 = true then ((laws_markNat.f k t419 1).bind fun bt440 => ((laws_markNat.f k t423 bt440.1).bind fun bt442 => (if bt442.1 < 0 then (laws_FnExactNatGcd.j0 k true l0_0 l1_0 t415 t427) else ((laws_eqNat.f k t427 t415).bind fun t444 => (laws_FnExactNatGcd.j0 k (!t444) l0_0 l1_0 t415 t427))))) else (some false)))) else (some false)))) else (some false))))))) = some true := H
      have A20 := Aside0.mk A200
      clear A200
      replace H := Option.bind_eq_some_iff.mp H
      obtain ⟨t415, A210, H⟩ := H
      replace H : ((laws_toNat.f k l0_0).bind fun t419 => ((laws_toNat.f k l1_0).bind fun t423 => ((impl_NatGcd.f k t419 t423).bind fun t427 => ((laws_eqNat.f k t427 t415).bind fun t431 => (if t431 = true then ((laws_toNat.f k l0_0).bind fun t432 => ((laws_eqNat.f k t419 t432).bind fun t435 => (if t435 = true then ((laws_toNat.f k l1_0).bind fun t436 => ((laws_eqNat.f k t423 t436).bind fun t439 => (if t439 = true then ((laws_markNat.f k t419 1).bind fun bt440 => ((laws_markNat.f k t423 bt440.1).bind fun bt442 => (if bt442.1 < 0 then (laws_FnExactNatGcd.j0 k true l0_0 l1_0 t415 t427) else ((laws_eqNat.f k t427 t415).bind fun t444 => (laws_FnExactNatGcd.j0 k (!t444) l0_0 l1_0 t415 t427))))) else (some false)))) else (some false)))) else (some false)))))) = some true := H
      have A21 := Aside0.mk A210
      clear A210
      replace H := Option.bind_eq_some_iff.mp H
      obtain ⟨t419, A220, H⟩ := H
      replace H : ((laws_toNat.f k l1_0).bind fun t423 => ((impl_NatGcd.f k t419 t423).bind fun t427 => ((laws_eqNat.f k t427 t415).bind fun t431 => (if t431 = true then ((laws_toNat.f k l0_0).bind fun t432 => ((laws_eqNat.f k t419 t432).bind fun t435 => (if t435 = true then ((laws_toNat.f k l1_0).bind fun t436 => ((laws_eqNat.f k t423 t436).bind fun t439 => (if t439 = true then ((laws_markNat.f k t419 1).bind fun bt440 => ((laws_markNat.f k t423 bt440.1).bind fun bt442 => (if bt442.1 < 0 then (laws_FnExactNatGcd.j0 k true l0_0 l1_0 t415 t427) else ((laws_eqNat.f k t427 t415).bind fun t444 => (laws_FnExactNatGcd.j0 k (!t444) l0_0 l1_0 t415 t427))))) else (some false)))) else (some false)))) else (some false))))) = some true := H
      have A22 := Aside0.mk A220
      clear A220
      replace H := Option.bind_eq_some_iff.mp H
      obtain ⟨t423, A230, H⟩ := H
      replace H : ((impl_NatGcd.f k t419 t423).bind fun t427 => ((laws_eqNat.f k t427 t415).bind fun t431 => (if t431 = true then ((laws_toNat.f k l0_0).bind fun t432 => ((laws_eqNat.f k t419 t432).bind fun t435 => (if t435 = true then ((laws_toNat.f k l1_0).bind fun t436 => ((laws_eqNat.f k t423 t436).bind fun t439 => (if t439 = true then ((laws_markNat.f k t419 1).bind fun bt440 => ((laws_markNat.f k t423 bt440.1).bind fun bt442 => (if bt442.1 < 0 then (laws_FnExactNatGcd.j0 k true l0_0 l1_0 t415 t427) else ((laws_eqNat.f k t427 t415).bind fun t444 => (laws_FnExactNatGcd.j0 k (!t444) l0_0 l1_0 t415 t427))))) else (some false)))) else (some false)))) else (some false)))) = some true := H
      have A23 := Aside0.mk A230
      clear A230
      replace H := Option.bind_eq_some_iff.mp H
      obtain ⟨t427, A240, H⟩ := H
      replace H : ((laws_eqNat.f k t427 t415).bind fun t431 => (if t431 = true then ((laws_toNat.f k l0_0).bind fun t432 => ((laws_eqNat.f k t419 t432).bind fun t435 => (if t435 = true then ((laws_toNat.f k l1_0).bind fun t436 => ((laws_eqNat.f k t423 t436).bind fun t439 => (if t439 = true then ((laws_markNat.f k t419 1).bind fun bt440 => ((laws_markNat.f k t423 bt440.1).bind fun bt442 => (if bt442.1 < 0 then (laws_FnExactNatGcd.j0 k true l0_0 l1_0 t415 t427) else ((laws_eqNat.f k t427 t415).bind fun t444 => (laws_FnExactNatGcd.j0 k (!t444) l0_0 l1_0 t415 t427))))) else (some false)))) else (some false)))) else (some false))) = some true := H
      have A24 := Aside0.mk A240
      clear A240
      replace H := Option.bind_eq_some_iff.mp H
      obtain ⟨t431, A250, H⟩ := H
      replace H : (if t431 = true then ((laws_toNat.f k l0_0).bind fun t432 => ((laws_eqNat.f k t419 t432).bind fun t435 => (if t435 = true then ((laws_toNat.f k l1_0).bind fun t436 => ((laws_eqNat.f k t423 t436).bind fun t439 => (if t439 = true then ((laws_markNat.f k t419 1).bind fun bt440 => ((laws_markNat.f k t423 bt440.1).bind fun bt442 => (if bt442.1 < 0 then (laws_FnExactNatGcd.j0 k true l0_0 l1_0 t415 t427) else ((laws_eqNat.f k t427 t415).bind fun t444 => (laws_FnExactNatGcd.j0 k (!t444) l0_0 l1_0 t415 t427))))) else (some false)))) else (some false)))) else (some false)) = some true := H
      have A25 := Aside0.mk A250
      clear A250
      by_cases c26 : t431 = true
      · subst c26
        have H1 : ((laws_toNat.f k l0_0).bind fun t432 => ((laws_eqNat.f k t419 t432).bind fun t435 => (if t435 = true then ((laws_toNat.f k l1_0).bind fun t436 => ((laws_eqNat.f k t423 t436).bind fun t439 => (if t439 = true then ((laws_markNat.f k t419 1).bind fun bt440 => ((laws_markNat.f k t423 bt440.1).bind fun bt442 => (if bt442.1 < 0 then (laws_FnExactNatGcd.j0 k true l0_0 l1_0 t415 t427) else ((laws_eqNat.f k t427 t415).bind fun t444 => (laws_FnExactNatGcd.j0 k (!t444) l0_0 l1_0 t415 t427))))) else (some false)))) else (some false)))) = some true := by rw [if_pos rfl] at H; exact H
        clear H
        have H := H1
        clear H1
        replace H := Option.bind_eq_some_iff.mp H
        obtain ⟨t432, A270, H⟩ := H
        replace H : ((laws_eqNat.f k t419 t432).bind fun t435 => (if t435 = true then ((laws_toNat.f k l1_0).bind fun t436 => ((laws_eqNat.f k t423 t436).bind fun t439 => (if t439 = true then ((laws_markNat.f k t419 1).bind fun bt440 => ((laws_markNat.f k t423 bt440.1).bind fun bt442 => (if bt442.1 < 0 then (laws_FnExactNatGcd.j0 k true l0_0 l1_0 t415 t427) else ((laws_eqNat.f k t427 t415).bind fun t444 => (laws_FnExactNatGcd.j0 k (!t444) l0_0 l1_0 t415 t427))))) else (some false)))) else (some false))) = some true := H
        have A27 := Aside0.mk A270
        clear A270
        replace H := Option.bind_eq_some_iff.mp H
        obtain ⟨t435, A280, H⟩ := H
        replace H : (if t435 = true then ((laws_toNat.f k l1_0).bind fun t436 => ((laws_eqNat.f k t423 t436).bind fun t439 => (if t439 = true then ((laws_markNat.f k t419 1).bind fun bt440 => ((laws_markNat.f k t423 bt440.1).bind fun bt442 => (if bt442.1 < 0 then (laws_FnExactNatGcd.j0 k true l0_0 l1_0 t415 t427) else ((laws_eqNat.f k t427 t415).bind fun t444 => (laws_FnExactNatGcd.j0 k (!t444) l0_0 l1_0 t415 t427))))) else (some false)))) else (some false)) = some true := H
        have A28 := Aside0.mk A280
        clear A280
        by_cases c29 : t435 = true
        · subst c29
          have H1 : ((laws_toNat.f k l1_0).bind fun t436 => ((laws_eqNat.f k t423 t436).bind fun t439 => (if t439 = true then ((laws_markNat.f k t419 1).bind fun bt440 => ((laws_markNat.f k t423 bt440.1).bind fun bt442 => (if bt442.1 < 0 then (laws_FnExactNatGcd.j0 k true l0_0 l1_0 t415 t427) else ((laws_eqNat.f k t427 t415).bind fun t444 => (laws_FnExactNatGcd.j0 k (!t444) l0_0 l1_0 t415 t427))))) else (some false)))) = some true := by rw [if_pos rfl] at H; exact H
          clear H
          have H := H1
          clear H1
          replace H := Option.bind_eq_some_iff.mp H
          obtain ⟨t436, A300, H⟩ := H
          replace H : ((laws_eqNat.f k t423 t436).bind fun t439 => (if t439 = true then ((laws_markNat.f k t419 1).bind fun bt440 => ((laws_markNat.f k t423 bt440.1).bind fun bt442 => (if bt442.1 < 0 then (laws_FnExactNatGcd.j0 k true l0_0 l1_0 t415 t427) else ((laws_eqNat.f k t427 t415).bind fun t444 => (laws_FnExactNatGcd.j0 k (!t444) l0_0 l1_0 t415 t427))))) else (some false))) = some true := H
          have A30 := Aside0.mk A300
          clear A300
          replace H := Option.bind_eq_some_iff.mp H
          obtain ⟨t439, A310, H⟩ := H
          replace H : (if t439 = true then ((laws_markNat.f k t419 1).bind fun bt440 => ((laws_markNat.f k t423 bt440.1).bind fun bt442 => (if bt442.1 < 0 then (laws_FnExactNatGcd.j0 k true l0_0 l1_0 t415 t427) else ((laws_eqNat.f k t427 t415).bind fun t444 => (laws_FnExactNatGcd.j0 k (!t444) l0_0 l1_0 t415 t427))))) else (some false)) = some true := H
          have A31 := Aside0.mk A310
          clear A310
          by_cases c32 : t439 = true
          · subst c32
            have H1 : ((laws_markNat.f k t419 1).bind fun bt440 => ((laws_markNat.f k t423 bt440.1).bind fun bt442 => (if bt442.1 < 0 then (laws_FnExactNatGcd.j0 k true l0_0 l1_0 t415 t427) else ((laws_eqNat.f k t427 t415).bind fun t444 => (laws_FnExactNatGcd.j0 k (!t444) l0_0 l1_0 t415 t427))))) = some true := by rw [if_pos rfl] at H; exact H
            clear H
            have H := H1
            clear H1
            replace H := Option.bind_eq_some_iff.mp H
            obtain ⟨⟨t440, t441⟩, A330, H⟩ := H
            replace H : ((laws_markNat.f k t423 t440).bind fun bt442 => (if bt442.1 < 0 then (laws_FnExactNatGcd.j0 k true l0_0 l1_0 t415 t427) else ((laws_eqNat.f k t427 t415).bind fun t444 => (laws_FnExactNatGcd.j0 k (!t444) l0_0 l1_0 t415 t427)))) = some true := H
            have A33 := Aside0.mk A330
            clear A330
            replace H := Option.bind_eq_some_iff.mp H
            obtain ⟨⟨t442, t443⟩, A340, H⟩ := H
            replace H : (if t442 < 0 then (laws_FnExactNatGcd.j0 k true l0_0 l1_0 t415 t427) else ((laws_eqNat.f k t427 t415).bind fun t444 => (laws_FnExactNatGcd.j0 k (!t444) l0_0 l1_0 t415 t427))) = some true := H
            have A34 := Aside0.mk A340
            clear A340
            have HC35 := Aside0.mk H
            clear H
            go_enter Try.func8, Try.ntmps8
            try go_wp2_with (first | ((with_reducible refine gate_dst (N := 2) rfl ?_); refine box_event ?hg (N := 2) ?hd (cs := #[.slice A0_0 l0_0.length c0_0]) (t := 31) ?hr ?_; (case hd => rfl); (case hg => rfl); (case hr => first | (go_simp; done) | (go_simp; rfl)); intro gb405 hg w36 hbox hb; have n0_ := Aside0.mk (below_step (hkS HB) hb); have n1_ := Aside0.mk (hbox); have n2_ := hkG hg (hkS HB); have n3_ := hkG hg (hkS HB); clear HB; have HB := n0_; have BK405 := n1_; have GW405 := n2_; have GE405 := n3_; clear n0_ n1_ n2_ n3_; clear hb hbox hg) | ((with_reducible refine gate_dst (N := 3) rfl ?_); refine box_event ?hg (N := 3) ?hd (cs := #[.slice A1_0 l1_0.length c1_0]) (t := 31) ?hr ?_; (case hd => rfl); (case hg => rfl); (case hr => first | (go_simp; done) | (go_simp; rfl)); intro gb406 hg w37 hbox hb; have n0_ := hkBb BK405 hb; have n1_ := Aside0.mk (below_step (hkS HB) hb); have n2_ := Aside0.mk (hbox); have n3_ := hkG hg (hkS HB); have n4_ := hkG hg (hkS HB); have n5_ := hkN hg BK405; have n6_ := hkM hg BK405; clear BK405; clear HB; have BK405 := n0_; have HB := n1_; have BK406 := n2_; have GW406 := n3_; have GE406 := n4_; have NB405_406 := n5_; have NB406_405 := n6_; clear n0_ n1_ n2_ n3_ n4_ n5_ n6_; clear hb hbox hg; have hnb38 := NB405_406.out; have hnc38 := NB406_405.out; have hcz39_0 : w37.cell? ⟨gb405, 0, none⟩ = some (.slice A0_0 l0_0.length c0_0) := (blk_cell BK405.out 0).trans rfl; have hfz39_0 := blk_frozen BK405.out 0) | ((with_reducible refine gate_callee (f := 24) rfl ?_); refine goesL_ (some 16) rfl rfl Try.func24 (by kernel_rfl) rfl #[.agg #[.slice A0_0 l0_0.length c0_0], .int .i64 1048576] rfl hkL ?_; (with_reducible refine (laws_szNat.calls _ _ l0_0 1048576 t407 _ ?side1 ?side2 A3.out).mono ?_); (case side1 => repeat (first | exact (Kd.C_below HR0_0.out HB.out) | (with_reducible refine Kd.C_alloc ?_ _) | (with_reducible refine Kd.C_drewN ?_ _) | (with_reducible refine Kd.C_drew ?_))); (case side2 => exact HC0_0.out); rintro e w40 ⟨rfl, hb⟩; refine ⟨_, rfl, ?_⟩; have n0_ := hkBb BK405 hb; have n1_ := hkBb BK406 hb; have n2_ := Aside0.mk (below_step (hkS HB) hb); clear BK405; clear BK406; clear HB; have BK405 := n0_; have BK406 := n1_; have HB := n2_; clear n0_ n1_ n2_; (try clear hb); (try clear hb2); (try clear hk); (try clear hi); have hcz41_0 : w40.cell? ⟨gb406, 0, none⟩ = some (.slice A1_0 l1_0.length c1_0) := (blk_cell BK406.out 0).trans rfl; have hfz41_0 := blk_frozen BK406.out 0) | ((with_reducible refine gate_callee (f := 24) rfl ?_); refine goesL_ (some 21) rfl rfl Try.func24 (by kernel_rfl) rfl #[.agg #[.slice A1_0 l1_0.length c1_0], .int .i64 t407] rfl hkL ?_; (with_reducible refine (laws_szNat.calls _ _ l1_0 t407 t408 _ ?side1 ?side2 A10.out).mono ?_); (case side1 => repeat (first | exact (Kd.C_below HR1_0.out HB.out) | (with_reducible refine Kd.C_alloc ?_ _) | (with_reducible refine Kd.C_drewN ?_ _) | (with_reducible refine Kd.C_drew ?_))); (case side2 => exact HC1_0.out); rintro e w42 ⟨rfl, hb⟩; refine ⟨_, rfl, ?_⟩; have n0_ := hkBb BK405 hb; have n1_ := hkBb BK406 hb; have n2_ := Aside0.mk (below_step (hkS HB) hb); clear BK405; clear BK406; clear HB; have BK405 := n0_; have BK406 := n1_; have HB := n2_; clear n0_ n1_ n2_; (try clear hb); (try clear hb2); (try clear hk); (try clear hi)))
            have n0_ := Aside0.mk (blk_drew BK405.out)
            have n1_ := Aside0.mk (blk_drew BK406.out)
            have n2_ := Aside0.mk (below_drew1 HB.out)
            clear BK405
            clear BK406
            clear HB
            have BK405 := n0_
            have BK406 := n1_
            have HB := n2_
            clear n0_ n1_ n2_
            refine start_ (n := 7) (S := fun w' => w'.cell? ⟨gb405, 0, none⟩ = some (.slice A0_0 l0_0.length c0_0) ∧ w'.cell? ⟨gb406, 0, none⟩ = some (.slice A1_0 l1_0.length c1_0)) (ds := []) #[false, false, false, false, false, false, false] (by kernel_rfl) rfl rfl ⟨(blk_cell BK405.out 0).trans rfl, (blk_cell BK406.out 0).trans rfl⟩ (fun hHeld => ?_)
            generalize w42.drew = w43 at BK405 BK406 HB hHeld ⊢
            refine take_ (i := 0) (N := some 24) (v := ?_) (a' := ?_) #[true, false, false, false, false, false, false] rfl rfl (by kernel_rfl) (fun _ _ _ h => h) (Or.inl ⟨by rfl, ?_⟩) hHeld ?_ ?_
            rotate_left
            · rintro w' ⟨s0, s1⟩
              go_simp
              with_reducible rfl
            rotate_left
            · simp only [Act.put, List.setIfInBounds_toArray, List.set_cons_zero, List.set_cons_succ, i64_w, i32_w]
              rfl
            refine take_ (i := 2) (N := some 26) (v := ?_) (a' := ?_) #[true, false, true, false, false, false, false] rfl rfl (by kernel_rfl) (fun _ _ _ h => h) (Or.inl ⟨by rfl, ?_⟩) hHeld ?_ ?_
            rotate_left
            · rintro w' ⟨s0, s1⟩
              go_simp
              with_reducible rfl
            rotate_left
            · simp only [Act.put, List.setIfInBounds_toArray, List.set_cons_zero, List.set_cons_succ, i64_w, i32_w]
              rfl
            refine join_ (σ := Value × Value × Value × Nat) 1 #[true, true, true, true, true, true, false] (fun s_ => [(25, .agg #[s_.1]), (27, .agg #[s_.2.1]), (28, .agg #[s_.2.2.1]), (6, .pointer (some ⟨s_.2.2.2, 0, none⟩))]) (fun s_ w' => (w'.cell? ⟨gb405, 0, none⟩ = some (.slice A0_0 l0_0.length c0_0) ∧ w'.cell? ⟨gb406, 0, none⟩ = some (.slice A1_0 l1_0.length c1_0)) ∧ (Kd.R (Kd.int .i64) 3 w' w.heap.size (fun k_ => some k_ ≠ (s_.2.1 : Value).ownBlock ∧ some k_ ≠ (s_.2.2.1 : Value).ownBlock) s_.1 t409) ∧ (Kd.R (Kd.int .i64) 3 w' w.heap.size (fun k_ => some k_ ≠ (s_.1 : Value).ownBlock ∧ some k_ ≠ (s_.2.2.1 : Value).ownBlock) s_.2.1 t412) ∧ (Kd.R (Kd.int .i64) 3 w' w.heap.size (fun k_ => some k_ ≠ (s_.1 : Value).ownBlock ∧ some k_ ≠ (s_.2.1 : Value).ownBlock) s_.2.2.1 t415) ∧ (w'.heap[gb405]? = some (.cells #[.slice A0_0 l0_0.length c0_0] 31 (0, 0))) ∧ (w'.heap[gb406]? = some (.cells #[.slice A1_0 l1_0.length c1_0] 31 (0, 0))) ∧ (w'.heap[s_.2.2.2]? = some (.cells #[.slice none 0 0] 38 (0, 0))) ∧ (w.heap.size ≤ s_.2.2.2) ∧ (w.heap.size ≤ s_.2.2.2) ∧ (gb405 ≠ s_.2.2.2) ∧ (s_.2.2.2 ≠ gb405) ∧ (gb406 ≠ s_.2.2.2) ∧ (s_.2.2.2 ≠ gb406) ∧ (Below w.heap.size w w')) ?_ ?_
            rotate_left
            · intro hCont
              refine two_ (i := 1) (j := 5) (Ni := some 25) (Nj := some 6) #[true, true, true, false, false, false, false] #[true, false, true, false, false, true, false] rfl rfl rfl rfl (by kernel_rfl) (by decide) (by decide) (fun K hK => ?_) (fun K hK => ?_)
              · skip
                refine goes_ Try.func26 (by kernel_rfl) rfl #[.agg #[.slice A0_0 l0_0.length c0_0]] (by rfl) rfl rfl hkL ?_
                with_reducible refine (laws_toNat.calls k _ _ l0_0 t409 _ ?side1 ?side2 A19.out).mono ?_
                (case side1 => repeat (first | exact (Kd.C_below HR0_0.out HB.out) | (with_reducible refine Kd.C_alloc ?_ _) | (with_reducible refine Kd.C_drewN ?_ _) | (with_reducible refine Kd.C_drew ?_)))
                (case side2 => exact HC0_0.out)
                rintro e w44 ⟨v410, rfl, ho0, hb⟩
                refine ⟨_, rfl, ?_⟩
                have n0_ := Aside0.mk (Kd.R_lower ho0 (below_size (hkS HB)))
                have n1_ := hkBb BK405 hb
                have n2_ := hkBb BK406 hb
                have n3_ := Aside0.mk (below_step (hkS HB) hb)
                clear BK405
                clear BK406
                clear HB
                have HO411 := n0_
                have BK405 := n1_
                have BK406 := n2_
                have HB := n3_
                clear n0_ n1_ n2_ n3_
                (try clear hb)
                (try clear hb2)
                (try clear hk)
                (try clear hi)
                (try clear ho0)
                refine hK.out _ _ ⟨(blk_cell BK405.out 0).trans rfl, (blk_cell BK406.out 0).trans rfl⟩ (fun hHeld => ?_)
                clear hK K
                refine norm_ (a' := ?_) ?_ ?_
                rotate_left
                · show Act.put _ (some 25) _ = _
                  simp only [Act.put, List.setIfInBounds_toArray, List.set_cons_zero, List.set_cons_succ, i64_w, i32_w]
                  rfl
                refine two_ (i := 3) (j := 5) (Ni := some 27) (Nj := some 6) #[true, true, true, true, false, false, false] #[true, true, true, false, false, true, false] rfl rfl rfl rfl (by kernel_rfl) (by decide) (by decide) (fun K hK => ?_) (fun K hK => ?_)
                · skip
                  refine goes_ Try.func26 (by kernel_rfl) rfl #[.agg #[.slice A1_0 l1_0.length c1_0]] (by rfl) rfl rfl hkL ?_
                  with_reducible refine (laws_toNat.calls k _ _ l1_0 t412 _ ?side1 ?side2 A20.out).mono ?_
                  (case side1 => repeat (first | exact (Kd.C_below HR1_0.out HB.out) | (with_reducible refine Kd.C_alloc ?_ _) | (with_reducible refine Kd.C_drewN ?_ _) | (with_reducible refine Kd.C_drew ?_)))
                  (case side2 => exact HC1_0.out)
                  rintro e w45 ⟨v413, rfl, ho0, hb⟩
                  refine ⟨_, rfl, ?_⟩
                  have n0_ := Aside0.mk (Kd.R_elder' (hkR HO411) (Kd.R_base ho0) hb)
                  have n1_ := Aside0.mk (Kd.R_lower (Kd.R_new' ho0 (Kd.R_lt (hkR HO411))) (below_size (hkS HB)))
                  have n2_ := hkBb BK405 hb
                  have n3_ := hkBb BK406 hb
                  have n4_ := Aside0.mk (below_step (hkS HB) hb)
                  clear HO411
                  clear BK405
                  clear BK406
                  clear HB
                  have HO411 := n0_
                  have HO414 := n1_
                  have BK405 := n2_
                  have BK406 := n3_
                  have HB := n4_
                  clear n0_ n1_ n2_ n3_ n4_
                  (try clear hb)
                  (try clear hb2)
                  (try clear hk)
                  (try clear hi)
                  (try clear ho0)
                  obtain ⟨Ao46, co46, eo46⟩ := Kd.R_slice HO411.out
                  (first | subst eo46 | (injection eo46 with f1_ f2_ f3_; have f4_ := f1_.symm; have f5_ := f3_.symm; clear f1_ f2_ f3_; subst f4_; subst f5_))
                  obtain ⟨Ao47, co47, eo47⟩ := Kd.R_slice HO414.out
                  (first | subst eo47 | (injection eo47 with f1_ f2_ f3_; have f4_ := f1_.symm; have f5_ := f3_.symm; clear f1_ f2_ f3_; subst f4_; subst f5_))
                  refine hK.out _ _ ⟨(blk_cell BK405.out 0).trans rfl, (blk_cell BK406.out 0).trans rfl⟩ (fun hHeld => ?_)
                  clear hK K
                  refine norm_ (a' := ?_) ?_ ?_
                  rotate_left
                  · show Act.put _ (some 27) _ = _
                    simp only [Act.put, List.setIfInBounds_toArray, List.set_cons_zero, List.set_cons_succ, i64_w, i32_w]
                    rfl
                  refine two_ (i := 4) (j := 5) (Ni := some 28) (Nj := some 6) #[true, true, true, true, true, false, false] #[true, true, true, true, false, true, false] rfl rfl rfl rfl (by kernel_rfl) (by decide) (by decide) (fun K hK => ?_) (fun K hK => ?_)
                  · skip
                    refine goes_ Try.func35 (by kernel_rfl) rfl #[.agg #[.slice Ao46 t409.length co46], .agg #[.slice Ao47 t412.length co47]] (by rfl) rfl rfl hkL ?_
                    with_reducible refine (spec_NatGcd.calls k _ _ t409 _ _ t412 t415 _ ?side1 ?side2 ?side3 ?side4 A21.out).mono ?_
                    (case side1 => repeat (first | exact (Kd.R_reads' HO411.out).2.2 | (with_reducible refine Kd.C_alloc ?_ _) | (with_reducible refine Kd.C_drewN ?_ _) | (with_reducible refine Kd.C_drew ?_)))
                    (case side2 => exact (Kd.R_reads' HO411.out).2.1)
                    (case side3 => repeat (first | exact (Kd.R_reads' HO414.out).2.2 | (with_reducible refine Kd.C_alloc ?_ _) | (with_reducible refine Kd.C_drewN ?_ _) | (with_reducible refine Kd.C_drew ?_)))
                    (case side4 => exact (Kd.R_reads' HO414.out).2.1)
                    rintro e w48 ⟨v416, rfl, ho0, hb⟩
                    refine ⟨_, rfl, ?_⟩
                    have n0_ := Aside0.mk (Kd.R_elder' (hkR HO411) (Kd.R_base ho0) hb)
                    have n1_ := Aside0.mk (Kd.R_elder' (hkR HO414) (Kd.R_base ho0) hb)
                    have n2_ := Aside0.mk (Kd.R_lower (Kd.R_new' (Kd.R_new' ho0 (Kd.R_lt (hkR HO411))) (Kd.R_lt (hkR HO414))) (below_size (hkS HB)))
                    have n3_ := hkBb BK405 hb
                    have n4_ := hkBb BK406 hb
                    have n5_ := Aside0.mk (below_step (hkS HB) hb)
                    clear HO411
                    clear HO414
                    clear BK405
                    clear BK406
                    clear HB
                    have HO411 := n0_
                    have HO414 := n1_
                    have HO417 := n2_
                    have BK405 := n3_
                    have BK406 := n4_
                    have HB := n5_
                    clear n0_ n1_ n2_ n3_ n4_ n5_
                    (try clear hb)
                    (try clear hb2)
                    (try clear hk)
                    (try clear hi)
                    (try clear ho0)
                    refine hK.out _ _ ⟨(blk_cell BK405.out 0).trans rfl, (blk_cell BK406.out 0).trans rfl⟩ (fun hHeld => ?_)
                    clear hK K
                    refine norm_ (a' := ?_) ?_ ?_
                    rotate_left
                    · show Act.put _ (some 28) _ = _
                      simp only [Act.put, List.setIfInBounds_toArray, List.set_cons_zero, List.set_cons_succ, i64_w, i32_w]
                      rfl
                    refine one_ (i := 5) (N := some 6) #[true, true, true, true, true, true, false] rfl rfl (by kernel_rfl) (by decide) (fun K hK => ?_)
                    refine box_step ?hg (N := 6) ?hd (cs := #[.slice none 0 0]) (t := 38) ?hr ?_; (case hd => rfl); (case hg => rfl); (case hr => first | (go_simp; done) | (go_simp; rfl))
                    intro gb418 hg w49 hbox hb
                    have n0_ := hkRb HO411 hb
                    have n1_ := hkRb HO414 hb
                    have n2_ := hkRb HO417 hb
                    have n3_ := hkBb BK405 hb
                    have n4_ := hkBb BK406 hb
                    have n5_ := Aside0.mk (below_step (hkS HB) hb)
                    have n6_ := Aside0.mk (hbox)
                    have n7_ := hkG hg (hkS HB)
                    have n8_ := hkG hg (hkS HB)
                    have n9_ := hkN hg BK405
                    have n10_ := hkM hg BK405
                    have n11_ := hkN hg BK406
                    have n12_ := hkM hg BK406
                    clear HO411
                    clear HO414
                    clear HO417
                    clear BK405
                    clear BK406
                    clear HB
                    have HO411 := n0_
                    have HO414 := n1_
                    have HO417 := n2_
                    have BK405 := n3_
                    have BK406 := n4_
                    have HB := n5_
                    have BK418 := n6_
                    have GW418 := n7_
                    have GE418 := n8_
                    have NB405_418 := n9_
                    have NB418_405 := n10_
                    have NB406_418 := n11_
                    have NB418_406 := n12_
                    clear n0_ n1_ n2_ n3_ n4_ n5_ n6_ n7_ n8_ n9_ n10_ n11_ n12_
                    clear hb hbox hg
                    refine hK.out _ _ ⟨(blk_cell BK405.out 0).trans rfl, (blk_cell BK406.out 0).trans rfl⟩ (fun hHeld => ?_)
                    clear hK K
                    refine norm_ (a' := ?_) ?_ ?_
                    rotate_left
                    · show Act.put _ (some 6) _ = _
                      simp only [Act.put, List.setIfInBounds_toArray, List.set_cons_zero, List.set_cons_succ, i64_w, i32_w]
                      rfl
                    exact norm_ (by simp only [putAll, Act.put, List.setIfInBounds_toArray, List.set_cons_zero, List.set_cons_succ]) (hCont (.slice Ao46 t409.length co46, .slice Ao47 t412.length co47, v416, gb418) _ ⟨hHeld, (by (with_reducible repeat (first | apply Kd.R_alloc | apply Kd.R_drewN | apply Kd.R_drew)); exact Kd.R_mono HO411.out (fun _ hk => ⟨hk.1.2, hk.2⟩)), (by (with_reducible repeat (first | apply Kd.R_alloc | apply Kd.R_drewN | apply Kd.R_drew)); exact Kd.R_mono HO414.out (fun _ hk => ⟨hk.1.2, hk.2⟩)), (by (with_reducible repeat (first | apply Kd.R_alloc | apply Kd.R_drewN | apply Kd.R_drew)); exact Kd.R_mono HO417.out (fun _ hk => ⟨hk.1.2, hk.2⟩)), (hkB BK405), (hkB BK406), (hkB BK418), GW418.out, GE418.out, NB405_418.out, NB418_405.out, NB406_418.out, NB418_406.out, (hkS HB)⟩)
                  · skip
                    refine box_step ?hg (N := 6) ?hd (cs := #[.slice none 0 0]) (t := 38) ?hr ?_; (case hd => rfl); (case hg => rfl); (case hr => first | (go_simp; done) | (go_simp; rfl))
                    intro gb418 hg w46 hbox hb
                    have n0_ := hkRb HO411 hb
                    have n1_ := hkRb HO414 hb
                    have n2_ := hkBb BK405 hb
                    have n3_ := hkBb BK406 hb
                    have n4_ := Aside0.mk (below_step (hkS HB) hb)
                    have n5_ := Aside0.mk (hbox)
                    have n6_ := hkG hg (hkS HB)
                    have n7_ := hkG hg (hkS HB)
                    have n8_ := hkN hg BK405
                    have n9_ := hkM hg BK405
                    have n10_ := hkN hg BK406
                    have n11_ := hkM hg BK406
                    clear HO411
                    clear HO414
                    clear BK405
                    clear BK406
                    clear HB
                    have HO411 := n0_
                    have HO414 := n1_
                    have BK405 := n2_
                    have BK406 := n3_
                    have HB := n4_
                    have BK418 := n5_
                    have GW418 := n6_
                    have GE418 := n7_
                    have NB405_418 := n8_
                    have NB418_405 := n9_
                    have NB406_418 := n10_
                    have NB418_406 := n11_
                    clear n0_ n1_ n2_ n3_ n4_ n5_ n6_ n7_ n8_ n9_ n10_ n11_
                    clear hb hbox hg
                    obtain ⟨Ao47, co47, eo47⟩ := Kd.R_slice HO411.out
                    (first | subst eo47 | (injection eo47 with f1_ f2_ f3_; have f4_ := f1_.symm; have f5_ := f3_.symm; clear f1_ f2_ f3_; subst f4_; subst f5_))
                    obtain ⟨Ao48, co48, eo48⟩ := Kd.R_slice HO414.out
                    (first | subst eo48 | (injection eo48 with f1_ f2_ f3_; have f4_ := f1_.symm; have f5_ := f3_.symm; clear f1_ f2_ f3_; subst f4_; subst f5_))
                    refine hK.out _ _ ⟨(blk_cell BK405.out 0).trans rfl, (blk_cell BK406.out 0).trans rfl⟩ (fun hHeld => ?_)
                    clear hK K
                    refine norm_ (a' := ?_) ?_ ?_
                    rotate_left
                    · show Act.put _ (some 6) _ = _
                      simp only [Act.put, List.setIfInBounds_toArray, List.set_cons_zero, List.set_cons_succ, i64_w, i32_w]
                      rfl
                    refine one_ (i := 4) (N := some 28) #[true, true, true, true, true, true, false] rfl rfl (by kernel_rfl) (by decide) (fun K hK => ?_)
                    refine goes_ Try.func35 (by kernel_rfl) rfl #[.agg #[.slice Ao47 t409.length co47], .agg #[.slice Ao48 t412.length co48]] (by rfl) rfl rfl hkL ?_
                    with_reducible refine (spec_NatGcd.calls k _ _ t409 _ _ t412 t415 _ ?side1 ?side2 ?side3 ?side4 A21.out).mono ?_
                    (case side1 => repeat (first | exact (Kd.R_reads' HO411.out).2.2 | (with_reducible refine Kd.C_alloc ?_ _) | (with_reducible refine Kd.C_drewN ?_ _) | (with_reducible refine Kd.C_drew ?_)))
                    (case side2 => exact (Kd.R_reads' HO411.out).2.1)
                    (case side3 => repeat (first | exact (Kd.R_reads' HO414.out).2.2 | (with_reducible refine Kd.C_alloc ?_ _) | (with_reducible refine Kd.C_drewN ?_ _) | (with_reducible refine Kd.C_drew ?_)))
                    (case side4 => exact (Kd.R_reads' HO414.out).2.1)
                    rintro e w49 ⟨v416, rfl, ho0, hb⟩
                    refine ⟨_, rfl, ?_⟩
                    have n0_ := Aside0.mk (Kd.R_elder' (hkR HO411) (Kd.R_base ho0) hb)
                    have n1_ := Aside0.mk (Kd.R_elder' (hkR HO414) (Kd.R_base ho0) hb)
                    have n2_ := Aside0.mk (Kd.R_lower (Kd.R_new' (Kd.R_new' ho0 (Kd.R_lt (hkR HO411))) (Kd.R_lt (hkR HO414))) (below_size (hkS HB)))
                    have n3_ := hkBb BK405 hb
                    have n4_ := hkBb BK406 hb
                    have n5_ := hkBb BK418 hb
                    have n6_ := Aside0.mk (below_step (hkS HB) hb)
                    clear HO411
                    clear HO414
                    clear BK405
                    clear BK406
                    clear BK418
                    clear HB
                    have HO411 := n0_
                    have HO414 := n1_
                    have HO417 := n2_
                    have BK405 := n3_
                    have BK406 := n4_
                    have BK418 := n5_
                    have HB := n6_
                    clear n0_ n1_ n2_ n3_ n4_ n5_ n6_
                    (try clear hb)
                    (try clear hb2)
                    (try clear hk)
                    (try clear hi)
                    (try clear ho0)
                    refine hK.out _ _ ⟨(blk_cell BK405.out 0).trans rfl, (blk_cell BK406.out 0).trans rfl⟩ (fun hHeld => ?_)
                    clear hK K
                    refine norm_ (a' := ?_) ?_ ?_
                    rotate_left
                    · show Act.put _ (some 28) _ = _
                      simp only [Act.put, List.setIfInBounds_toArray, List.set_cons_zero, List.set_cons_succ, i64_w, i32_w]
                      rfl
                    exact norm_ (by simp only [putAll, Act.put, List.setIfInBounds_toArray, List.set_cons_zero, List.set_cons_succ]) (hCont (.slice Ao47 t409.length co47, .slice Ao48 t412.length co48, v416, gb418) _ ⟨hHeld, (by (with_reducible repeat (first | apply Kd.R_alloc | apply Kd.R_drewN | apply Kd.R_drew)); exact Kd.R_mono HO411.out (fun _ hk => ⟨hk.1.2, hk.2⟩)), (by (with_reducible repeat (first | apply Kd.R_alloc | apply Kd.R_drewN | apply Kd.R_drew)); exact Kd.R_mono HO414.out (fun _ hk => ⟨hk.1.2, hk.2⟩)), (by (with_reducible repeat (first | apply Kd.R_alloc | apply Kd.R_drewN | apply Kd.R_drew)); exact Kd.R_mono HO417.out (fun _ hk => ⟨hk.1.2, hk.2⟩)), (hkB BK405), (hkB BK406), (hkB BK418), GW418.out, GE418.out, NB405_418.out, NB418_405.out, NB406_418.out, NB418_406.out, (hkS HB)⟩)
                · skip
                  refine box_step ?hg (N := 6) ?hd (cs := #[.slice none 0 0]) (t := 38) ?hr ?_; (case hd => rfl); (case hg => rfl); (case hr => first | (go_simp; done) | (go_simp; rfl))
                  intro gb418 hg w45 hbox hb
                  have n0_ := hkRb HO411 hb
                  have n1_ := hkBb BK405 hb
                  have n2_ := hkBb BK406 hb
                  have n3_ := Aside0.mk (below_step (hkS HB) hb)
                  have n4_ := Aside0.mk (hbox)
                  have n5_ := hkG hg (hkS HB)
                  have n6_ := hkG hg (hkS HB)
                  have n7_ := hkN hg BK405
                  have n8_ := hkM hg BK405
                  have n9_ := hkN hg BK406
                  have n10_ := hkM hg BK406
                  clear HO411
                  clear BK405
                  clear BK406
                  clear HB
                  have HO411 := n0_
                  have BK405 := n1_
                  have BK406 := n2_
                  have HB := n3_
                  have BK418 := n4_
                  have GW418 := n5_
                  have GE418 := n6_
                  have NB405_418 := n7_
                  have NB418_405 := n8_
                  have NB406_418 := n9_
                  have NB418_406 := n10_
                  clear n0_ n1_ n2_ n3_ n4_ n5_ n6_ n7_ n8_ n9_ n10_
                  clear hb hbox hg
                  refine hK.out _ _ ⟨(blk_cell BK405.out 0).trans rfl, (blk_cell BK406.out 0).trans rfl⟩ (fun hHeld => ?_)
                  clear hK K
                  refine norm_ (a' := ?_) ?_ ?_
                  rotate_left
                  · show Act.put _ (some 6) _ = _
                    simp only [Act.put, List.setIfInBounds_toArray, List.set_cons_zero, List.set_cons_succ, i64_w, i32_w]
                    rfl
                  refine one_ (i := 3) (N := some 27) #[true, true, true, true, false, true, false] rfl rfl (by kernel_rfl) (by decide) (fun K hK => ?_)
                  refine goes_ Try.func26 (by kernel_rfl) rfl #[.agg #[.slice A1_0 l1_0.length c1_0]] (by rfl) rfl rfl hkL ?_
                  with_reducible refine (laws_toNat.calls k _ _ l1_0 t412 _ ?side1 ?side2 A20.out).mono ?_
                  (case side1 => repeat (first | exact (Kd.C_below HR1_0.out HB.out) | (with_reducible refine Kd.C_alloc ?_ _) | (with_reducible refine Kd.C_drewN ?_ _) | (with_reducible refine Kd.C_drew ?_)))
                  (case side2 => exact HC1_0.out)
                  rintro e w46 ⟨v413, rfl, ho0, hb⟩
                  refine ⟨_, rfl, ?_⟩
                  have n0_ := Aside0.mk (Kd.R_elder' (hkR HO411) (Kd.R_base ho0) hb)
                  have n1_ := Aside0.mk (Kd.R_lower (Kd.R_new' ho0 (Kd.R_lt (hkR HO411))) (below_size (hkS HB)))
                  have n2_ := hkBb BK405 hb
                  have n3_ := hkBb BK406 hb
                  have n4_ := hkBb BK418 hb
                  have n5_ := Aside0.mk (below_step (hkS HB) hb)
                  clear HO411
                  clear BK405
                  clear BK406
                  clear BK418
                  clear HB
                  have HO411 := n0_
                  have HO414 := n1_
                  have BK405 := n2_
                  have BK406 := n3_
                  have BK418 := n4_
                  have HB := n5_
                  clear n0_ n1_ n2_ n3_ n4_ n5_
                  (try clear hb)
                  (try clear hb2)
                  (try clear hk)
                  (try clear hi)
                  (try clear ho0)
                  obtain ⟨Ao47, co47, eo47⟩ := Kd.R_slice HO411.out
                  (first | subst eo47 | (injection eo47 with f1_ f2_ f3_; have f4_ := f1_.symm; have f5_ := f3_.symm; clear f1_ f2_ f3_; subst f4_; subst f5_))
                  obtain ⟨Ao48, co48, eo48⟩ := Kd.R_slice HO414.out
                  (first | subst eo48 | (injection eo48 with f1_ f2_ f3_; have f4_ := f1_.symm; have f5_ := f3_.symm; clear f1_ f2_ f3_; subst f4_; subst f5_))
                  refine hK.out _ _ ⟨(blk_cell BK405.out 0).trans rfl, (blk_cell BK406.out 0).trans rfl⟩ (fun hHeld => ?_)
                  clear hK K
                  refine norm_ (a' := ?_) ?_ ?_
                  rotate_left
                  · show Act.put _ (some 27) _ = _
                    simp only [Act.put, List.setIfInBounds_toArray, List.set_cons_zero, List.set_cons_succ, i64_w, i32_w]
                    rfl
                  refine one_ (i := 4) (N := some 28) #[true, true, true, true, true, true, false] rfl rfl (by kernel_rfl) (by decide) (fun K hK => ?_)
                  refine goes_ Try.func35 (by kernel_rfl) rfl #[.agg #[.slice Ao47 t409.length co47], .agg #[.slice Ao48 t412.length co48]] (by rfl) rfl rfl hkL ?_
                  with_reducible refine (spec_NatGcd.calls k _ _ t409 _ _ t412 t415 _ ?side1 ?side2 ?side3 ?side4 A21.out).mono ?_
                  (case side1 => repeat (first | exact (Kd.R_reads' HO411.out).2.2 | (with_reducible refine Kd.C_alloc ?_ _) | (with_reducible refine Kd.C_drewN ?_ _) | (with_reducible refine Kd.C_drew ?_)))
                  (case side2 => exact (Kd.R_reads' HO411.out).2.1)
                  (case side3 => repeat (first | exact (Kd.R_reads' HO414.out).2.2 | (with_reducible refine Kd.C_alloc ?_ _) | (with_reducible refine Kd.C_drewN ?_ _) | (with_reducible refine Kd.C_drew ?_)))
                  (case side4 => exact (Kd.R_reads' HO414.out).2.1)
                  rintro e w49 ⟨v416, rfl, ho0, hb⟩
                  refine ⟨_, rfl, ?_⟩
                  have n0_ := Aside0.mk (Kd.R_elder' (hkR HO411) (Kd.R_base ho0) hb)
                  have n1_ := Aside0.mk (Kd.R_elder' (hkR HO414) (Kd.R_base ho0) hb)
                  have n2_ := Aside0.mk (Kd.R_lower (Kd.R_new' (Kd.R_new' ho0 (Kd.R_lt (hkR HO411))) (Kd.R_lt (hkR HO414))) (below_size (hkS HB)))
                  have n3_ := hkBb BK405 hb
                  have n4_ := hkBb BK406 hb
                  have n5_ := hkBb BK418 hb
                  have n6_ := Aside0.mk (below_step (hkS HB) hb)
                  clear HO411
                  clear HO414
                  clear BK405
                  clear BK406
                  clear BK418
                  clear HB
                  have HO411 := n0_
                  have HO414 := n1_
                  have HO417 := n2_
                  have BK405 := n3_
                  have BK406 := n4_
                  have BK418 := n5_
                  have HB := n6_
                  clear n0_ n1_ n2_ n3_ n4_ n5_ n6_
                  (try clear hb)
                  (try clear hb2)
                  (try clear hk)
                  (try clear hi)
                  (try clear ho0)
                  refine hK.out _ _ ⟨(blk_cell BK405.out 0).trans rfl, (blk_cell BK406.out 0).trans rfl⟩ (fun hHeld => ?_)
                  clear hK K
                  refine norm_ (a' := ?_) ?_ ?_
                  rotate_left
                  · show Act.put _ (some 28) _ = _
                    simp only [Act.put, List.setIfInBounds_toArray, List.set_cons_zero, List.set_cons_succ, i64_w, i32_w]
                    rfl
                  exact norm_ (by simp only [putAll, Act.put, List.setIfInBounds_toArray, List.set_cons_zero, List.set_cons_succ]) (hCont (.slice Ao47 t409.length co47, .slice Ao48 t412.length co48, v416, gb418) _ ⟨hHeld, (by (with_reducible repeat (first | apply Kd.R_alloc | apply Kd.R_drewN | apply Kd.R_drew)); exact Kd.R_mono HO411.out (fun _ hk => ⟨hk.1.2, hk.2⟩)), (by (with_reducible repeat (first | apply Kd.R_alloc | apply Kd.R_drewN | apply Kd.R_drew)); exact Kd.R_mono HO414.out (fun _ hk => ⟨hk.1.2, hk.2⟩)), (by (with_reducible repeat (first | apply Kd.R_alloc | apply Kd.R_drewN | apply Kd.R_drew)); exact Kd.R_mono HO417.out (fun _ hk => ⟨hk.1.2, hk.2⟩)), (hkB BK405), (hkB BK406), (hkB BK418), GW418.out, GE418.out, NB405_418.out, NB418_405.out, NB406_418.out, NB418_406.out, (hkS HB)⟩)
              · skip
                refine box_step ?hg (N := 6) ?hd (cs := #[.slice none 0 0]) (t := 38) ?hr ?_; (case hd => rfl); (case hg => rfl); (case hr => first | (go_simp; done) | (go_simp; rfl))
                intro gb418 hg w44 hbox hb
                have n0_ := hkBb BK405 hb
                have n1_ := hkBb BK406 hb
                have n2_ := Aside0.mk (below_step (hkS HB) hb)
                have n3_ := Aside0.mk (hbox)
                have n4_ := hkG hg (hkS HB)
                have n5_ := hkG hg (hkS HB)
                have n6_ := hkN hg BK405
                have n7_ := hkM hg BK405
                have n8_ := hkN hg BK406
                have n9_ := hkM hg BK406
                clear BK405
                clear BK406
                clear HB
                have BK405 := n0_
                have BK406 := n1_
                have HB := n2_
                have BK418 := n3_
                have GW418 := n4_
                have GE418 := n5_
                have NB405_418 := n6_
                have NB418_405 := n7_
                have NB406_418 := n8_
                have NB418_406 := n9_
                clear n0_ n1_ n2_ n3_ n4_ n5_ n6_ n7_ n8_ n9_
                clear hb hbox hg
                refine hK.out _ _ ⟨(blk_cell BK405.out 0).trans rfl, (blk_cell BK406.out 0).trans rfl⟩ (fun hHeld => ?_)
                clear hK K
                refine norm_ (a' := ?_) ?_ ?_
                rotate_left
                · show Act.put _ (some 6) _ = _
                  simp only [Act.put, List.setIfInBounds_toArray, List.set_cons_zero, List.set_cons_succ, i64_w, i32_w]
                  rfl
                refine one_ (i := 1) (N := some 25) #[true, true, true, false, false, true, false] rfl rfl (by kernel_rfl) (by decide) (fun K hK => ?_)
                refine goes_ Try.func26 (by kernel_rfl) rfl #[.agg #[.slice A0_0 l0_0.length c0_0]] (by rfl) rfl rfl hkL ?_
                with_reducible refine (laws_toNat.calls k _ _ l0_0 t409 _ ?side1 ?side2 A19.out).mono ?_
                (case side1 => repeat (first | exact (Kd.C_below HR0_0.out HB.out) | (with_reducible refine Kd.C_alloc ?_ _) | (with_reducible refine Kd.C_drewN ?_ _) | (with_reducible refine Kd.C_drew ?_)))
                (case side2 => exact HC0_0.out)
                rintro e w45 ⟨v410, rfl, ho0, hb⟩
                refine ⟨_, rfl, ?_⟩
                have n0_ := Aside0.mk (Kd.R_lower ho0 (below_size (hkS HB)))
                have n1_ := hkBb BK405 hb
                have n2_ := hkBb BK406 hb
                have n3_ := hkBb BK418 hb
                have n4_ := Aside0.mk (below_step (hkS HB) hb)
                clear BK405
                clear BK406
                clear BK418
                clear HB
                have HO411 := n0_
                have BK405 := n1_
                have BK406 := n2_
                have BK418 := n3_
                have HB := n4_
                clear n0_ n1_ n2_ n3_ n4_
                (try clear hb)
                (try clear hb2)
                (try clear hk)
                (try clear hi)
                (try clear ho0)
                refine hK.out _ _ ⟨(blk_cell BK405.out 0).trans rfl, (blk_cell BK406.out 0).trans rfl⟩ (fun hHeld => ?_)
                clear hK K
                refine norm_ (a' := ?_) ?_ ?_
                rotate_left
                · show Act.put _ (some 25) _ = _
                  simp only [Act.put, List.setIfInBounds_toArray, List.set_cons_zero, List.set_cons_succ, i64_w, i32_w]
                  rfl
                refine one_ (i := 3) (N := some 27) #[true, true, true, true, false, true, false] rfl rfl (by kernel_rfl) (by decide) (fun K hK => ?_)
                refine goes_ Try.func26 (by kernel_rfl) rfl #[.agg #[.slice A1_0 l1_0.length c1_0]] (by rfl) rfl rfl hkL ?_
                with_reducible refine (laws_toNat.calls k _ _ l1_0 t412 _ ?side1 ?side2 A20.out).mono ?_
                (case side1 => repeat (first | exact (Kd.C_below HR1_0.out HB.out) | (with_reducible refine Kd.C_alloc ?_ _) | (with_reducible refine Kd.C_drewN ?_ _) | (with_reducible refine Kd.C_drew ?_)))
                (case side2 => exact HC1_0.out)
                rintro e w46 ⟨v413, rfl, ho0, hb⟩
                refine ⟨_, rfl, ?_⟩
                have n0_ := Aside0.mk (Kd.R_elder' (hkR HO411) (Kd.R_base ho0) hb)
                have n1_ := Aside0.mk (Kd.R_lower (Kd.R_new' ho0 (Kd.R_lt (hkR HO411))) (below_size (hkS HB)))
                have n2_ := hkBb BK405 hb
                have n3_ := hkBb BK406 hb
                have n4_ := hkBb BK418 hb
                have n5_ := Aside0.mk (below_step (hkS HB) hb)
                clear HO411
                clear BK405
                clear BK406
                clear BK418
                clear HB
                have HO411 := n0_
                have HO414 := n1_
                have BK405 := n2_
                have BK406 := n3_
                have BK418 := n4_
                have HB := n5_
                clear n0_ n1_ n2_ n3_ n4_ n5_
                (try clear hb)
                (try clear hb2)
                (try clear hk)
                (try clear hi)
                (try clear ho0)
                obtain ⟨Ao47, co47, eo47⟩ := Kd.R_slice HO411.out
                (first | subst eo47 | (injection eo47 with f1_ f2_ f3_; have f4_ := f1_.symm; have f5_ := f3_.symm; clear f1_ f2_ f3_; subst f4_; subst f5_))
                obtain ⟨Ao48, co48, eo48⟩ := Kd.R_slice HO414.out
                (first | subst eo48 | (injection eo48 with f1_ f2_ f3_; have f4_ := f1_.symm; have f5_ := f3_.symm; clear f1_ f2_ f3_; subst f4_; subst f5_))
                refine hK.out _ _ ⟨(blk_cell BK405.out 0).trans rfl, (blk_cell BK406.out 0).trans rfl⟩ (fun hHeld => ?_)
                clear hK K
                refine norm_ (a' := ?_) ?_ ?_
                rotate_left
                · show Act.put _ (some 27) _ = _
                  simp only [Act.put, List.setIfInBounds_toArray, List.set_cons_zero, List.set_cons_succ, i64_w, i32_w]
                  rfl
                refine one_ (i := 4) (N := some 28) #[true, true, true, true, true, true, false] rfl rfl (by kernel_rfl) (by decide) (fun K hK => ?_)
                refine goes_ Try.func35 (by kernel_rfl) rfl #[.agg #[.slice Ao47 t409.length co47], .agg #[.slice Ao48 t412.length co48]] (by rfl) rfl rfl hkL ?_
                with_reducible refine (spec_NatGcd.calls k _ _ t409 _ _ t412 t415 _ ?side1 ?side2 ?side3 ?side4 A21.out).mono ?_
                (case side1 => repeat (first | exact (Kd.R_reads' HO411.out).2.2 | (with_reducible refine Kd.C_alloc ?_ _) | (with_reducible refine Kd.C_drewN ?_ _) | (with_reducible refine Kd.C_drew ?_)))
                (case side2 => exact (Kd.R_reads' HO411.out).2.1)
                (case side3 => repeat (first | exact (Kd.R_reads' HO414.out).2.2 | (with_reducible refine Kd.C_alloc ?_ _) | (with_reducible refine Kd.C_drewN ?_ _) | (with_reducible refine Kd.C_drew ?_)))
                (case side4 => exact (Kd.R_reads' HO414.out).2.1)
                rintro e w49 ⟨v416, rfl, ho0, hb⟩
                refine ⟨_, rfl, ?_⟩
                have n0_ := Aside0.mk (Kd.R_elder' (hkR HO411) (Kd.R_base ho0) hb)
                have n1_ := Aside0.mk (Kd.R_elder' (hkR HO414) (Kd.R_base ho0) hb)
                have n2_ := Aside0.mk (Kd.R_lower (Kd.R_new' (Kd.R_new' ho0 (Kd.R_lt (hkR HO411))) (Kd.R_lt (hkR HO414))) (below_size (hkS HB)))
                have n3_ := hkBb BK405 hb
                have n4_ := hkBb BK406 hb
                have n5_ := hkBb BK418 hb
                have n6_ := Aside0.mk (below_step (hkS HB) hb)
                clear HO411
                clear HO414
                clear BK405
                clear BK406
                clear BK418
                clear HB
                have HO411 := n0_
                have HO414 := n1_
                have HO417 := n2_
                have BK405 := n3_
                have BK406 := n4_
                have BK418 := n5_
                have HB := n6_
                clear n0_ n1_ n2_ n3_ n4_ n5_ n6_
                (try clear hb)
                (try clear hb2)
                (try clear hk)
                (try clear hi)
                (try clear ho0)
                refine hK.out _ _ ⟨(blk_cell BK405.out 0).trans rfl, (blk_cell BK406.out 0).trans rfl⟩ (fun hHeld => ?_)
                clear hK K
                refine norm_ (a' := ?_) ?_ ?_
                rotate_left
                · show Act.put _ (some 28) _ = _
                  simp only [Act.put, List.setIfInBounds_toArray, List.set_cons_zero, List.set_cons_succ, i64_w, i32_w]
                  rfl
                exact norm_ (by simp only [putAll, Act.put, List.setIfInBounds_toArray, List.set_cons_zero, List.set_cons_succ]) (hCont (.slice Ao47 t409.length co47, .slice Ao48 t412.length co48, v416, gb418) _ ⟨hHeld, (by (with_reducible repeat (first | apply Kd.R_alloc | apply Kd.R_drewN | apply Kd.R_drew)); exact Kd.R_mono HO411.out (fun _ hk => ⟨hk.1.2, hk.2⟩)), (by (with_reducible repeat (first | apply Kd.R_alloc | apply Kd.R_drewN | apply Kd.R_drew)); exact Kd.R_mono HO414.out (fun _ hk => ⟨hk.1.2, hk.2⟩)), (by (with_reducible repeat (first | apply Kd.R_alloc | apply Kd.R_drewN | apply Kd.R_drew)); exact Kd.R_mono HO417.out (fun _ hk => ⟨hk.1.2, hk.2⟩)), (hkB BK405), (hkB BK406), (hkB BK418), GW418.out, GE418.out, NB405_418.out, NB418_405.out, NB406_418.out, NB418_406.out, (hkS HB)⟩)
            rintro ⟨v410, v413, v416, gb418⟩ w50 ⟨hS_, h0_, h1_, h2_, h3_, h4_, h5_, h6_, h7_, h8_, h9_, h10_, h11_, h12_⟩
            have n0_ : Aside0 (Kd.R (Kd.int .i64) 3 w50 w.heap.size (fun k_ => some k_ ≠ (v413 : Value).ownBlock ∧ some k_ ≠ (v416 : Value).ownBlock) v410 t409) := ⟨h0_⟩
            have n1_ : Aside0 (Kd.R (Kd.int .i64) 3 w50 w.heap.size (fun k_ => some k_ ≠ (v410 : Value).ownBlock ∧ some k_ ≠ (v416 : Value).ownBlock) v413 t412) := ⟨h1_⟩
            have n2_ : Aside0 (Kd.R (Kd.int .i64) 3 w50 w.heap.size (fun k_ => some k_ ≠ (v410 : Value).ownBlock ∧ some k_ ≠ (v413 : Value).ownBlock) v416 t415) := ⟨h2_⟩
            have n3_ : Aside0 (w50.heap[gb405]? = some (.cells #[.slice A0_0 l0_0.length c0_0] 31 (0, 0))) := ⟨h3_⟩
            have n4_ : Aside0 (w50.heap[gb406]? = some (.cells #[.slice A1_0 l1_0.length c1_0] 31 (0, 0))) := ⟨h4_⟩
            have n5_ : Aside0 (w50.heap[gb418]? = some (.cells #[.slice none 0 0] 38 (0, 0))) := ⟨h5_⟩
            have n6_ : Aside0 (w.heap.size ≤ gb418) := ⟨h6_⟩
            have n7_ : Aside0 (w.heap.size ≤ gb418) := ⟨h7_⟩
            have n8_ : Aside0 (gb405 ≠ gb418) := ⟨h8_⟩
            have n9_ : Aside0 (gb418 ≠ gb405) := ⟨h9_⟩
            have n10_ : Aside0 (gb406 ≠ gb418) := ⟨h10_⟩
            have n11_ : Aside0 (gb418 ≠ gb406) := ⟨h11_⟩
            have n12_ : Aside0 (Below w.heap.size w w50) := ⟨h12_⟩
            clear BK405
            clear BK406
            clear HB
            clear h0_ h1_ h2_ h3_ h4_ h5_ h6_ h7_ h8_ h9_ h10_ h11_ h12_
            have HO411 := n0_
            have HO414 := n1_
            have HO417 := n2_
            have BK405 := n3_
            have BK406 := n4_
            have BK418 := n5_
            have GW418 := n6_
            have GE418 := n7_
            have NB405_418 := n8_
            have NB418_405 := n9_
            have NB406_418 := n10_
            have NB418_406 := n11_
            have HB := n12_
            clear n0_ n1_ n2_ n3_ n4_ n5_ n6_ n7_ n8_ n9_ n10_ n11_ n12_
            have hHeld : w50.cell? ⟨gb405, 0, none⟩ = some (.slice A0_0 l0_0.length c0_0) ∧ w50.cell? ⟨gb406, 0, none⟩ = some (.slice A1_0 l1_0.length c1_0) := hS_
            obtain ⟨Ao51, co51, eo51⟩ := Kd.R_slice HO417.out
            (first | subst eo51 | (injection eo51 with f1_ f2_ f3_; have f4_ := f1_.symm; have f5_ := f3_.symm; clear f1_ f2_ f3_; subst f4_; subst f5_))
            refine norm_ (a' := ?_) ?_ ?_
            rotate_left
            · simp only [putAll, Act.put, List.setIfInBounds_toArray, List.set_cons_zero, List.set_cons_succ]
              rfl
            refine one_ (i := 6) (N := none) #[true, true, true, true, true, true, true] rfl rfl (by kernel_rfl) (by decide) (fun K hK => ?_)
            have hs52 : w50.cell? ⟨gb418, 0, none⟩ = some (.slice none 0 0) := (blk_cell BK418.out 0).trans rfl
            have hfs52 := blk_frozen BK418.out 0
            have hns52_0 := NB405_418.out
            have hns52_1 := NB406_418.out
            have hms52_0 := NB418_405.out
            have hms52_1 := NB418_406.out
            refine skip_ (w1 := ?_) (by rfl) rfl ?_ ?_
            rotate_left
            · go_simp
              rfl
            refine hK.out _ _ ⟨((cell_far (p := ⟨gb418, _, none⟩) NB405_418.out _).trans (hHeld.1)), ((cell_far (p := ⟨gb418, _, none⟩) NB406_418.out _).trans (hHeld.2))⟩ (fun hHeld => ?_)
            clear hK K
            refine done_ (by kernel_rfl) ?_
            have hnb53 := NB405_418.out
            have hnc53 := NB418_405.out
            have hcz54_0 : w50.cell? ⟨gb405, 0, none⟩ = some (.slice A0_0 l0_0.length c0_0) := (blk_cell BK405.out 0).trans rfl
            have hfz54_0 := blk_frozen BK405.out 0
            try go_wp2_with (first | ((with_reducible refine gate_callee (f := 26) rfl ?_); refine goesL_ (some 30) rfl rfl Try.func26 (by kernel_rfl) rfl #[.agg #[.slice A0_0 l0_0.length c0_0]] rfl hkL ?_; (with_reducible refine (laws_toNat.calls k _ _ l0_0 t419 _ ?side1 ?side2 A22.out).mono ?_); (case side1 => exact Kd.C_below HR0_0.out (hkS HB)); (case side2 => exact HC0_0.out); rintro e w55 ⟨v420, rfl, ho0, hb⟩; refine ⟨_, rfl, ?_⟩; have n0_ := Aside0.mk (Kd.R_elder' (by (with_reducible repeat (first | apply Kd.R_alloc | apply Kd.R_drewN | apply Kd.R_drew)); exact (Kd.R_mono (Kd.R_far (p := ⟨gb418, 0, none⟩) (Kd.R_types HO411.out BK418.out (by decide)) (fun _ hk => hk.2) (.slice Ao51 t415.length co51)) (fun _ h_ => h_.1))) (Kd.R_base ho0) hb); have n1_ := Aside0.mk (Kd.R_elder' (by (with_reducible repeat (first | apply Kd.R_alloc | apply Kd.R_drewN | apply Kd.R_drew)); exact (Kd.R_mono (Kd.R_far (p := ⟨gb418, 0, none⟩) (Kd.R_types HO414.out BK418.out (by decide)) (fun _ hk => hk.2) (.slice Ao51 t415.length co51)) (fun _ h_ => h_.1))) (Kd.R_base ho0) hb); have n2_ := Aside0.mk (Kd.R_elder' (by (with_reducible repeat (first | apply Kd.R_alloc | apply Kd.R_drewN | apply Kd.R_drew)); exact (Kd.R_mono (Kd.R_far (p := ⟨gb418, 0, none⟩) (Kd.R_types HO417.out BK418.out (by decide)) (fun _ hk => hk.2) (.slice Ao51 t415.length co51)) (fun _ h_ => h_.1))) (Kd.R_base ho0) hb); have n3_ := Aside0.mk (Kd.R_lower (Kd.R_new' (Kd.R_new' (Kd.R_new' ho0 (Kd.R_lt (by (with_reducible repeat (first | apply Kd.R_alloc | apply Kd.R_drewN | apply Kd.R_drew)); exact (Kd.R_mono (Kd.R_far (p := ⟨gb418, 0, none⟩) (Kd.R_types HO411.out BK418.out (by decide)) (fun _ hk => hk.2) (.slice Ao51 t415.length co51)) (fun _ h_ => h_.1))))) (Kd.R_lt (by (with_reducible repeat (first | apply Kd.R_alloc | apply Kd.R_drewN | apply Kd.R_drew)); exact (Kd.R_mono (Kd.R_far (p := ⟨gb418, 0, none⟩) (Kd.R_types HO414.out BK418.out (by decide)) (fun _ hk => hk.2) (.slice Ao51 t415.length co51)) (fun _ h_ => h_.1))))) (Kd.R_lt (by (with_reducible repeat (first | apply Kd.R_alloc | apply Kd.R_drewN | apply Kd.R_drew)); exact (Kd.R_mono (Kd.R_far (p := ⟨gb418, 0, none⟩) (Kd.R_types HO417.out BK418.out (by decide)) (fun _ hk => hk.2) (.slice Ao51 t415.length co51)) (fun _ h_ => h_.1))))) (below_size (hkS HB))); have n4_ := Aside0.mk (blk_below (g := gb405) (o := .cells #[.slice A0_0 l0_0.length c0_0] 31 (0, 0)) (by (with_reducible repeat (first | refine blk_drewN ?_ _ | refine blk_drew ?_ | refine blk_alloc ?_ _)); refine blk_far ?_ NB405_418.out _; (with_reducible repeat (first | refine blk_drewN ?_ _ | refine blk_drew ?_ | refine blk_alloc ?_ _)); exact BK405.out) hb); have n5_ := Aside0.mk (blk_below (g := gb406) (o := .cells #[.slice A1_0 l1_0.length c1_0] 31 (0, 0)) (by (with_reducible repeat (first | refine blk_drewN ?_ _ | refine blk_drew ?_ | refine blk_alloc ?_ _)); refine blk_far ?_ NB406_418.out _; (with_reducible repeat (first | refine blk_drewN ?_ _ | refine blk_drew ?_ | refine blk_alloc ?_ _)); exact BK406.out) hb); have n6_ := Aside0.mk (blk_below (g := gb418) (o := .cells #[.slice Ao51 t415.length co51] 38 (0, 0)) (by (with_reducible repeat (first | refine blk_drewN ?_ _ | refine blk_drew ?_ | refine blk_alloc ?_ _)); refine blk_put (cs := #[.slice none 0 0]) ?_ 0 _ rfl; (with_reducible repeat (first | refine blk_drewN ?_ _ | refine blk_drew ?_ | refine blk_alloc ?_ _)); exact BK418.out) hb); have n7_ := Aside0.mk (below_step (hkS HB) hb); clear HO411; clear HO414; clear HO417; clear BK405; clear BK406; clear BK418; clear HB; have HO411 := n0_; have HO414 := n1_; have HO417 := n2_; have HO421 := n3_; have BK405 := n4_; have BK406 := n5_; have BK418 := n6_; have HB := n7_; clear n0_ n1_ n2_ n3_ n4_ n5_ n6_ n7_; (try clear hb); (try clear hb2); (try clear hk); (try clear hi); (try clear ho0)) | ((with_reducible refine gate_dst (N := 7) rfl ?_); refine box_event ?hg (N := 7) ?hd (cs := #[.slice none 0 0]) (t := 38) ?hr ?_; (case hd => rfl); (case hg => rfl); (case hr => first | (go_simp; done) | (go_simp; rfl)); intro gb422 hg w56 hbox hb; have n0_ := hkRb HO411 hb; have n1_ := hkRb HO414 hb; have n2_ := hkRb HO417 hb; have n3_ := hkRb HO421 hb; have n4_ := hkBb BK405 hb; have n5_ := hkBb BK406 hb; have n6_ := hkBb BK418 hb; have n7_ := Aside0.mk (below_step (hkS HB) hb); have n8_ := Aside0.mk (hbox); have n9_ := hkG hg (hkS HB); have n10_ := hkG hg (hkS HB); have n11_ := hkN hg BK405; have n12_ := hkM hg BK405; have n13_ := hkN hg BK406; have n14_ := hkM hg BK406; have n15_ := hkN hg BK418; have n16_ := hkM hg BK418; clear HO411; clear HO414; clear HO417; clear HO421; clear BK405; clear BK406; clear BK418; clear HB; have HO411 := n0_; have HO414 := n1_; have HO417 := n2_; have HO421 := n3_; have BK405 := n4_; have BK406 := n5_; have BK418 := n6_; have HB := n7_; have BK422 := n8_; have GW422 := n9_; have GE422 := n10_; have NB405_422 := n11_; have NB422_405 := n12_; have NB406_422 := n13_; have NB422_406 := n14_; have NB418_422 := n15_; have NB422_418 := n16_; clear n0_ n1_ n2_ n3_ n4_ n5_ n6_ n7_ n8_ n9_ n10_ n11_ n12_ n13_ n14_ n15_ n16_; clear hb hbox hg; obtain ⟨Ao57, co57, eo57⟩ := Kd.R_slice HO421.out; subst eo57; have hnb58 := NB422_405.out; have hnc58 := NB405_422.out; have hnb59 := NB422_406.out; have hnc59 := NB406_422.out; have hnb60 := NB422_418.out; have hnc60 := NB418_422.out; have hcz61_0 : w56.cell? ⟨gb422, 0, none⟩ = some (.slice none 0 0) := (blk_cell BK422.out 0).trans rfl; have hfz61_0 := blk_frozen BK422.out 0; have hnb62 := NB406_418.out; have hnc62 := NB418_406.out; have hcz63_0 : w56.cell? ⟨gb406, 0, none⟩ = some (.slice A1_0 l1_0.length c1_0) := (blk_cell BK406.out 0).trans rfl; have hfz63_0 := blk_frozen BK406.out 0) | ((with_reducible refine gate_callee (f := 26) rfl ?_); refine goesL_ (some 32) rfl rfl Try.func26 (by kernel_rfl) rfl #[.agg #[.slice A1_0 l1_0.length c1_0]] rfl hkL ?_; (with_reducible refine (laws_toNat.calls k _ _ l1_0 t423 _ ?side1 ?side2 A23.out).mono ?_); (case side1 => exact Kd.C_below HR1_0.out (hkS HB)); (case side2 => exact HC1_0.out); rintro e w64 ⟨v424, rfl, ho0, hb⟩; refine ⟨_, rfl, ?_⟩; have n0_ := Aside0.mk (Kd.R_elder' (by (with_reducible repeat (first | apply Kd.R_alloc | apply Kd.R_drewN | apply Kd.R_drew)); exact (Kd.R_mono (Kd.R_far (p := ⟨gb422, 0, none⟩) (Kd.R_types HO411.out BK422.out (by decide)) (fun _ hk => hk.2) (.slice Ao57 t419.length co57)) (fun _ h_ => h_.1))) (Kd.R_base ho0) hb); have n1_ := Aside0.mk (Kd.R_elder' (by (with_reducible repeat (first | apply Kd.R_alloc | apply Kd.R_drewN | apply Kd.R_drew)); exact (Kd.R_mono (Kd.R_far (p := ⟨gb422, 0, none⟩) (Kd.R_types HO414.out BK422.out (by decide)) (fun _ hk => hk.2) (.slice Ao57 t419.length co57)) (fun _ h_ => h_.1))) (Kd.R_base ho0) hb); have n2_ := Aside0.mk (Kd.R_elder' (by (with_reducible repeat (first | apply Kd.R_alloc | apply Kd.R_drewN | apply Kd.R_drew)); exact (Kd.R_mono (Kd.R_far (p := ⟨gb422, 0, none⟩) (Kd.R_types HO417.out BK422.out (by decide)) (fun _ hk => hk.2) (.slice Ao57 t419.length co57)) (fun _ h_ => h_.1))) (Kd.R_base ho0) hb); have n3_ := Aside0.mk (Kd.R_elder' (by (with_reducible repeat (first | apply Kd.R_alloc | apply Kd.R_drewN | apply Kd.R_drew)); exact (Kd.R_mono (Kd.R_far (p := ⟨gb422, 0, none⟩) (Kd.R_types HO421.out BK422.out (by decide)) (fun _ hk => hk.2) (.slice Ao57 t419.length co57)) (fun _ h_ => h_.1))) (Kd.R_base ho0) hb); have n4_ := Aside0.mk (Kd.R_lower (Kd.R_new' (Kd.R_new' (Kd.R_new' (Kd.R_new' ho0 (Kd.R_lt (by (with_reducible repeat (first | apply Kd.R_alloc | apply Kd.R_drewN | apply Kd.R_drew)); exact (Kd.R_mono (Kd.R_far (p := ⟨gb422, 0, none⟩) (Kd.R_types HO411.out BK422.out (by decide)) (fun _ hk => hk.2) (.slice Ao57 t419.length co57)) (fun _ h_ => h_.1))))) (Kd.R_lt (by (with_reducible repeat (first | apply Kd.R_alloc | apply Kd.R_drewN | apply Kd.R_drew)); exact (Kd.R_mono (Kd.R_far (p := ⟨gb422, 0, none⟩) (Kd.R_types HO414.out BK422.out (by decide)) (fun _ hk => hk.2) (.slice Ao57 t419.length co57)) (fun _ h_ => h_.1))))) (Kd.R_lt (by (with_reducible repeat (first | apply Kd.R_alloc | apply Kd.R_drewN | apply Kd.R_drew)); exact (Kd.R_mono (Kd.R_far (p := ⟨gb422, 0, none⟩) (Kd.R_types HO417.out BK422.out (by decide)) (fun _ hk => hk.2) (.slice Ao57 t419.length co57)) (fun _ h_ => h_.1))))) (Kd.R_lt (by (with_reducible repeat (first | apply Kd.R_alloc | apply Kd.R_drewN | apply Kd.R_drew)); exact (Kd.R_mono (Kd.R_far (p := ⟨gb422, 0, none⟩) (Kd.R_types HO421.out BK422.out (by decide)) (fun _ hk => hk.2) (.slice Ao57 t419.length co57)) (fun _ h_ => h_.1))))) (below_size (hkS HB))); have n5_ := Aside0.mk (blk_below (g := gb405) (o := .cells #[.slice A0_0 l0_0.length c0_0] 31 (0, 0)) (by (with_reducible repeat (first | refine blk_drewN ?_ _ | refine blk_drew ?_ | refine blk_alloc ?_ _)); refine blk_far ?_ NB405_422.out _; (with_reducible repeat (first | refine blk_drewN ?_ _ | refine blk_drew ?_ | refine blk_alloc ?_ _)); exact BK405.out) hb); have n6_ := Aside0.mk (blk_below (g := gb406) (o := .cells #[.slice A1_0 l1_0.length c1_0] 31 (0, 0)) (by (with_reducible repeat (first | refine blk_drewN ?_ _ | refine blk_drew ?_ | refine blk_alloc ?_ _)); refine blk_far ?_ NB406_422.out _; (with_reducible repeat (first | refine blk_drewN ?_ _ | refine blk_drew ?_ | refine blk_alloc ?_ _)); exact BK406.out) hb); have n7_ := Aside0.mk (blk_below (g := gb418) (o := .cells #[.slice Ao51 t415.length co51] 38 (0, 0)) (by (with_reducible repeat (first | refine blk_drewN ?_ _ | refine blk_drew ?_ | refine blk_alloc ?_ _)); refine blk_far ?_ NB418_422.out _; (with_reducible repeat (first | refine blk_drewN ?_ _ | refine blk_drew ?_ | refine blk_alloc ?_ _)); exact BK418.out) hb); have n8_ := Aside0.mk (blk_below (g := gb422) (o := .cells #[.slice Ao57 t419.length co57] 38 (0, 0)) (by (with_reducible repeat (first | refine blk_drewN ?_ _ | refine blk_drew ?_ | refine blk_alloc ?_ _)); refine blk_put (cs := #[.slice none 0 0]) ?_ 0 _ rfl; (with_reducible repeat (first | refine blk_drewN ?_ _ | refine blk_drew ?_ | refine blk_alloc ?_ _)); exact BK422.out) hb); have n9_ := Aside0.mk (below_step (hkS HB) hb); clear HO411; clear HO414; clear HO417; clear HO421; clear BK405; clear BK406; clear BK418; clear BK422; clear HB; have HO411 := n0_; have HO414 := n1_; have HO417 := n2_; have HO421 := n3_; have HO425 := n4_; have BK405 := n5_; have BK406 := n6_; have BK418 := n7_; have BK422 := n8_; have HB := n9_; clear n0_ n1_ n2_ n3_ n4_ n5_ n6_ n7_ n8_ n9_; (try clear hb); (try clear hb2); (try clear hk); (try clear hi); (try clear ho0)) | ((with_reducible refine gate_dst (N := 8) rfl ?_); refine box_event ?hg (N := 8) ?hd (cs := #[.slice none 0 0]) (t := 38) ?hr ?_; (case hd => rfl); (case hg => rfl); (case hr => first | (go_simp; done) | (go_simp; rfl)); intro gb426 hg w65 hbox hb; have n0_ := hkRb HO411 hb; have n1_ := hkRb HO414 hb; have n2_ := hkRb HO417 hb; have n3_ := hkRb HO421 hb; have n4_ := hkRb HO425 hb; have n5_ := hkBb BK405 hb; have n6_ := hkBb BK406 hb; have n7_ := hkBb BK418 hb; have n8_ := hkBb BK422 hb; have n9_ := Aside0.mk (below_step (hkS HB) hb); have n10_ := Aside0.mk (hbox); have n11_ := hkG hg (hkS HB); have n12_ := hkG hg (hkS HB); have n13_ := hkN hg BK405; have n14_ := hkM hg BK405; have n15_ := hkN hg BK406; have n16_ := hkM hg BK406; have n17_ := hkN hg BK418; have n18_ := hkM hg BK418; have n19_ := hkN hg BK422; have n20_ := hkM hg BK422; clear HO411; clear HO414; clear HO417; clear HO421; clear HO425; clear BK405; clear BK406; clear BK418; clear BK422; clear HB; have HO411 := n0_; have HO414 := n1_; have HO417 := n2_; have HO421 := n3_; have HO425 := n4_; have BK405 := n5_; have BK406 := n6_; have BK418 := n7_; have BK422 := n8_; have HB := n9_; have BK426 := n10_; have GW426 := n11_; have GE426 := n12_; have NB405_426 := n13_; have NB426_405 := n14_; have NB406_426 := n15_; have NB426_406 := n16_; have NB418_426 := n17_; have NB426_418 := n18_; have NB422_426 := n19_; have NB426_422 := n20_; clear n0_ n1_ n2_ n3_ n4_ n5_ n6_ n7_ n8_ n9_ n10_ n11_ n12_ n13_ n14_ n15_ n16_ n17_ n18_ n19_ n20_; clear hb hbox hg; obtain ⟨Ao66, co66, eo66⟩ := Kd.R_slice HO425.out; subst eo66; have hnb67 := NB426_405.out; have hnc67 := NB405_426.out; have hnb68 := NB426_406.out; have hnc68 := NB406_426.out; have hnb69 := NB426_418.out; have hnc69 := NB418_426.out; have hnb70 := NB426_422.out; have hnc70 := NB422_426.out; have hcz71_0 : w65.cell? ⟨gb426, 0, none⟩ = some (.slice none 0 0) := (blk_cell BK426.out 0).trans rfl; have hfz71_0 := blk_frozen BK426.out 0; have hcz72_0 : w65.cell? ⟨gb422, 0, none⟩ = some (.slice Ao57 t419.length co57) := (blk_cell BK422.out 0).trans rfl; have hfz72_0 := blk_frozen BK422.out 0) | ((with_reducible refine gate_callee (f := 19) rfl ?_); refine goesL_ (some 35) rfl rfl Try.func19 (by kernel_rfl) rfl #[.agg #[.slice Ao57 t419.length co57], .agg #[.slice Ao66 t423.length co66]] rfl hkL ?_; (with_reducible refine (impl_NatGcd.calls k _ _ t419 _ _ t423 t427 _ ?side1 ?side2 ?side3 ?side4 A24.out).mono ?_); (case side1 => refine (Kd.R_reads' (e := 3) (base := w.heap.size) (ok := fun k_ => ((((True ∧ some k_ ≠ (v410 : Value).ownBlock) ∧ some k_ ≠ (v413 : Value).ownBlock) ∧ some k_ ≠ (.slice Ao51 t415.length co51 : Value).ownBlock) ∧ some k_ ≠ (.slice Ao66 t423.length co66 : Value).ownBlock)) (n := t419.length) (c := co57) ?_).2.2; exact (by (with_reducible repeat (first | apply Kd.R_alloc | apply Kd.R_drewN | apply Kd.R_drew)); exact (Kd.R_mono (Kd.R_far (p := ⟨gb426, 0, none⟩) (Kd.R_types HO421.out BK426.out (by decide)) (fun _ hk => hk.2) (.slice Ao66 t423.length co66)) (fun _ h_ => h_.1)))); (case side2 => exact (Kd.R_reads' HO421.out).2.1); (case side3 => refine (Kd.R_reads' (e := 3) (base := w.heap.size) (ok := fun k_ => ((((True ∧ some k_ ≠ (v410 : Value).ownBlock) ∧ some k_ ≠ (v413 : Value).ownBlock) ∧ some k_ ≠ (.slice Ao51 t415.length co51 : Value).ownBlock) ∧ some k_ ≠ (.slice Ao57 t419.length co57 : Value).ownBlock)) (n := t423.length) (c := co66) ?_).2.2; exact (by (with_reducible repeat (first | apply Kd.R_alloc | apply Kd.R_drewN | apply Kd.R_drew)); exact (Kd.R_mono (Kd.R_far (p := ⟨gb426, 0, none⟩) (Kd.R_types HO425.out BK426.out (by decide)) (fun _ hk => hk.2) (.slice Ao66 t423.length co66)) (fun _ h_ => h_.1)))); (case side4 => exact (Kd.R_reads' HO425.out).2.1); rintro e w73 ⟨v428, rfl, ho0, hb⟩; refine ⟨_, rfl, ?_⟩; have n0_ := Aside0.mk (Kd.R_elder' (by (with_reducible repeat (first | apply Kd.R_alloc | apply Kd.R_drewN | apply Kd.R_drew)); exact (Kd.R_mono (Kd.R_far (p := ⟨gb426, 0, none⟩) (Kd.R_types HO411.out BK426.out (by decide)) (fun _ hk => hk.2) (.slice Ao66 t423.length co66)) (fun _ h_ => h_.1))) (Kd.R_base ho0) hb); have n1_ := Aside0.mk (Kd.R_elder' (by (with_reducible repeat (first | apply Kd.R_alloc | apply Kd.R_drewN | apply Kd.R_drew)); exact (Kd.R_mono (Kd.R_far (p := ⟨gb426, 0, none⟩) (Kd.R_types HO414.out BK426.out (by decide)) (fun _ hk => hk.2) (.slice Ao66 t423.length co66)) (fun _ h_ => h_.1))) (Kd.R_base ho0) hb); have n2_ := Aside0.mk (Kd.R_elder' (by (with_reducible repeat (first | apply Kd.R_alloc | apply Kd.R_drewN | apply Kd.R_drew)); exact (Kd.R_mono (Kd.R_far (p := ⟨gb426, 0, none⟩) (Kd.R_types HO417.out BK426.out (by decide)) (fun _ hk => hk.2) (.slice Ao66 t423.length co66)) (fun _ h_ => h_.1))) (Kd.R_base ho0) hb); have n3_ := Aside0.mk (Kd.R_elder' (by (with_reducible repeat (first | apply Kd.R_alloc | apply Kd.R_drewN | apply Kd.R_drew)); exact (Kd.R_mono (Kd.R_far (p := ⟨gb426, 0, none⟩) (Kd.R_types HO421.out BK426.out (by decide)) (fun _ hk => hk.2) (.slice Ao66 t423.length co66)) (fun _ h_ => h_.1))) (Kd.R_base ho0) hb); have n4_ := Aside0.mk (Kd.R_elder' (by (with_reducible repeat (first | apply Kd.R_alloc | apply Kd.R_drewN | apply Kd.R_drew)); exact (Kd.R_mono (Kd.R_far (p := ⟨gb426, 0, none⟩) (Kd.R_types HO425.out BK426.out (by decide)) (fun _ hk => hk.2) (.slice Ao66 t423.length co66)) (fun _ h_ => h_.1))) (Kd.R_base ho0) hb); have n5_ := Aside0.mk (Kd.R_lower (Kd.R_new' (Kd.R_new' (Kd.R_new' (Kd.R_new' (Kd.R_new' ho0 (Kd.R_lt (by (with_reducible repeat (first | apply Kd.R_alloc | apply Kd.R_drewN | apply Kd.R_drew)); exact (Kd.R_mono (Kd.R_far (p := ⟨gb426, 0, none⟩) (Kd.R_types HO411.out BK426.out (by decide)) (fun _ hk => hk.2) (.slice Ao66 t423.length co66)) (fun _ h_ => h_.1))))) (Kd.R_lt (by (with_reducible repeat (first | apply Kd.R_alloc | apply Kd.R_drewN | apply Kd.R_drew)); exact (Kd.R_mono (Kd.R_far (p := ⟨gb426, 0, none⟩) (Kd.R_types HO414.out BK426.out (by decide)) (fun _ hk => hk.2) (.slice Ao66 t423.length co66)) (fun _ h_ => h_.1))))) (Kd.R_lt (by (with_reducible repeat (first | apply Kd.R_alloc | apply Kd.R_drewN | apply Kd.R_drew)); exact (Kd.R_mono (Kd.R_far (p := ⟨gb426, 0, none⟩) (Kd.R_types HO417.out BK426.out (by decide)) (fun _ hk => hk.2) (.slice Ao66 t423.length co66)) (fun _ h_ => h_.1))))) (Kd.R_lt (by (with_reducible repeat (first | apply Kd.R_alloc | apply Kd.R_drewN | apply Kd.R_drew)); exact (Kd.R_mono (Kd.R_far (p := ⟨gb426, 0, none⟩) (Kd.R_types HO421.out BK426.out (by decide)) (fun _ hk => hk.2) (.slice Ao66 t423.length co66)) (fun _ h_ => h_.1))))) (Kd.R_lt (by (with_reducible repeat (first | apply Kd.R_alloc | apply Kd.R_drewN | apply Kd.R_drew)); exact (Kd.R_mono (Kd.R_far (p := ⟨gb426, 0, none⟩) (Kd.R_types HO425.out BK426.out (by decide)) (fun _ hk => hk.2) (.slice Ao66 t423.length co66)) (fun _ h_ => h_.1))))) (below_size (hkS HB))); have n6_ := Aside0.mk (blk_below (g := gb405) (o := .cells #[.slice A0_0 l0_0.length c0_0] 31 (0, 0)) (by (with_reducible repeat (first | refine blk_drewN ?_ _ | refine blk_drew ?_ | refine blk_alloc ?_ _)); refine blk_far ?_ NB405_426.out _; (with_reducible repeat (first | refine blk_drewN ?_ _ | refine blk_drew ?_ | refine blk_alloc ?_ _)); exact BK405.out) hb); have n7_ := Aside0.mk (blk_below (g := gb406) (o := .cells #[.slice A1_0 l1_0.length c1_0] 31 (0, 0)) (by (with_reducible repeat (first | refine blk_drewN ?_ _ | refine blk_drew ?_ | refine blk_alloc ?_ _)); refine blk_far ?_ NB406_426.out _; (with_reducible repeat (first | refine blk_drewN ?_ _ | refine blk_drew ?_ | refine blk_alloc ?_ _)); exact BK406.out) hb); have n8_ := Aside0.mk (blk_below (g := gb418) (o := .cells #[.slice Ao51 t415.length co51] 38 (0, 0)) (by (with_reducible repeat (first | refine blk_drewN ?_ _ | refine blk_drew ?_ | refine blk_alloc ?_ _)); refine blk_far ?_ NB418_426.out _; (with_reducible repeat (first | refine blk_drewN ?_ _ | refine blk_drew ?_ | refine blk_alloc ?_ _)); exact BK418.out) hb); have n9_ := Aside0.mk (blk_below (g := gb422) (o := .cells #[.slice Ao57 t419.length co57] 38 (0, 0)) (by (with_reducible repeat (first | refine blk_drewN ?_ _ | refine blk_drew ?_ | refine blk_alloc ?_ _)); refine blk_far ?_ NB422_426.out _; (with_reducible repeat (first | refine blk_drewN ?_ _ | refine blk_drew ?_ | refine blk_alloc ?_ _)); exact BK422.out) hb); have n10_ := Aside0.mk (blk_below (g := gb426) (o := .cells #[.slice Ao66 t423.length co66] 38 (0, 0)) (by (with_reducible repeat (first | refine blk_drewN ?_ _ | refine blk_drew ?_ | refine blk_alloc ?_ _)); refine blk_put (cs := #[.slice none 0 0]) ?_ 0 _ rfl; (with_reducible repeat (first | refine blk_drewN ?_ _ | refine blk_drew ?_ | refine blk_alloc ?_ _)); exact BK426.out) hb); have n11_ := Aside0.mk (below_step (hkS HB) hb); clear HO411; clear HO414; clear HO417; clear HO421; clear HO425; clear BK405; clear BK406; clear BK418; clear BK422; clear BK426; clear HB; have HO411 := n0_; have HO414 := n1_; have HO417 := n2_; have HO421 := n3_; have HO425 := n4_; have HO429 := n5_; have BK405 := n6_; have BK406 := n7_; have BK418 := n8_; have BK422 := n9_; have BK426 := n10_; have HB := n11_; clear n0_ n1_ n2_ n3_ n4_ n5_ n6_ n7_ n8_ n9_ n10_ n11_; (try clear hb); (try clear hb2); (try clear hk); (try clear hi); (try clear ho0)) | ((with_reducible refine gate_dst (N := 9) rfl ?_); refine box_event ?hg (N := 9) ?hd (cs := #[.slice none 0 0]) (t := 38) ?hr ?_; (case hd => rfl); (case hg => rfl); (case hr => first | (go_simp; done) | (go_simp; rfl)); intro gb430 hg w74 hbox hb; have n0_ := hkRb HO411 hb; have n1_ := hkRb HO414 hb; have n2_ := hkRb HO417 hb; have n3_ := hkRb HO421 hb; have n4_ := hkRb HO425 hb; have n5_ := hkRb HO429 hb; have n6_ := hkBb BK405 hb; have n7_ := hkBb BK406 hb; have n8_ := hkBb BK418 hb; have n9_ := hkBb BK422 hb; have n10_ := hkBb BK426 hb; have n11_ := Aside0.mk (below_step (hkS HB) hb); have n12_ := Aside0.mk (hbox); have n13_ := hkG hg (hkS HB); have n14_ := hkG hg (hkS HB); have n15_ := hkN hg BK405; have n16_ := hkM hg BK405; have n17_ := hkN hg BK406; have n18_ := hkM hg BK406; have n19_ := hkN hg BK418; have n20_ := hkM hg BK418; have n21_ := hkN hg BK422; have n22_ := hkM hg BK422; have n23_ := hkN hg BK426; have n24_ := hkM hg BK426; clear HO411; clear HO414; clear HO417; clear HO421; clear HO425; clear HO429; clear BK405; clear BK406; clear BK418; clear BK422; clear BK426; clear HB; have HO411 := n0_; have HO414 := n1_; have HO417 := n2_; have HO421 := n3_; have HO425 := n4_; have HO429 := n5_; have BK405 := n6_; have BK406 := n7_; have BK418 := n8_; have BK422 := n9_; have BK426 := n10_; have HB := n11_; have BK430 := n12_; have GW430 := n13_; have GE430 := n14_; have NB405_430 := n15_; have NB430_405 := n16_; have NB406_430 := n17_; have NB430_406 := n18_; have NB418_430 := n19_; have NB430_418 := n20_; have NB422_430 := n21_; have NB430_422 := n22_; have NB426_430 := n23_; have NB430_426 := n24_; clear n0_ n1_ n2_ n3_ n4_ n5_ n6_ n7_ n8_ n9_ n10_ n11_ n12_ n13_ n14_ n15_ n16_ n17_ n18_ n19_ n20_ n21_ n22_ n23_ n24_; clear hb hbox hg; obtain ⟨Ao75, co75, eo75⟩ := Kd.R_slice HO429.out; subst eo75; have hnb76 := NB430_405.out; have hnc76 := NB405_430.out; have hnb77 := NB430_406.out; have hnc77 := NB406_430.out; have hnb78 := NB430_418.out; have hnc78 := NB418_430.out; have hnb79 := NB430_422.out; have hnc79 := NB422_430.out; have hnb80 := NB430_426.out; have hnc80 := NB426_430.out; have hcz81_0 : w74.cell? ⟨gb430, 0, none⟩ = some (.slice none 0 0) := (blk_cell BK430.out 0).trans rfl; have hfz81_0 := blk_frozen BK430.out 0; have hcz82_0 : w74.cell? ⟨gb418, 0, none⟩ = some (.slice Ao51 t415.length co51) := (blk_cell BK418.out 0).trans rfl; have hfz82_0 := blk_frozen BK418.out 0) | ((with_reducible refine gate_callee (f := 27) rfl ?_); refine goesL_ (some 38) rfl rfl Try.func27 (by kernel_rfl) rfl #[.agg #[.slice Ao75 t427.length co75], .agg #[.slice Ao51 t415.length co51]] rfl hkL ?_; (with_reducible refine (laws_eqNat.calls k _ _ t427 _ _ t415 true _ ?side1 ?side2 ?side3 ?side4 A25.out).mono ?_); (case side1 => refine (Kd.R_reads' (e := 3) (base := w.heap.size) (ok := fun k_ => (((((True ∧ some k_ ≠ (v410 : Value).ownBlock) ∧ some k_ ≠ (v413 : Value).ownBlock) ∧ some k_ ≠ (.slice Ao51 t415.length co51 : Value).ownBlock) ∧ some k_ ≠ (.slice Ao57 t419.length co57 : Value).ownBlock) ∧ some k_ ≠ (.slice Ao66 t423.length co66 : Value).ownBlock)) (n := t427.length) (c := co75) ?_).2.2; exact (by (with_reducible repeat (first | apply Kd.R_alloc | apply Kd.R_drewN | apply Kd.R_drew)); exact (Kd.R_mono (Kd.R_far (p := ⟨gb430, 0, none⟩) (Kd.R_types HO429.out BK430.out (by decide)) (fun _ hk => hk.2) (.slice Ao75 t427.length co75)) (fun _ h_ => h_.1)))); (case side2 => exact (Kd.R_reads' HO429.out).2.1); (case side3 => refine (Kd.R_reads' (e := 3) (base := w.heap.size) (ok := fun k_ => ((((some k_ ≠ (v410 : Value).ownBlock ∧ some k_ ≠ (v413 : Value).ownBlock) ∧ some k_ ≠ (.slice Ao57 t419.length co57 : Value).ownBlock) ∧ some k_ ≠ (.slice Ao66 t423.length co66 : Value).ownBlock) ∧ some k_ ≠ (.slice Ao75 t427.length co75 : Value).ownBlock)) (n := t415.length) (c := co51) ?_).2.2; exact (by (with_reducible repeat (first | apply Kd.R_alloc | apply Kd.R_drewN | apply Kd.R_drew)); exact (Kd.R_mono (Kd.R_far (p := ⟨gb430, 0, none⟩) (Kd.R_types HO417.out BK430.out (by decide)) (fun _ hk => hk.2) (.slice Ao75 t427.length co75)) (fun _ h_ => h_.1)))); (case side4 => exact (Kd.R_reads' HO417.out).2.1); rintro e w83 ⟨rfl, hb⟩; refine ⟨_, rfl, ?_⟩; have n0_ := Aside0.mk (Kd.R_below (by (with_reducible repeat (first | apply Kd.R_alloc | apply Kd.R_drewN | apply Kd.R_drew)); exact (Kd.R_mono (Kd.R_far (p := ⟨gb430, 0, none⟩) (Kd.R_types HO411.out BK430.out (by decide)) (fun _ hk => hk.2) (.slice Ao75 t427.length co75)) (fun _ h_ => h_.1))) hb); have n1_ := Aside0.mk (Kd.R_below (by (with_reducible repeat (first | apply Kd.R_alloc | apply Kd.R_drewN | apply Kd.R_drew)); exact (Kd.R_mono (Kd.R_far (p := ⟨gb430, 0, none⟩) (Kd.R_types HO414.out BK430.out (by decide)) (fun _ hk => hk.2) (.slice Ao75 t427.length co75)) (fun _ h_ => h_.1))) hb); have n2_ := Aside0.mk (Kd.R_below (by (with_reducible repeat (first | apply Kd.R_alloc | apply Kd.R_drewN | apply Kd.R_drew)); exact (Kd.R_mono (Kd.R_far (p := ⟨gb430, 0, none⟩) (Kd.R_types HO417.out BK430.out (by decide)) (fun _ hk => hk.2) (.slice Ao75 t427.length co75)) (fun _ h_ => h_.1))) hb); have n3_ := Aside0.mk (Kd.R_below (by (with_reducible repeat (first | apply Kd.R_alloc | apply Kd.R_drewN | apply Kd.R_drew)); exact (Kd.R_mono (Kd.R_far (p := ⟨gb430, 0, none⟩) (Kd.R_types HO421.out BK430.out (by decide)) (fun _ hk => hk.2) (.slice Ao75 t427.length co75)) (fun _ h_ => h_.1))) hb); have n4_ := Aside0.mk (Kd.R_below (by (with_reducible repeat (first | apply Kd.R_alloc | apply Kd.R_drewN | apply Kd.R_drew)); exact (Kd.R_mono (Kd.R_far (p := ⟨gb430, 0, none⟩) (Kd.R_types HO425.out BK430.out (by decide)) (fun _ hk => hk.2) (.slice Ao75 t427.length co75)) (fun _ h_ => h_.1))) hb); have n5_ := Aside0.mk (Kd.R_below (by (with_reducible repeat (first | apply Kd.R_alloc | apply Kd.R_drewN | apply Kd.R_drew)); exact (Kd.R_mono (Kd.R_far (p := ⟨gb430, 0, none⟩) (Kd.R_types HO429.out BK430.out (by decide)) (fun _ hk => hk.2) (.slice Ao75 t427.length co75)) (fun _ h_ => h_.1))) hb); have n6_ := Aside0.mk (blk_below (g := gb405) (o := .cells #[.slice A0_0 l0_0.length c0_0] 31 (0, 0)) (by (with_reducible repeat (first | refine blk_drewN ?_ _ | refine blk_drew ?_ | refine blk_alloc ?_ _)); refine blk_far ?_ NB405_430.out _; (with_reducible repeat (first | refine blk_drewN ?_ _ | refine blk_drew ?_ | refine blk_alloc ?_ _)); exact BK405.out) hb); have n7_ := Aside0.mk (blk_below (g := gb406) (o := .cells #[.slice A1_0 l1_0.length c1_0] 31 (0, 0)) (by (with_reducible repeat (first | refine blk_drewN ?_ _ | refine blk_drew ?_ | refine blk_alloc ?_ _)); refine blk_far ?_ NB406_430.out _; (with_reducible repeat (first | refine blk_drewN ?_ _ | refine blk_drew ?_ | refine blk_alloc ?_ _)); exact BK406.out) hb); have n8_ := Aside0.mk (blk_below (g := gb418) (o := .cells #[.slice Ao51 t415.length co51] 38 (0, 0)) (by (with_reducible repeat (first | refine blk_drewN ?_ _ | refine blk_drew ?_ | refine blk_alloc ?_ _)); refine blk_far ?_ NB418_430.out _; (with_reducible repeat (first | refine blk_drewN ?_ _ | refine blk_drew ?_ | refine blk_alloc ?_ _)); exact BK418.out) hb); have n9_ := Aside0.mk (blk_below (g := gb422) (o := .cells #[.slice Ao57 t419.length co57] 38 (0, 0)) (by (with_reducible repeat (first | refine blk_drewN ?_ _ | refine blk_drew ?_ | refine blk_alloc ?_ _)); refine blk_far ?_ NB422_430.out _; (with_reducible repeat (first | refine blk_drewN ?_ _ | refine blk_drew ?_ | refine blk_alloc ?_ _)); exact BK422.out) hb); have n10_ := Aside0.mk (blk_below (g := gb426) (o := .cells #[.slice Ao66 t423.length co66] 38 (0, 0)) (by (with_reducible repeat (first | refine blk_drewN ?_ _ | refine blk_drew ?_ | refine blk_alloc ?_ _)); refine blk_far ?_ NB426_430.out _; (with_reducible repeat (first | refine blk_drewN ?_ _ | refine blk_drew ?_ | refine blk_alloc ?_ _)); exact BK426.out) hb); have n11_ := Aside0.mk (blk_below (g := gb430) (o := .cells #[.slice Ao75 t427.length co75] 38 (0, 0)) (by (with_reducible repeat (first | refine blk_drewN ?_ _ | refine blk_drew ?_ | refine blk_alloc ?_ _)); refine blk_put (cs := #[.slice none 0 0]) ?_ 0 _ rfl; (with_reducible repeat (first | refine blk_drewN ?_ _ | refine blk_drew ?_ | refine blk_alloc ?_ _)); exact BK430.out) hb); have n12_ := Aside0.mk (below_step (hkS HB) hb); clear HO411; clear HO414; clear HO417; clear HO421; clear HO425; clear HO429; clear BK405; clear BK406; clear BK418; clear BK422; clear BK426; clear BK430; clear HB; have HO411 := n0_; have HO414 := n1_; have HO417 := n2_; have HO421 := n3_; have HO425 := n4_; have HO429 := n5_; have BK405 := n6_; have BK406 := n7_; have BK418 := n8_; have BK422 := n9_; have BK426 := n10_; have BK430 := n11_; have HB := n12_; clear n0_ n1_ n2_ n3_ n4_ n5_ n6_ n7_ n8_ n9_ n10_ n11_ n12_; (try clear hb); (try clear hb2); (try clear hk); (try clear hi)))
            have n0_ := Aside0.mk (Kd.R_drew HO411.out)
            have n1_ := Aside0.mk (Kd.R_drew HO414.out)
            have n2_ := Aside0.mk (Kd.R_drew HO417.out)
            have n3_ := Aside0.mk (Kd.R_drew HO421.out)
            have n4_ := Aside0.mk (Kd.R_drew HO425.out)
            have n5_ := Aside0.mk (Kd.R_drew HO429.out)
            have n6_ := Aside0.mk (blk_drew BK405.out)
            have n7_ := Aside0.mk (blk_drew BK406.out)
            have n8_ := Aside0.mk (blk_drew BK418.out)
            have n9_ := Aside0.mk (blk_drew BK422.out)
            have n10_ := Aside0.mk (blk_drew BK426.out)
            have n11_ := Aside0.mk (blk_drew BK430.out)
            have n12_ := Aside0.mk (below_drew1 HB.out)
            clear HO411
            clear HO414
            clear HO417
            clear HO421
            clear HO425
            clear HO429
            clear BK405
            clear BK406
            clear BK418
            clear BK422
            clear BK426
            clear BK430
            clear HB
            have HO411 := n0_
            have HO414 := n1_
            have HO417 := n2_
            have HO421 := n3_
            have HO425 := n4_
            have HO429 := n5_
            have BK405 := n6_
            have BK406 := n7_
            have BK418 := n8_
            have BK422 := n9_
            have BK426 := n10_
            have BK430 := n11_
            have HB := n12_
            clear n0_ n1_ n2_ n3_ n4_ n5_ n6_ n7_ n8_ n9_ n10_ n11_ n12_
            refine start_ (n := 5) (S := fun w' => w'.cell? ⟨gb422, 0, none⟩ = some (.slice Ao57 t419.length co57) ∧ w'.cell? ⟨gb405, 0, none⟩ = some (.slice A0_0 l0_0.length c0_0)) (ds := []) #[false, false, false, false, false] (by kernel_rfl) rfl rfl ⟨(blk_cell BK422.out 0).trans rfl, (blk_cell BK405.out 0).trans rfl⟩ (fun hHeld => ?_)
            generalize w83.drew = w84 at HO411 HO414 HO417 HO421 HO425 HO429 BK405 BK406 BK418 BK422 BK426 BK430 HB hHeld ⊢
            refine take_ (i := 0) (N := some 40) (v := ?_) (a' := ?_) #[true, false, false, false, false] rfl rfl (by kernel_rfl) (fun _ _ _ h => h) (Or.inl ⟨by rfl, ?_⟩) hHeld ?_ ?_
            rotate_left
            · rintro w' ⟨s0, s1⟩
              go_simp
              with_reducible rfl
            rotate_left
            · simp only [Act.put, List.setIfInBounds_toArray, List.set_cons_zero, List.set_cons_succ, i64_w, i32_w]
              rfl
            refine take_ (i := 1) (N := some 41) (v := ?_) (a' := ?_) #[true, true, false, false, false] rfl rfl (by kernel_rfl) (fun _ _ _ h => h) (Or.inl ⟨by rfl, ?_⟩) hHeld ?_ ?_
            rotate_left
            · rintro w' ⟨s0, s1⟩
              go_simp
              with_reducible rfl
            rotate_left
            · simp only [Act.put, List.setIfInBounds_toArray, List.set_cons_zero, List.set_cons_succ, i64_w, i32_w]
              rfl
            refine one_ (i := 2) (N := some 42) #[true, true, true, false, false] rfl rfl (by kernel_rfl) (by decide) (fun K hK => ?_)
            refine goes_ Try.func26 (by kernel_rfl) rfl #[.agg #[.slice A0_0 l0_0.length c0_0]] (by rfl) rfl rfl hkL ?_
            with_reducible refine (laws_toNat.calls k _ _ l0_0 t432 _ ?side1 ?side2 A27.out).mono ?_
            (case side1 => repeat (first | exact (Kd.C_below HR0_0.out HB.out) | (with_reducible refine Kd.C_alloc ?_ _) | (with_reducible refine Kd.C_drewN ?_ _) | (with_reducible refine Kd.C_drew ?_)))
            (case side2 => exact HC0_0.out)
            rintro e w85 ⟨v433, rfl, ho0, hb⟩
            refine ⟨_, rfl, ?_⟩
            have n0_ := Aside0.mk (Kd.R_elder' (hkR HO411) (Kd.R_base ho0) hb)
            have n1_ := Aside0.mk (Kd.R_elder' (hkR HO414) (Kd.R_base ho0) hb)
            have n2_ := Aside0.mk (Kd.R_elder' (hkR HO417) (Kd.R_base ho0) hb)
            have n3_ := Aside0.mk (Kd.R_elder' (hkR HO421) (Kd.R_base ho0) hb)
            have n4_ := Aside0.mk (Kd.R_elder' (hkR HO425) (Kd.R_base ho0) hb)
            have n5_ := Aside0.mk (Kd.R_elder' (hkR HO429) (Kd.R_base ho0) hb)
            have n6_ := Aside0.mk (Kd.R_lower (Kd.R_new' (Kd.R_new' (Kd.R_new' (Kd.R_new' (Kd.R_new' (Kd.R_new' ho0 (Kd.R_lt (hkR HO411))) (Kd.R_lt (hkR HO414))) (Kd.R_lt (hkR HO417))) (Kd.R_lt (hkR HO421))) (Kd.R_lt (hkR HO425))) (Kd.R_lt (hkR HO429))) (below_size (hkS HB)))
            have n7_ := hkBb BK405 hb
            have n8_ := hkBb BK406 hb
            have n9_ := hkBb BK418 hb
            have n10_ := hkBb BK422 hb
            have n11_ := hkBb BK426 hb
            have n12_ := hkBb BK430 hb
            have n13_ := Aside0.mk (below_step (hkS HB) hb)
            clear HO411
            clear HO414
            clear HO417
            clear HO421
            clear HO425
            clear HO429
            clear BK405
            clear BK406
            clear BK418
            clear BK422
            clear BK426
            clear BK430
            clear HB
            have HO411 := n0_
            have HO414 := n1_
            have HO417 := n2_
            have HO421 := n3_
            have HO425 := n4_
            have HO429 := n5_
            have HO434 := n6_
            have BK405 := n7_
            have BK406 := n8_
            have BK418 := n9_
            have BK422 := n10_
            have BK426 := n11_
            have BK430 := n12_
            have HB := n13_
            clear n0_ n1_ n2_ n3_ n4_ n5_ n6_ n7_ n8_ n9_ n10_ n11_ n12_ n13_
            (try clear hb)
            (try clear hb2)
            (try clear hk)
            (try clear hi)
            (try clear ho0)
            obtain ⟨Ao86, co86, eo86⟩ := Kd.R_slice HO434.out
            (first | subst eo86 | (injection eo86 with f1_ f2_ f3_; have f4_ := f1_.symm; have f5_ := f3_.symm; clear f1_ f2_ f3_; subst f4_; subst f5_))
            refine hK.out _ _ ⟨(blk_cell BK422.out 0).trans rfl, (blk_cell BK405.out 0).trans rfl⟩ (fun hHeld => ?_)
            clear hK K
            refine norm_ (a' := ?_) ?_ ?_
            rotate_left
            · show Act.put _ (some 42) _ = _
              simp only [Act.put, List.setIfInBounds_toArray, List.set_cons_zero, List.set_cons_succ, i64_w, i32_w]
              rfl
            refine one_ (i := 3) (N := some 43) #[true, true, true, true, false] rfl rfl (by kernel_rfl) (by decide) (fun K hK => ?_)
            refine goes_ Try.func27 (by kernel_rfl) rfl #[.agg #[.slice Ao57 t419.length co57], .agg #[.slice Ao86 t432.length co86]] (by rfl) rfl rfl hkL ?_
            with_reducible refine (laws_eqNat.calls k _ _ t419 _ _ t432 true _ ?side1 ?side2 ?side3 ?side4 A28.out).mono ?_
            (case side1 => repeat (first | exact (Kd.R_reads' HO421.out).2.2 | (with_reducible refine Kd.C_alloc ?_ _) | (with_reducible refine Kd.C_drewN ?_ _) | (with_reducible refine Kd.C_drew ?_)))
            (case side2 => exact (Kd.R_reads' HO421.out).2.1)
            (case side3 => repeat (first | exact (Kd.R_reads' HO434.out).2.2 | (with_reducible refine Kd.C_alloc ?_ _) | (with_reducible refine Kd.C_drewN ?_ _) | (with_reducible refine Kd.C_drew ?_)))
            (case side4 => exact (Kd.R_reads' HO434.out).2.1)
            rintro e w87 ⟨rfl, hb⟩
            refine ⟨_, rfl, ?_⟩
            have n0_ := hkRb HO411 hb
            have n1_ := hkRb HO414 hb
            have n2_ := hkRb HO417 hb
            have n3_ := hkRb HO421 hb
            have n4_ := hkRb HO425 hb
            have n5_ := hkRb HO429 hb
            have n6_ := hkRb HO434 hb
            have n7_ := hkBb BK405 hb
            have n8_ := hkBb BK406 hb
            have n9_ := hkBb BK418 hb
            have n10_ := hkBb BK422 hb
            have n11_ := hkBb BK426 hb
            have n12_ := hkBb BK430 hb
            have n13_ := Aside0.mk (below_step (hkS HB) hb)
            clear HO411
            clear HO414
            clear HO417
            clear HO421
            clear HO425
            clear HO429
            clear HO434
            clear BK405
            clear BK406
            clear BK418
            clear BK422
            clear BK426
            clear BK430
            clear HB
            have HO411 := n0_
            have HO414 := n1_
            have HO417 := n2_
            have HO421 := n3_
            have HO425 := n4_
            have HO429 := n5_
            have HO434 := n6_
            have BK405 := n7_
            have BK406 := n8_
            have BK418 := n9_
            have BK422 := n10_
            have BK426 := n11_
            have BK430 := n12_
            have HB := n13_
            clear n0_ n1_ n2_ n3_ n4_ n5_ n6_ n7_ n8_ n9_ n10_ n11_ n12_ n13_
            (try clear hb)
            (try clear hb2)
            (try clear hk)
            (try clear hi)
            refine hK.out _ _ ⟨(blk_cell BK422.out 0).trans rfl, (blk_cell BK405.out 0).trans rfl⟩ (fun hHeld => ?_)
            clear hK K
            refine norm_ (a' := ?_) ?_ ?_
            rotate_left
            · show Act.put _ (some 43) _ = _
              simp only [Act.put, List.setIfInBounds_toArray, List.set_cons_zero, List.set_cons_succ, i64_w, i32_w]
              rfl
            refine pure_ (i := 4) (N := some 44) (v := ?_) (a' := ?_) #[true, true, true, true, true] rfl rfl (by kernel_rfl) (fun _ _ _ h => h) (Or.inl ⟨by rfl, ?_⟩) ?_ ?_
            rotate_left
            · intro w'
              go_simp
              with_reducible rfl
            rotate_left
            · simp only [Act.put, List.setIfInBounds_toArray, List.set_cons_zero, List.set_cons_succ, i64_w, i32_w]
              rfl
            refine done_ (by kernel_rfl) ?_
            try go_wp2
            have n0_ := Aside0.mk (Kd.R_drew HO411.out)
            have n1_ := Aside0.mk (Kd.R_drew HO414.out)
            have n2_ := Aside0.mk (Kd.R_drew HO417.out)
            have n3_ := Aside0.mk (Kd.R_drew HO421.out)
            have n4_ := Aside0.mk (Kd.R_drew HO425.out)
            have n5_ := Aside0.mk (Kd.R_drew HO429.out)
            have n6_ := Aside0.mk (Kd.R_drew HO434.out)
            have n7_ := Aside0.mk (blk_drew BK405.out)
            have n8_ := Aside0.mk (blk_drew BK406.out)
            have n9_ := Aside0.mk (blk_drew BK418.out)
            have n10_ := Aside0.mk (blk_drew BK422.out)
            have n11_ := Aside0.mk (blk_drew BK426.out)
            have n12_ := Aside0.mk (blk_drew BK430.out)
            have n13_ := Aside0.mk (below_drew1 HB.out)
            clear HO411
            clear HO414
            clear HO417
            clear HO421
            clear HO425
            clear HO429
            clear HO434
            clear BK405
            clear BK406
            clear BK418
            clear BK422
            clear BK426
            clear BK430
            clear HB
            have HO411 := n0_
            have HO414 := n1_
            have HO417 := n2_
            have HO421 := n3_
            have HO425 := n4_
            have HO429 := n5_
            have HO434 := n6_
            have BK405 := n7_
            have BK406 := n8_
            have BK418 := n9_
            have BK422 := n10_
            have BK426 := n11_
            have BK430 := n12_
            have HB := n13_
            clear n0_ n1_ n2_ n3_ n4_ n5_ n6_ n7_ n8_ n9_ n10_ n11_ n12_ n13_
            refine start_ (n := 5) (S := fun w' => w'.cell? ⟨gb426, 0, none⟩ = some (.slice Ao66 t423.length co66) ∧ w'.cell? ⟨gb406, 0, none⟩ = some (.slice A1_0 l1_0.length c1_0)) (ds := []) #[false, false, false, false, false] (by kernel_rfl) rfl rfl ⟨(blk_cell BK426.out 0).trans rfl, (blk_cell BK406.out 0).trans rfl⟩ (fun hHeld => ?_)
            generalize w87.drew = w88 at HO411 HO414 HO417 HO421 HO425 HO429 HO434 BK405 BK406 BK418 BK422 BK426 BK430 HB hHeld ⊢
            refine take_ (i := 0) (N := some 45) (v := ?_) (a' := ?_) #[true, false, false, false, false] rfl rfl (by kernel_rfl) (fun _ _ _ h => h) (Or.inl ⟨by rfl, ?_⟩) hHeld ?_ ?_
            rotate_left
            · rintro w' ⟨s0, s1⟩
              go_simp
              with_reducible rfl
            rotate_left
            · simp only [Act.put, List.setIfInBounds_toArray, List.set_cons_zero, List.set_cons_succ, i64_w, i32_w]
              rfl
            refine take_ (i := 1) (N := some 46) (v := ?_) (a' := ?_) #[true, true, false, false, false] rfl rfl (by kernel_rfl) (fun _ _ _ h => h) (Or.inl ⟨by rfl, ?_⟩) hHeld ?_ ?_
            rotate_left
            · rintro w' ⟨s0, s1⟩
              go_simp
              with_reducible rfl
            rotate_left
            · simp only [Act.put, List.setIfInBounds_toArray, List.set_cons_zero, List.set_cons_succ, i64_w, i32_w]
              rfl
            refine one_ (i := 2) (N := some 47) #[true, true, true, false, false] rfl rfl (by kernel_rfl) (by decide) (fun K hK => ?_)
            refine goes_ Try.func26 (by kernel_rfl) rfl #[.agg #[.slice A1_0 l1_0.length c1_0]] (by rfl) rfl rfl hkL ?_
            with_reducible refine (laws_toNat.calls k _ _ l1_0 t436 _ ?side1 ?side2 A30.out).mono ?_
            (case side1 => repeat (first | exact (Kd.C_below HR1_0.out HB.out) | (with_reducible refine Kd.C_alloc ?_ _) | (with_reducible refine Kd.C_drewN ?_ _) | (with_reducible refine Kd.C_drew ?_)))
            (case side2 => exact HC1_0.out)
            rintro e w89 ⟨v437, rfl, ho0, hb⟩
            refine ⟨_, rfl, ?_⟩
            have n0_ := Aside0.mk (Kd.R_elder' (hkR HO411) (Kd.R_base ho0) hb)
            have n1_ := Aside0.mk (Kd.R_elder' (hkR HO414) (Kd.R_base ho0) hb)
            have n2_ := Aside0.mk (Kd.R_elder' (hkR HO417) (Kd.R_base ho0) hb)
            have n3_ := Aside0.mk (Kd.R_elder' (hkR HO421) (Kd.R_base ho0) hb)
            have n4_ := Aside0.mk (Kd.R_elder' (hkR HO425) (Kd.R_base ho0) hb)
            have n5_ := Aside0.mk (Kd.R_elder' (hkR HO429) (Kd.R_base ho0) hb)
            have n6_ := Aside0.mk (Kd.R_elder' (hkR HO434) (Kd.R_base ho0) hb)
            have n7_ := Aside0.mk (Kd.R_lower (Kd.R_new' (Kd.R_new' (Kd.R_new' (Kd.R_new' (Kd.R_new' (Kd.R_new' (Kd.R_new' ho0 (Kd.R_lt (hkR HO411))) (Kd.R_lt (hkR HO414))) (Kd.R_lt (hkR HO417))) (Kd.R_lt (hkR HO421))) (Kd.R_lt (hkR HO425))) (Kd.R_lt (hkR HO429))) (Kd.R_lt (hkR HO434))) (below_size (hkS HB)))
            have n8_ := hkBb BK405 hb
            have n9_ := hkBb BK406 hb
            have n10_ := hkBb BK418 hb
            have n11_ := hkBb BK422 hb
            have n12_ := hkBb BK426 hb
            have n13_ := hkBb BK430 hb
            have n14_ := Aside0.mk (below_step (hkS HB) hb)
            clear HO411
            clear HO414
            clear HO417
            clear HO421
            clear HO425
            clear HO429
            clear HO434
            clear BK405
            clear BK406
            clear BK418
            clear BK422
            clear BK426
            clear BK430
            clear HB
            have HO411 := n0_
            have HO414 := n1_
            have HO417 := n2_
            have HO421 := n3_
            have HO425 := n4_
            have HO429 := n5_
            have HO434 := n6_
            have HO438 := n7_
            have BK405 := n8_
            have BK406 := n9_
            have BK418 := n10_
            have BK422 := n11_
            have BK426 := n12_
            have BK430 := n13_
            have HB := n14_
            clear n0_ n1_ n2_ n3_ n4_ n5_ n6_ n7_ n8_ n9_ n10_ n11_ n12_ n13_ n14_
            (try clear hb)
            (try clear hb2)
            (try clear hk)
            (try clear hi)
            (try clear ho0)
            obtain ⟨Ao90, co90, eo90⟩ := Kd.R_slice HO438.out
            (first | subst eo90 | (injection eo90 with f1_ f2_ f3_; have f4_ := f1_.symm; have f5_ := f3_.symm; clear f1_ f2_ f3_; subst f4_; subst f5_))
            refine hK.out _ _ ⟨(blk_cell BK426.out 0).trans rfl, (blk_cell BK406.out 0).trans rfl⟩ (fun hHeld => ?_)
            clear hK K
            refine norm_ (a' := ?_) ?_ ?_
            rotate_left
            · show Act.put _ (some 47) _ = _
              simp only [Act.put, List.setIfInBounds_toArray, List.set_cons_zero, List.set_cons_succ, i64_w, i32_w]
              rfl
            refine one_ (i := 3) (N := some 48) #[true, true, true, true, false] rfl rfl (by kernel_rfl) (by decide) (fun K hK => ?_)
            refine goes_ Try.func27 (by kernel_rfl) rfl #[.agg #[.slice Ao66 t423.length co66], .agg #[.slice Ao90 t436.length co90]] (by rfl) rfl rfl hkL ?_
            with_reducible refine (laws_eqNat.calls k _ _ t423 _ _ t436 true _ ?side1 ?side2 ?side3 ?side4 A31.out).mono ?_
            (case side1 => repeat (first | exact (Kd.R_reads' HO425.out).2.2 | (with_reducible refine Kd.C_alloc ?_ _) | (with_reducible refine Kd.C_drewN ?_ _) | (with_reducible refine Kd.C_drew ?_)))
            (case side2 => exact (Kd.R_reads' HO425.out).2.1)
            (case side3 => repeat (first | exact (Kd.R_reads' HO438.out).2.2 | (with_reducible refine Kd.C_alloc ?_ _) | (with_reducible refine Kd.C_drewN ?_ _) | (with_reducible refine Kd.C_drew ?_)))
            (case side4 => exact (Kd.R_reads' HO438.out).2.1)
            rintro e w91 ⟨rfl, hb⟩
            refine ⟨_, rfl, ?_⟩
            have n0_ := hkRb HO411 hb
            have n1_ := hkRb HO414 hb
            have n2_ := hkRb HO417 hb
            have n3_ := hkRb HO421 hb
            have n4_ := hkRb HO425 hb
            have n5_ := hkRb HO429 hb
            have n6_ := hkRb HO434 hb
            have n7_ := hkRb HO438 hb
            have n8_ := hkBb BK405 hb
            have n9_ := hkBb BK406 hb
            have n10_ := hkBb BK418 hb
            have n11_ := hkBb BK422 hb
            have n12_ := hkBb BK426 hb
            have n13_ := hkBb BK430 hb
            have n14_ := Aside0.mk (below_step (hkS HB) hb)
            clear HO411
            clear HO414
            clear HO417
            clear HO421
            clear HO425
            clear HO429
            clear HO434
            clear HO438
            clear BK405
            clear BK406
            clear BK418
            clear BK422
            clear BK426
            clear BK430
            clear HB
            have HO411 := n0_
            have HO414 := n1_
            have HO417 := n2_
            have HO421 := n3_
            have HO425 := n4_
            have HO429 := n5_
            have HO434 := n6_
            have HO438 := n7_
            have BK405 := n8_
            have BK406 := n9_
            have BK418 := n10_
            have BK422 := n11_
            have BK426 := n12_
            have BK430 := n13_
            have HB := n14_
            clear n0_ n1_ n2_ n3_ n4_ n5_ n6_ n7_ n8_ n9_ n10_ n11_ n12_ n13_ n14_
            (try clear hb)
            (try clear hb2)
            (try clear hk)
            (try clear hi)
            refine hK.out _ _ ⟨(blk_cell BK426.out 0).trans rfl, (blk_cell BK406.out 0).trans rfl⟩ (fun hHeld => ?_)
            clear hK K
            refine norm_ (a' := ?_) ?_ ?_
            rotate_left
            · show Act.put _ (some 48) _ = _
              simp only [Act.put, List.setIfInBounds_toArray, List.set_cons_zero, List.set_cons_succ, i64_w, i32_w]
              rfl
            refine pure_ (i := 4) (N := some 49) (v := ?_) (a' := ?_) #[true, true, true, true, true] rfl rfl (by kernel_rfl) (fun _ _ _ h => h) (Or.inl ⟨by rfl, ?_⟩) ?_ ?_
            rotate_left
            · intro w'
              go_simp
              with_reducible rfl
            rotate_left
            · simp only [Act.put, List.setIfInBounds_toArray, List.set_cons_zero, List.set_cons_succ, i64_w, i32_w]
              rfl
            refine done_ (by kernel_rfl) ?_
            have hcz92_0 : w91.cell? ⟨gb422, 0, none⟩ = some (.slice Ao57 t419.length co57) := (blk_cell BK422.out 0).trans rfl
            have hfz92_0 := blk_frozen BK422.out 0
            go_upto_region 21 with (first | ((with_reducible refine gate_callee (f := 28) rfl ?_); refine goesL_ (some 52) rfl rfl Try.func28 (by kernel_rfl) rfl #[.agg #[.slice Ao57 t419.length co57], .int .i64 1] rfl hkL ?_; (with_reducible refine (laws_markNat.calls k (fun k_ => some k_ = (.slice Ao57 t419.length co57 : Value).ownBlock) (.slice Ao57 t419.length co57) t419 1 t440 t441 w _ ?side1 ?side2 A33.out).mono ?_); (case side1 => repeat (first | (with_reducible first | exact HB.out | apply below_alloc | apply pw_below_drewN | apply below_drew1 | refine below_set ?_ GE405.out | refine below_set ?_ GE406.out | refine below_set ?_ GE418.out | refine below_set ?_ GE422.out | refine below_set ?_ GE426.out | refine below_set ?_ GE430.out) | exact HB.out)); (case side2 => exact Kd.R_tight rfl HO421.out); rintro e w93 ⟨rfl, hy0, hb, hkp⟩; refine ⟨_, rfl, ?_⟩; have n0_ := Aside0.mk (blk_kept (hkB BK405) hkp (fun hs_ => (fun e_ => (Kd.R_ne HO421.out BK405.out (by decide)) e_) hs_)); have n1_ := Aside0.mk (blk_kept (hkB BK406) hkp (fun hs_ => (fun e_ => (Kd.R_ne HO421.out BK406.out (by decide)) e_) hs_)); have n2_ := Aside0.mk (Kd.R_mono (ok' := fun k_ => some k_ ≠ (v413 : Value).ownBlock ∧ some k_ ≠ (.slice Ao51 t415.length co51 : Value).ownBlock ∧ some k_ ≠ (.slice Ao57 t419.length co57 : Value).ownBlock ∧ some k_ ≠ (.slice Ao66 t423.length co66 : Value).ownBlock ∧ some k_ ≠ (.slice Ao75 t427.length co75 : Value).ownBlock ∧ some k_ ≠ (.slice Ao86 t432.length co86 : Value).ownBlock ∧ some k_ ≠ (.slice Ao90 t436.length co90 : Value).ownBlock) (Kd.R_keptB (HO411.out) hkp (fun k_ hk_ hs_ => by first | exact (hk_.1.1.1.1.2) hs_ | exact hkP hk_ hs_)) (fun k_ hk_ => by first | exact ⟨hk_.1.1.1.1.1.1.1, hk_.1.1.1.1.1.1.2, hk_.1.1.1.1.1.2, hk_.1.1.1.1.2, hk_.1.1.1.2, hk_.1.1.2, hk_.1.2⟩ | exact hkQ hk_)); have n3_ := Aside0.mk (Kd.R_mono (ok' := fun k_ => some k_ ≠ (v410 : Value).ownBlock ∧ some k_ ≠ (.slice Ao51 t415.length co51 : Value).ownBlock ∧ some k_ ≠ (.slice Ao57 t419.length co57 : Value).ownBlock ∧ some k_ ≠ (.slice Ao66 t423.length co66 : Value).ownBlock ∧ some k_ ≠ (.slice Ao75 t427.length co75 : Value).ownBlock ∧ some k_ ≠ (.slice Ao86 t432.length co86 : Value).ownBlock ∧ some k_ ≠ (.slice Ao90 t436.length co90 : Value).ownBlock) (Kd.R_keptB (HO414.out) hkp (fun k_ hk_ hs_ => by first | exact (hk_.1.1.1.1.2) hs_ | exact hkP hk_ hs_)) (fun k_ hk_ => by first | exact ⟨hk_.1.1.1.1.1.1.1, hk_.1.1.1.1.1.1.2, hk_.1.1.1.1.1.2, hk_.1.1.1.1.2, hk_.1.1.1.2, hk_.1.1.2, hk_.1.2⟩ | exact hkQ hk_)); have n4_ := Aside0.mk (Kd.R_mono (ok' := fun k_ => some k_ ≠ (v410 : Value).ownBlock ∧ some k_ ≠ (v413 : Value).ownBlock ∧ some k_ ≠ (.slice Ao57 t419.length co57 : Value).ownBlock ∧ some k_ ≠ (.slice Ao66 t423.length co66 : Value).ownBlock ∧ some k_ ≠ (.slice Ao75 t427.length co75 : Value).ownBlock ∧ some k_ ≠ (.slice Ao86 t432.length co86 : Value).ownBlock ∧ some k_ ≠ (.slice Ao90 t436.length co90 : Value).ownBlock) (Kd.R_keptB (HO417.out) hkp (fun k_ hk_ hs_ => by first | exact (hk_.1.1.1.1.2) hs_ | exact hkP hk_ hs_)) (fun k_ hk_ => by first | exact ⟨hk_.1.1.1.1.1.1.1, hk_.1.1.1.1.1.1.2, hk_.1.1.1.1.1.2, hk_.1.1.1.1.2, hk_.1.1.1.2, hk_.1.1.2, hk_.1.2⟩ | exact hkQ hk_)); have n5_ := Aside0.mk (blk_kept (hkB BK418) hkp (fun hs_ => (fun e_ => (Kd.R_ne HO421.out BK418.out (by decide)) e_) hs_)); have n6_ := Aside0.mk (Kd.R_reok rfl hy0 (fun k_ e_ => HO421.out.1 k_ e_)); have n7_ := Aside0.mk (blk_kept (hkB BK422) hkp (fun hs_ => (fun e_ => (Kd.R_ne HO421.out BK422.out (by decide)) e_) hs_)); have n8_ := Aside0.mk (Kd.R_mono (ok' := fun k_ => some k_ ≠ (v410 : Value).ownBlock ∧ some k_ ≠ (v413 : Value).ownBlock ∧ some k_ ≠ (.slice Ao51 t415.length co51 : Value).ownBlock ∧ some k_ ≠ (.slice Ao57 t419.length co57 : Value).ownBlock ∧ some k_ ≠ (.slice Ao75 t427.length co75 : Value).ownBlock ∧ some k_ ≠ (.slice Ao86 t432.length co86 : Value).ownBlock ∧ some k_ ≠ (.slice Ao90 t436.length co90 : Value).ownBlock) (Kd.R_keptB (HO425.out) hkp (fun k_ hk_ hs_ => by first | exact (hk_.1.1.1.2) hs_ | exact hkP hk_ hs_)) (fun k_ hk_ => by first | exact ⟨hk_.1.1.1.1.1.1.1.2, hk_.1.1.1.1.1.1.2, hk_.1.1.1.1.1.2, hk_.1.1.1.1.2, hk_.1.1.1.2, hk_.1.1.2, hk_.1.2⟩ | exact hkQ hk_)); have n9_ := Aside0.mk (blk_kept (hkB BK426) hkp (fun hs_ => (fun e_ => (Kd.R_ne HO421.out BK426.out (by decide)) e_) hs_)); have n10_ := Aside0.mk (Kd.R_mono (ok' := fun k_ => some k_ ≠ (v410 : Value).ownBlock ∧ some k_ ≠ (v413 : Value).ownBlock ∧ some k_ ≠ (.slice Ao51 t415.length co51 : Value).ownBlock ∧ some k_ ≠ (.slice Ao57 t419.length co57 : Value).ownBlock ∧ some k_ ≠ (.slice Ao66 t423.length co66 : Value).ownBlock ∧ some k_ ≠ (.slice Ao86 t432.length co86 : Value).ownBlock ∧ some k_ ≠ (.slice Ao90 t436.length co90 : Value).ownBlock) (Kd.R_keptB (HO429.out) hkp (fun k_ hk_ hs_ => by first | exact (hk_.1.1.1.2) hs_ | exact hkP hk_ hs_)) (fun k_ hk_ => by first | exact ⟨hk_.1.1.1.1.1.1.1.2, hk_.1.1.1.1.1.1.2, hk_.1.1.1.1.1.2, hk_.1.1.1.1.2, hk_.1.1.1.2, hk_.1.1.2, hk_.1.2⟩ | exact hkQ hk_)); have n11_ := Aside0.mk (blk_kept (hkB BK430) hkp (fun hs_ => (fun e_ => (Kd.R_ne HO421.out BK430.out (by decide)) e_) hs_)); have n12_ := Aside0.mk (Kd.R_mono (ok' := fun k_ => some k_ ≠ (v410 : Value).ownBlock ∧ some k_ ≠ (v413 : Value).ownBlock ∧ some k_ ≠ (.slice Ao51 t415.length co51 : Value).ownBlock ∧ some k_ ≠ (.slice Ao57 t419.length co57 : Value).ownBlock ∧ some k_ ≠ (.slice Ao66 t423.length co66 : Value).ownBlock ∧ some k_ ≠ (.slice Ao75 t427.length co75 : Value).ownBlock ∧ some k_ ≠ (.slice Ao90 t436.length co90 : Value).ownBlock) (Kd.R_keptB (HO434.out) hkp (fun k_ hk_ hs_ => by first | exact (hk_.1.1.1.2) hs_ | exact hkP hk_ hs_)) (fun k_ hk_ => by first | exact ⟨hk_.1.1.1.1.1.1.1.2, hk_.1.1.1.1.1.1.2, hk_.1.1.1.1.1.2, hk_.1.1.1.1.2, hk_.1.1.1.2, hk_.1.1.2, hk_.1.2⟩ | exact hkQ hk_)); have n13_ := Aside0.mk (Kd.R_mono (ok' := fun k_ => some k_ ≠ (v410 : Value).ownBlock ∧ some k_ ≠ (v413 : Value).ownBlock ∧ some k_ ≠ (.slice Ao51 t415.length co51 : Value).ownBlock ∧ some k_ ≠ (.slice Ao57 t419.length co57 : Value).ownBlock ∧ some k_ ≠ (.slice Ao66 t423.length co66 : Value).ownBlock ∧ some k_ ≠ (.slice Ao75 t427.length co75 : Value).ownBlock ∧ some k_ ≠ (.slice Ao86 t432.length co86 : Value).ownBlock) (Kd.R_keptB (HO438.out) hkp (fun k_ hk_ hs_ => by first | exact (hk_.1.1.1.2) hs_ | exact hkP hk_ hs_)) (fun k_ hk_ => by first | exact ⟨hk_.1.1.1.1.1.1.1.2, hk_.1.1.1.1.1.1.2, hk_.1.1.1.1.1.2, hk_.1.1.1.1.2, hk_.1.1.1.2, hk_.1.1.2, hk_.1.2⟩ | exact hkQ hk_)); have n14_ := Aside0.mk (hb); clear BK405; clear BK406; clear HO411; clear HO414; clear HO417; clear BK418; clear HO421; clear BK422; clear HO425; clear BK426; clear HO429; clear BK430; clear HO434; clear HO438; clear HB; have BK405 := n0_; have BK406 := n1_; have HO411 := n2_; have HO414 := n3_; have HO417 := n4_; have BK418 := n5_; have HO421 := n6_; have BK422 := n7_; have HO425 := n8_; have BK426 := n9_; have HO429 := n10_; have BK430 := n11_; have HO434 := n12_; have HO438 := n13_; have HB := n14_; clear n0_ n1_ n2_ n3_ n4_ n5_ n6_ n7_ n8_ n9_ n10_ n11_ n12_ n13_ n14_; (try clear hb); (try clear hkp); (try clear hy0); have hcz94_0 : w93.cell? ⟨gb426, 0, none⟩ = some (.slice Ao66 t423.length co66) := (blk_cell BK426.out 0).trans rfl; have hfz94_0 := blk_frozen BK426.out 0) | ((with_reducible refine gate_callee (f := 28) rfl ?_); refine goesL_ (some 55) rfl rfl Try.func28 (by kernel_rfl) rfl #[.agg #[.slice Ao66 t423.length co66], .int .i64 t440] rfl hkL ?_; (with_reducible refine (laws_markNat.calls k (fun k_ => some k_ = (.slice Ao66 t423.length co66 : Value).ownBlock) (.slice Ao66 t423.length co66) t423 t440 t442 t443 w _ ?side1 ?side2 A34.out).mono ?_); (case side1 => repeat (first | (with_reducible first | exact HB.out | apply below_alloc | apply pw_below_drewN | apply below_drew1 | refine below_set ?_ GE405.out | refine below_set ?_ GE406.out | refine below_set ?_ GE418.out | refine below_set ?_ GE422.out | refine below_set ?_ GE426.out | refine below_set ?_ GE430.out) | exact HB.out)); (case side2 => exact Kd.R_tight rfl HO425.out); rintro e w95 ⟨rfl, hy0, hb, hkp⟩; refine ⟨_, rfl, ?_⟩; have n0_ := Aside0.mk (blk_kept (hkB BK405) hkp (fun hs_ => (fun e_ => (Kd.R_ne HO425.out BK405.out (by decide)) e_) hs_)); have n1_ := Aside0.mk (blk_kept (hkB BK406) hkp (fun hs_ => (fun e_ => (Kd.R_ne HO425.out BK406.out (by decide)) e_) hs_)); have n2_ := Aside0.mk (Kd.R_mono (ok' := fun k_ => some k_ ≠ (v413 : Value).ownBlock ∧ some k_ ≠ (.slice Ao51 t415.length co51 : Value).ownBlock ∧ some k_ ≠ (.slice Ao57 t419.length co57 : Value).ownBlock ∧ some k_ ≠ (.slice Ao66 t423.length co66 : Value).ownBlock ∧ some k_ ≠ (.slice Ao75 t427.length co75 : Value).ownBlock ∧ some k_ ≠ (.slice Ao86 t432.length co86 : Value).ownBlock ∧ some k_ ≠ (.slice Ao90 t436.length co90 : Value).ownBlock) (Kd.R_keptB (HO411.out) hkp (fun k_ hk_ hs_ => by first | exact (hk_.2.2.2.1) hs_ | exact hkP hk_ hs_)) (fun k_ hk_ => by first | exact ⟨hk_.1.1, hk_.1.2.1, hk_.1.2.2.1, hk_.1.2.2.2.1, hk_.1.2.2.2.2.1, hk_.1.2.2.2.2.2.1, hk_.1.2.2.2.2.2.2⟩ | exact hkQ hk_)); have n3_ := Aside0.mk (Kd.R_mono (ok' := fun k_ => some k_ ≠ (v410 : Value).ownBlock ∧ some k_ ≠ (.slice Ao51 t415.length co51 : Value).ownBlock ∧ some k_ ≠ (.slice Ao57 t419.length co57 : Value).ownBlock ∧ some k_ ≠ (.slice Ao66 t423.length co66 : Value).ownBlock ∧ some k_ ≠ (.slice Ao75 t427.length co75 : Value).ownBlock ∧ some k_ ≠ (.slice Ao86 t432.length co86 : Value).ownBlock ∧ some k_ ≠ (.slice Ao90 t436.length co90 : Value).ownBlock) (Kd.R_keptB (HO414.out) hkp (fun k_ hk_ hs_ => by first | exact (hk_.2.2.2.1) hs_ | exact hkP hk_ hs_)) (fun k_ hk_ => by first | exact ⟨hk_.1.1, hk_.1.2.1, hk_.1.2.2.1, hk_.1.2.2.2.1, hk_.1.2.2.2.2.1, hk_.1.2.2.2.2.2.1, hk_.1.2.2.2.2.2.2⟩ | exact hkQ hk_)); have n4_ := Aside0.mk (Kd.R_mono (ok' := fun k_ => some k_ ≠ (v410 : Value).ownBlock ∧ some k_ ≠ (v413 : Value).ownBlock ∧ some k_ ≠ (.slice Ao57 t419.length co57 : Value).ownBlock ∧ some k_ ≠ (.slice Ao66 t423.length co66 : Value).ownBlock ∧ some k_ ≠ (.slice Ao75 t427.length co75 : Value).ownBlock ∧ some k_ ≠ (.slice Ao86 t432.length co86 : Value).ownBlock ∧ some k_ ≠ (.slice Ao90 t436.length co90 : Value).ownBlock) (Kd.R_keptB (HO417.out) hkp (fun k_ hk_ hs_ => by first | exact (hk_.2.2.2.1) hs_ | exact hkP hk_ hs_)) (fun k_ hk_ => by first | exact ⟨hk_.1.1, hk_.1.2.1, hk_.1.2.2.1, hk_.1.2.2.2.1, hk_.1.2.2.2.2.1, hk_.1.2.2.2.2.2.1, hk_.1.2.2.2.2.2.2⟩ | exact hkQ hk_)); have n5_ := Aside0.mk (blk_kept (hkB BK418) hkp (fun hs_ => (fun e_ => (Kd.R_ne HO425.out BK418.out (by decide)) e_) hs_)); have n6_ := Aside0.mk (Kd.R_mono (ok' := fun k_ => some k_ ≠ (v410 : Value).ownBlock ∧ some k_ ≠ (v413 : Value).ownBlock ∧ some k_ ≠ (.slice Ao51 t415.length co51 : Value).ownBlock ∧ some k_ ≠ (.slice Ao66 t423.length co66 : Value).ownBlock ∧ some k_ ≠ (.slice Ao75 t427.length co75 : Value).ownBlock ∧ some k_ ≠ (.slice Ao86 t432.length co86 : Value).ownBlock ∧ some k_ ≠ (.slice Ao90 t436.length co90 : Value).ownBlock) (Kd.R_keptB (HO421.out) hkp (fun k_ hk_ hs_ => by first | exact (hk_.1.1.1.2) hs_ | exact hkP hk_ hs_)) (fun k_ hk_ => by first | exact ⟨hk_.1.1.1.1.1.1.1.2, hk_.1.1.1.1.1.1.2, hk_.1.1.1.1.1.2, hk_.1.1.1.1.2, hk_.1.1.1.2, hk_.1.1.2, hk_.1.2⟩ | exact hkQ hk_)); have n7_ := Aside0.mk (blk_kept (hkB BK422) hkp (fun hs_ => (fun e_ => (Kd.R_ne HO425.out BK422.out (by decide)) e_) hs_)); have n8_ := Aside0.mk (Kd.R_reok rfl hy0 (fun k_ e_ => HO425.out.1 k_ e_)); have n9_ := Aside0.mk (blk_kept (hkB BK426) hkp (fun hs_ => (fun e_ => (Kd.R_ne HO425.out BK426.out (by decide)) e_) hs_)); have n10_ := Aside0.mk (Kd.R_mono (ok' := fun k_ => some k_ ≠ (v410 : Value).ownBlock ∧ some k_ ≠ (v413 : Value).ownBlock ∧ some k_ ≠ (.slice Ao51 t415.length co51 : Value).ownBlock ∧ some k_ ≠ (.slice Ao57 t419.length co57 : Value).ownBlock ∧ some k_ ≠ (.slice Ao66 t423.length co66 : Value).ownBlock ∧ some k_ ≠ (.slice Ao86 t432.length co86 : Value).ownBlock ∧ some k_ ≠ (.slice Ao90 t436.length co90 : Value).ownBlock) (Kd.R_keptB (HO429.out) hkp (fun k_ hk_ hs_ => by first | exact (hk_.2.2.2.2.1) hs_ | exact hkP hk_ hs_)) (fun k_ hk_ => by first | exact ⟨hk_.1.1, hk_.1.2.1, hk_.1.2.2.1, hk_.1.2.2.2.1, hk_.1.2.2.2.2.1, hk_.1.2.2.2.2.2.1, hk_.1.2.2.2.2.2.2⟩ | exact hkQ hk_)); have n11_ := Aside0.mk (blk_kept (hkB BK430) hkp (fun hs_ => (fun e_ => (Kd.R_ne HO425.out BK430.out (by decide)) e_) hs_)); have n12_ := Aside0.mk (Kd.R_mono (ok' := fun k_ => some k_ ≠ (v410 : Value).ownBlock ∧ some k_ ≠ (v413 : Value).ownBlock ∧ some k_ ≠ (.slice Ao51 t415.length co51 : Value).ownBlock ∧ some k_ ≠ (.slice Ao57 t419.length co57 : Value).ownBlock ∧ some k_ ≠ (.slice Ao66 t423.length co66 : Value).ownBlock ∧ some k_ ≠ (.slice Ao75 t427.length co75 : Value).ownBlock ∧ some k_ ≠ (.slice Ao90 t436.length co90 : Value).ownBlock) (Kd.R_keptB (HO434.out) hkp (fun k_ hk_ hs_ => by first | exact (hk_.2.2.2.2.1) hs_ | exact hkP hk_ hs_)) (fun k_ hk_ => by first | exact ⟨hk_.1.1, hk_.1.2.1, hk_.1.2.2.1, hk_.1.2.2.2.1, hk_.1.2.2.2.2.1, hk_.1.2.2.2.2.2.1, hk_.1.2.2.2.2.2.2⟩ | exact hkQ hk_)); have n13_ := Aside0.mk (Kd.R_mono (ok' := fun k_ => some k_ ≠ (v410 : Value).ownBlock ∧ some k_ ≠ (v413 : Value).ownBlock ∧ some k_ ≠ (.slice Ao51 t415.length co51 : Value).ownBlock ∧ some k_ ≠ (.slice Ao57 t419.length co57 : Value).ownBlock ∧ some k_ ≠ (.slice Ao66 t423.length co66 : Value).ownBlock ∧ some k_ ≠ (.slice Ao75 t427.length co75 : Value).ownBlock ∧ some k_ ≠ (.slice Ao86 t432.length co86 : Value).ownBlock) (Kd.R_keptB (HO438.out) hkp (fun k_ hk_ hs_ => by first | exact (hk_.2.2.2.2.1) hs_ | exact hkP hk_ hs_)) (fun k_ hk_ => by first | exact ⟨hk_.1.1, hk_.1.2.1, hk_.1.2.2.1, hk_.1.2.2.2.1, hk_.1.2.2.2.2.1, hk_.1.2.2.2.2.2.1, hk_.1.2.2.2.2.2.2⟩ | exact hkQ hk_)); have n14_ := Aside0.mk (hb); clear BK405; clear BK406; clear HO411; clear HO414; clear HO417; clear BK418; clear HO421; clear BK422; clear HO425; clear BK426; clear HO429; clear BK430; clear HO434; clear HO438; clear HB; have BK405 := n0_; have BK406 := n1_; have HO411 := n2_; have HO414 := n3_; have HO417 := n4_; have BK418 := n5_; have HO421 := n6_; have BK422 := n7_; have HO425 := n8_; have BK426 := n9_; have HO429 := n10_; have BK430 := n11_; have HO434 := n12_; have HO438 := n13_; have HB := n14_; clear n0_ n1_ n2_ n3_ n4_ n5_ n6_ n7_ n8_ n9_ n10_ n11_ n12_ n13_ n14_; (try clear hb); (try clear hkp); (try clear hy0)))
            (try simp only [Act.put, List.setIfInBounds_toArray, List.set_cons_zero, List.set_cons_succ])
            go_cut [63] (fun v63 wc => ∃ (kq : Nat) (x63_34 : Bool), v63 = .bool x63_34 ∧ Aside0 (laws_FnExactNatGcd.j0 kq x63_34 l0_0 l1_0 t415 t427 = some true) ∧ Aside0 (kq ≤ k) ∧ Aside0 (Kd.R (Kd.int .i64) 3 wc w.heap.size (fun k_ => some k_ ≠ ((.slice Ao57 t419.length co57) : Value).ownBlock ∧ some k_ ≠ ((.slice Ao66 t423.length co66) : Value).ownBlock ∧ some k_ ≠ ((.slice Ao75 t427.length co75) : Value).ownBlock) (.slice Ao51 t415.length co51) t415) ∧ Aside0 (Kd.R (Kd.int .i64) 3 wc w.heap.size (fun k_ => some k_ ≠ ((.slice Ao51 t415.length co51) : Value).ownBlock ∧ some k_ ≠ ((.slice Ao66 t423.length co66) : Value).ownBlock ∧ some k_ ≠ ((.slice Ao75 t427.length co75) : Value).ownBlock) (.slice Ao57 t419.length co57) t441) ∧ Aside0 (Kd.R (Kd.int .i64) 3 wc w.heap.size (fun k_ => some k_ ≠ ((.slice Ao51 t415.length co51) : Value).ownBlock ∧ some k_ ≠ ((.slice Ao57 t419.length co57) : Value).ownBlock ∧ some k_ ≠ ((.slice Ao75 t427.length co75) : Value).ownBlock) (.slice Ao66 t423.length co66) t443) ∧ Aside0 (Kd.R (Kd.int .i64) 3 wc w.heap.size (fun k_ => some k_ ≠ ((.slice Ao51 t415.length co51) : Value).ownBlock ∧ some k_ ≠ ((.slice Ao57 t419.length co57) : Value).ownBlock ∧ some k_ ≠ ((.slice Ao66 t423.length co66) : Value).ownBlock) (.slice Ao75 t427.length co75) t427) ∧ Aside0 (wc.heap[gb405]? = some (.cells #[(.slice A0_0 l0_0.length c0_0)] 31 (0, 0))) ∧ Aside0 (wc.heap[gb406]? = some (.cells #[(.slice A1_0 l1_0.length c1_0)] 31 (0, 0))) ∧ Aside0 (wc.heap[gb418]? = some (.cells #[(.slice Ao51 t415.length co51)] 38 (0, 0))) ∧ Aside0 (wc.heap[gb422]? = some (.cells #[(.slice Ao57 t419.length co57)] 38 (0, 0))) ∧ Aside0 (wc.heap[gb426]? = some (.cells #[(.slice Ao66 t423.length co66)] 38 (0, 0))) ∧ Aside0 (wc.heap[gb430]? = some (.cells #[(.slice Ao75 t427.length co75)] 38 (0, 0))) ∧ Aside0 (Below w.heap.size w wc))
            case first =>
              have H := HC35.out
              clear HC35
              by_cases c96 : t442 < 0
              · rw [if_pos c96] at H
                have c96b0 : decide (t442 < 0) = true := decide_eq_true c96
                clear c96
                (first | rw [c96b0] | (simp only [i64_w, i32_w]; rw [c96b0]) | skip)
                have H' := Aside0.mk H
                clear H
                go_wp2
                go_meet
                case rel => exact ⟨_, (true), (by first | rfl | (simp; done) | (simp [*]; done)), H', ⟨by first | omega | exact Nat.le_refl _⟩, ⟨by (with_reducible repeat (first | apply Kd.R_alloc | apply Kd.R_drewN | apply Kd.R_drew)); exact Kd.R_mono HO417.out (fun _ hk => ⟨hk.2.2.1, ⟨hk.2.2.2.1, hk.2.2.2.2.1⟩⟩)⟩, ⟨by (with_reducible repeat (first | apply Kd.R_alloc | apply Kd.R_drewN | apply Kd.R_drew)); exact Kd.R_mono HO421.out (fun _ hk => ⟨hk.2.2.1, ⟨hk.2.2.2.1, hk.2.2.2.2.1⟩⟩)⟩, ⟨by (with_reducible repeat (first | apply Kd.R_alloc | apply Kd.R_drewN | apply Kd.R_drew)); exact Kd.R_mono HO425.out (fun _ hk => ⟨hk.2.2.1, ⟨hk.2.2.2.1, hk.2.2.2.2.1⟩⟩)⟩, ⟨by (with_reducible repeat (first | apply Kd.R_alloc | apply Kd.R_drewN | apply Kd.R_drew)); exact Kd.R_mono HO429.out (fun _ hk => ⟨hk.2.2.1, ⟨hk.2.2.2.1, hk.2.2.2.2.1⟩⟩)⟩, ⟨by (with_reducible repeat (first | refine blk_drewN ?_ _ | refine blk_drew ?_ | refine blk_alloc ?_ _)); exact BK405.out⟩, ⟨by (with_reducible repeat (first | refine blk_drewN ?_ _ | refine blk_drew ?_ | refine blk_alloc ?_ _)); exact BK406.out⟩, ⟨by (with_reducible repeat (first | refine blk_drewN ?_ _ | refine blk_drew ?_ | refine blk_alloc ?_ _)); exact BK418.out⟩, ⟨by (with_reducible repeat (first | refine blk_drewN ?_ _ | refine blk_drew ?_ | refine blk_alloc ?_ _)); exact BK422.out⟩, ⟨by (with_reducible repeat (first | refine blk_drewN ?_ _ | refine blk_drew ?_ | refine blk_alloc ?_ _)); exact BK426.out⟩, ⟨by (with_reducible repeat (first | refine blk_drewN ?_ _ | refine blk_drew ?_ | refine blk_alloc ?_ _)); exact BK430.out⟩, ⟨by repeat (first | (with_reducible first | exact HB.out | apply below_alloc | apply pw_below_drewN | apply below_drew1 | refine below_set ?_ GE405.out | refine below_set ?_ GE406.out | refine below_set ?_ GE418.out | refine below_set ?_ GE422.out | refine below_set ?_ GE426.out | refine below_set ?_ GE430.out) | exact HB.out)⟩⟩
              · rw [if_neg c96] at H
                have c96b0 : decide (t442 < 0) = false := decide_eq_false c96
                clear c96
                (first | rw [c96b0] | (simp only [i64_w, i32_w]; rw [c96b0]) | skip)
                replace H := Option.bind_eq_some_iff.mp H
                obtain ⟨t444, A970, H⟩ := H
                replace H : (laws_FnExactNatGcd.j0 k (!t444) l0_0 l1_0 t415 t427) = some true := H
                have A97 := Aside0.mk A970
                clear A970
                have H' := Aside0.mk H
                clear H
                have hnb98 := NB430_405.out
                have hnc98 := NB405_430.out
                have hnb99 := NB430_406.out
                have hnc99 := NB406_430.out
                have hnb100 := NB430_418.out
                have hnc100 := NB418_430.out
                have hnb101 := NB430_422.out
                have hnc101 := NB422_430.out
                have hnb102 := NB430_426.out
                have hnc102 := NB426_430.out
                have hcz103_0 : w95.cell? ⟨gb430, 0, none⟩ = some (.slice Ao75 t427.length co75) := (blk_cell BK430.out 0).trans rfl
                have hfz103_0 := blk_frozen BK430.out 0
                have hnb104 := NB418_405.out
                have hnc104 := NB405_418.out
                have hnb105 := NB418_406.out
                have hnc105 := NB406_418.out
                have hnb106 := NB418_422.out
                have hnc106 := NB422_418.out
                have hnb107 := NB418_426.out
                have hnc107 := NB426_418.out
                have hcz108_0 : w95.cell? ⟨gb418, 0, none⟩ = some (.slice Ao51 t415.length co51) := (blk_cell BK418.out 0).trans rfl
                have hfz108_0 := blk_frozen BK418.out 0
                go_wp2_with (first | (go_at_call 27; (with_reducible refine (laws_eqNat.calls k _ _ t427 _ _ t415 t444 _ ?side1 ?side2 ?side3 ?side4 A97.out).mono ?_); (case side1 => repeat (first | exact (Kd.R_reads' HO429.out).2.2 | (with_reducible refine Kd.C_alloc ?_ _) | (with_reducible refine Kd.C_drewN ?_ _) | (with_reducible refine Kd.C_drew ?_))); (case side2 => exact (Kd.R_reads' HO429.out).2.1); (case side3 => repeat (first | exact (Kd.R_reads' HO417.out).2.2 | (with_reducible refine Kd.C_alloc ?_ _) | (with_reducible refine Kd.C_drewN ?_ _) | (with_reducible refine Kd.C_drew ?_))); (case side4 => exact (Kd.R_reads' HO417.out).2.1); rintro e w109 ⟨rfl, hb⟩; have n0_ := hkRb HO411 hb; have n1_ := hkRb HO414 hb; have n2_ := hkRb HO417 hb; have n3_ := hkRb HO421 hb; have n4_ := hkRb HO425 hb; have n5_ := hkRb HO429 hb; have n6_ := hkRb HO434 hb; have n7_ := hkRb HO438 hb; have n8_ := hkBb BK405 hb; have n9_ := hkBb BK406 hb; have n10_ := hkBb BK418 hb; have n11_ := hkBb BK422 hb; have n12_ := hkBb BK426 hb; have n13_ := hkBb BK430 hb; have n14_ := Aside0.mk (below_step (hkS HB) hb); clear HO411; clear HO414; clear HO417; clear HO421; clear HO425; clear HO429; clear HO434; clear HO438; clear BK405; clear BK406; clear BK418; clear BK422; clear BK426; clear BK430; clear HB; have HO411 := n0_; have HO414 := n1_; have HO417 := n2_; have HO421 := n3_; have HO425 := n4_; have HO429 := n5_; have HO434 := n6_; have HO438 := n7_; have BK405 := n8_; have BK406 := n9_; have BK418 := n10_; have BK422 := n11_; have BK426 := n12_; have BK430 := n13_; have HB := n14_; clear n0_ n1_ n2_ n3_ n4_ n5_ n6_ n7_ n8_ n9_ n10_ n11_ n12_ n13_ n14_; (try clear hb); (try clear hb2); (try clear hk); (try clear hi)))
                go_meet
                case rel => exact ⟨_, (!t444), (by first | rfl | (simp; done) | (simp [*]; done)), H', ⟨by first | omega | exact Nat.le_refl _⟩, ⟨by (with_reducible repeat (first | apply Kd.R_alloc | apply Kd.R_drewN | apply Kd.R_drew)); exact Kd.R_mono HO417.out (fun _ hk => ⟨hk.2.2.1, ⟨hk.2.2.2.1, hk.2.2.2.2.1⟩⟩)⟩, ⟨by (with_reducible repeat (first | apply Kd.R_alloc | apply Kd.R_drewN | apply Kd.R_drew)); exact Kd.R_mono HO421.out (fun _ hk => ⟨hk.2.2.1, ⟨hk.2.2.2.1, hk.2.2.2.2.1⟩⟩)⟩, ⟨by (with_reducible repeat (first | apply Kd.R_alloc | apply Kd.R_drewN | apply Kd.R_drew)); exact Kd.R_mono HO425.out (fun _ hk => ⟨hk.2.2.1, ⟨hk.2.2.2.1, hk.2.2.2.2.1⟩⟩)⟩, ⟨by (with_reducible repeat (first | apply Kd.R_alloc | apply Kd.R_drewN | apply Kd.R_drew)); exact Kd.R_mono HO429.out (fun _ hk => ⟨hk.2.2.1, ⟨hk.2.2.2.1, hk.2.2.2.2.1⟩⟩)⟩, ⟨by (with_reducible repeat (first | refine blk_drewN ?_ _ | refine blk_drew ?_ | refine blk_alloc ?_ _)); exact BK405.out⟩, ⟨by (with_reducible repeat (first | refine blk_drewN ?_ _ | refine blk_drew ?_ | refine blk_alloc ?_ _)); exact BK406.out⟩, ⟨by (with_reducible repeat (first | refine blk_drewN ?_ _ | refine blk_drew ?_ | refine blk_alloc ?_ _)); exact BK418.out⟩, ⟨by (with_reducible repeat (first | refine blk_drewN ?_ _ | refine blk_drew ?_ | refine blk_alloc ?_ _)); exact BK422.out⟩, ⟨by (with_reducible repeat (first | refine blk_drewN ?_ _ | refine blk_drew ?_ | refine blk_alloc ?_ _)); exact BK426.out⟩, ⟨by (with_reducible repeat (first | refine blk_drewN ?_ _ | refine blk_drew ?_ | refine blk_alloc ?_ _)); exact BK430.out⟩, ⟨by repeat (first | (with_reducible first | exact HB.out | apply below_alloc | apply pw_below_drewN | apply below_drew1 | refine below_set ?_ GE405.out | refine below_set ?_ GE406.out | refine below_set ?_ GE418.out | refine below_set ?_ GE422.out | refine below_set ?_ GE426.out | refine below_set ?_ GE430.out) | exact HB.out)⟩⟩
            case rest =>
              clear HC35
              try clear c1
              try clear c2
              try clear p2
              try clear c3
              try clear c5
              try clear c6
              try clear c7
              try clear c8
              try clear c9
              try clear c10
              try clear c19
              try clear c26
              try clear c27
              try clear c28
              try clear c35
              try clear c53
              try clear c58
              try clear c59
              try clear c60
              try clear c62
              try clear c67
              try clear c68
              try clear c69
              try clear c70
              try clear c76
              try clear c77
              try clear c78
              try clear c79
              try clear c80
              try clear c96
              try clear c96b0
              try clear c98
              try clear c99
              try clear c100
              try clear c101
              try clear c102
              try clear c104
              try clear c105
              try clear c106
              try clear c107
              try clear hcz103_0
              try clear hcz108_0
              try clear hcz54_0
              try clear hcz61_0
              try clear hcz63_0
              try clear hcz71_0
              try clear hcz72_0
              try clear hcz81_0
              try clear hcz82_0
              try clear hcz92_0
              try clear hcz94_0
              try clear hfz103_0
              try clear hfz108_0
              try clear hfz54_0
              try clear hfz61_0
              try clear hfz63_0
              try clear hfz71_0
              try clear hfz72_0
              try clear hfz81_0
              try clear hfz82_0
              try clear hfz92_0
              try clear hfz94_0
              obtain ⟨kq, x63_34, rfl, HA, HJ34, HO_419000, HO_423000, HO_427000, HO_431000, BK405, BK406, BK418, BK422, BK426, BK430, HB⟩ := hcut
              have hl423000_34 := (Kd.R_reads' HO_423000.out).1
              rw [hl423000_34] at HO_423000
              (try simp only [hl423000_34])
              (try simp only [hl423000_34] at BK405)
              (try simp only [hl423000_34] at BK406)
              (try simp only [hl423000_34] at BK418)
              (try simp only [hl423000_34] at BK422)
              (try simp only [hl423000_34] at BK426)
              (try simp only [hl423000_34] at BK430)
              (try simp only [hl423000_34] at HO_419000)
              (try simp only [hl423000_34] at HO_427000)
              (try simp only [hl423000_34] at HO_431000)
              have hl427000_34 := (Kd.R_reads' HO_427000.out).1
              rw [hl427000_34] at HO_427000
              (try simp only [hl427000_34])
              (try simp only [hl427000_34] at BK405)
              (try simp only [hl427000_34] at BK406)
              (try simp only [hl427000_34] at BK418)
              (try simp only [hl427000_34] at BK422)
              (try simp only [hl427000_34] at BK426)
              (try simp only [hl427000_34] at BK430)
              (try simp only [hl427000_34] at HO_419000)
              (try simp only [hl427000_34] at HO_423000)
              (try simp only [hl427000_34] at HO_431000)
              cases kq with
              | zero => exact absurd HA.out (by simp [laws_FnExactNatGcd.j0])
              | succ kj34 =>
                have H := HA.out
                clear HA
                simp only [laws_FnExactNatGcd.j0] at H
                by_cases c110 : x63_34 = true
                · subst c110
                  have H1 : (some false) = some true := by rw [if_pos rfl] at H; exact H
                  clear H
                  have H := H1
                  clear H1
                  exact absurd (Option.some.inj H) (by decide)
                · replace c110 := Bool.eq_false_iff.mpr c110
                  subst c110
                  have H1 : ((laws_markNat.f kj34 t427 1).bind fun bt445 => ((laws_heldNat.f kj34 bt445.2 1).bind fun t447 => (if t447 < 0 then (some false) else (if t447 = bt445.1 then ((laws_toNat.f kj34 l0_0).bind fun t448 => ((laws_toNat.f kj34 l1_0).bind fun t451 => ((impl_NatGcd.f kj34 t448 t451).bind fun t454 => ((laws_eqNat.f kj34 t454 t415).bind fun t458 => (if t458 = true then ((laws_heldNat.f kj34 bt445.2 1).bind fun t459 => (if t459 < 0 then (some false) else (if t459 = bt445.1 then (some true) else (some false)))) else (some false)))))) else (some false))))) = some true := by rw [if_neg (show ¬ (false = true) by decide)] at H; exact H
                  clear H
                  have H := H1
                  clear H1
                  replace H := Option.bind_eq_some_iff.mp H
                  obtain ⟨⟨t445, t446⟩, A1110, H⟩ := H
                  replace H : ((laws_heldNat.f kj34 t446 1).bind fun t447 => (if t447 < 0 then (some false) else (if t447 = t445 then ((laws_toNat.f kj34 l0_0).bind fun t448 => ((laws_toNat.f kj34 l1_0).bind fun t451 => ((impl_NatGcd.f kj34 t448 t451).bind fun t454 => ((laws_eqNat.f kj34 t454 t415).bind fun t458 => (if t458 = true then ((laws_heldNat.f kj34 t446 1).bind fun t459 => (if t459 < 0 then (some false) else (if t459 = t445 then (some true) else (some false)))) else (some false)))))) else (some false)))) = some true := H
                  have A111 := Aside0.mk A1110
                  clear A1110
                  replace H := Option.bind_eq_some_iff.mp H
                  obtain ⟨t447, A1120, H⟩ := H
                  replace H : (if t447 < 0 then (some false) else (if t447 = t445 then ((laws_toNat.f kj34 l0_0).bind fun t448 => ((laws_toNat.f kj34 l1_0).bind fun t451 => ((impl_NatGcd.f kj34 t448 t451).bind fun t454 => ((laws_eqNat.f kj34 t454 t415).bind fun t458 => (if t458 = true then ((laws_heldNat.f kj34 t446 1).bind fun t459 => (if t459 < 0 then (some false) else (if t459 = t445 then (some true) else (some false)))) else (some false)))))) else (some false))) = some true := H
                  have A112 := Aside0.mk A1120
                  clear A1120
                  by_cases c113 : t447 < 0
                  · rw [if_pos c113] at H
                    have c113b0 : decide (t447 < 0) = true := decide_eq_true c113
                    clear c113
                    exact absurd (Option.some.inj H) (by decide)
                  · rw [if_neg c113] at H
                    have c113b0 : decide (t447 < 0) = false := decide_eq_false c113
                    clear c113
                    by_cases c123 : t447 = t445
                    · rw [if_pos c123] at H
                      have c123b0 : (t447 == t445) = true := beq_iff_eq.mpr c123
                      have c123b1 : (t447 != t445) = false := bne_eq_false_iff_eq.mpr c123
                      clear c123
                      replace H := Option.bind_eq_some_iff.mp H
                      obtain ⟨t448, A1240, H⟩ := H
                      replace H : ((laws_toNat.f kj34 l1_0).bind fun t451 => ((impl_NatGcd.f kj34 t448 t451).bind fun t454 => ((laws_eqNat.f kj34 t454 t415).bind fun t458 => (if t458 = true then ((laws_heldNat.f kj34 t446 1).bind fun t459 => (if t459 < 0 then (some false) else (if t459 = t445 then (some true) else (some false)))) else (some false))))) = some true := H
                      have A124 := Aside0.mk A1240
                      clear A1240
                      replace H := Option.bind_eq_some_iff.mp H
                      obtain ⟨t451, A1250, H⟩ := H
                      replace H : ((impl_NatGcd.f kj34 t448 t451).bind fun t454 => ((laws_eqNat.f kj34 t454 t415).bind fun t458 => (if t458 = true then ((laws_heldNat.f kj34 t446 1).bind fun t459 => (if t459 < 0 then (some false) else (if t459 = t445 then (some true) else (some false)))) else (some false)))) = some true := H
                      have A125 := Aside0.mk A1250
                      clear A1250
                      replace H := Option.bind_eq_some_iff.mp H
                      obtain ⟨t454, A1260, H⟩ := H
                      replace H : ((laws_eqNat.f kj34 t454 t415).bind fun t458 => (if t458 = true then ((laws_heldNat.f kj34 t446 1).bind fun t459 => (if t459 < 0 then (some false) else (if t459 = t445 then (some true) else (some false)))) else (some false))) = some true := H
                      have A126 := Aside0.mk A1260
                      clear A1260
                      replace H := Option.bind_eq_some_iff.mp H
                      obtain ⟨t458, A1270, H⟩ := H
                      replace H : (if t458 = true then ((laws_heldNat.f kj34 t446 1).bind fun t459 => (if t459 < 0 then (some false) else (if t459 = t445 then (some true) else (some false)))) else (some false)) = some true := H
                      have A127 := Aside0.mk A1270
                      clear A1270
                      by_cases c128 : t458 = true
                      · subst c128
                        have H1 : ((laws_heldNat.f kj34 t446 1).bind fun t459 => (if t459 < 0 then (some false) else (if t459 = t445 then (some true) else (some false)))) = some true := by rw [if_pos rfl] at H; exact H
                        clear H
                        have H := H1
                        clear H1
                        replace H := Option.bind_eq_some_iff.mp H
                        obtain ⟨t459, A1290, H⟩ := H
                        replace H : (if t459 < 0 then (some false) else (if t459 = t445 then (some true) else (some false))) = some true := H
                        have A129 := Aside0.mk A1290
                        clear A1290
                        by_cases c130 : t459 < 0
                        · rw [if_pos c130] at H
                          have c130b0 : decide (t459 < 0) = true := decide_eq_true c130
                          clear c130
                          exact absurd (Option.some.inj H) (by decide)
                        · rw [if_neg c130] at H
                          have c130b0 : decide (t459 < 0) = false := decide_eq_false c130
                          clear c130
                          by_cases c165 : t459 = t445
                          · rw [if_pos c165] at H
                            have c165b0 : (t459 == t445) = true := beq_iff_eq.mpr c165
                            have c165b1 : (t459 != t445) = false := bne_eq_false_iff_eq.mpr c165
                            clear c165
                            clear H
                            have hnb166 := NB430_405.out
                            have hnc166 := NB405_430.out
                            have hnb167 := NB430_406.out
                            have hnc167 := NB406_430.out
                            have hnb168 := NB430_418.out
                            have hnc168 := NB418_430.out
                            have hnb169 := NB430_422.out
                            have hnc169 := NB422_430.out
                            have hnb170 := NB430_426.out
                            have hnc170 := NB426_430.out
                            have hcz171_0 : wc.cell? ⟨gb430, 0, none⟩ = some (.slice Ao75 t427.length co75) := (blk_cell BK430.out 0).trans rfl
                            have hfz171_0 := blk_frozen BK430.out 0
                            try go_wp2_with (first | ((with_reducible refine gate_callee (f := 28) rfl ?_); refine goesL_ (some 66) rfl rfl Try.func28 (by kernel_rfl) rfl #[.agg #[.slice Ao75 t427.length co75], .int .i64 1] rfl hkL ?_; (with_reducible refine (laws_markNat.calls kj34 (fun k_ => some k_ = (.slice Ao75 t427.length co75 : Value).ownBlock) (.slice Ao75 t427.length co75) t427 1 t445 t446 w _ ?side1 ?side2 A111.out).mono ?_); (case side1 => repeat (first | (with_reducible first | exact HB.out | apply below_alloc | apply pw_below_drewN | apply below_drew1 | refine below_set ?_ GE405.out | refine below_set ?_ GE406.out | refine below_set ?_ GE418.out | refine below_set ?_ GE422.out | refine below_set ?_ GE426.out | refine below_set ?_ GE430.out) | exact HB.out)); (case side2 => exact Kd.R_tight rfl HO_431000.out); rintro e w172 ⟨rfl, hy0, hb, hkp⟩; refine ⟨_, rfl, ?_⟩; have n0_ := Aside0.mk (Kd.R_mono (ok' := fun k_ => some k_ ≠ (.slice Ao57 t441.length co57 : Value).ownBlock ∧ some k_ ≠ (.slice Ao66 t443.length co66 : Value).ownBlock ∧ some k_ ≠ (.slice Ao75 t427.length co75 : Value).ownBlock) (Kd.R_keptB (HO_419000.out) hkp (fun k_ hk_ hs_ => by first | exact (hk_.2.2) hs_ | exact hkP hk_ hs_)) (fun k_ hk_ => by first | exact ⟨hk_.1.1, hk_.1.2.1, hk_.1.2.2⟩ | exact hkQ hk_)); have n1_ := Aside0.mk (Kd.R_mono (ok' := fun k_ => some k_ ≠ (.slice Ao51 t415.length co51 : Value).ownBlock ∧ some k_ ≠ (.slice Ao66 t443.length co66 : Value).ownBlock ∧ some k_ ≠ (.slice Ao75 t427.length co75 : Value).ownBlock) (Kd.R_keptB (HO_423000.out) hkp (fun k_ hk_ hs_ => by first | exact (hk_.2.2) hs_ | exact hkP hk_ hs_)) (fun k_ hk_ => by first | exact ⟨hk_.1.1, hk_.1.2.1, hk_.1.2.2⟩ | exact hkQ hk_)); have n2_ := Aside0.mk (Kd.R_mono (ok' := fun k_ => some k_ ≠ (.slice Ao51 t415.length co51 : Value).ownBlock ∧ some k_ ≠ (.slice Ao57 t441.length co57 : Value).ownBlock ∧ some k_ ≠ (.slice Ao75 t427.length co75 : Value).ownBlock) (Kd.R_keptB (HO_427000.out) hkp (fun k_ hk_ hs_ => by first | exact (hk_.2.2) hs_ | exact hkP hk_ hs_)) (fun k_ hk_ => by first | exact ⟨hk_.1.1, hk_.1.2.1, hk_.1.2.2⟩ | exact hkQ hk_)); have n3_ := Aside0.mk (Kd.R_reok rfl hy0 (fun k_ e_ => HO_431000.out.1 k_ e_)); have n4_ := Aside0.mk (blk_kept (hkB BK405) hkp (fun hs_ => (fun e_ => (Kd.R_ne HO_431000.out BK405.out (by decide)) e_) hs_)); have n5_ := Aside0.mk (blk_kept (hkB BK406) hkp (fun hs_ => (fun e_ => (Kd.R_ne HO_431000.out BK406.out (by decide)) e_) hs_)); have n6_ := Aside0.mk (blk_kept (hkB BK418) hkp (fun hs_ => (fun e_ => (Kd.R_ne HO_431000.out BK418.out (by decide)) e_) hs_)); have n7_ := Aside0.mk (blk_kept (hkB BK422) hkp (fun hs_ => (fun e_ => (Kd.R_ne HO_431000.out BK422.out (by decide)) e_) hs_)); have n8_ := Aside0.mk (blk_kept (hkB BK426) hkp (fun hs_ => (fun e_ => (Kd.R_ne HO_431000.out BK426.out (by decide)) e_) hs_)); have n9_ := Aside0.mk (blk_kept (hkB BK430) hkp (fun hs_ => (fun e_ => (Kd.R_ne HO_431000.out BK430.out (by decide)) e_) hs_)); have n10_ := Aside0.mk (hb); clear HO_419000; clear HO_423000; clear HO_427000; clear HO_431000; clear BK405; clear BK406; clear BK418; clear BK422; clear BK426; clear BK430; clear HB; have HO_419000 := n0_; have HO_423000 := n1_; have HO_427000 := n2_; have HO_431000 := n3_; have BK405 := n4_; have BK406 := n5_; have BK418 := n6_; have BK422 := n7_; have BK426 := n8_; have BK430 := n9_; have HB := n10_; clear n0_ n1_ n2_ n3_ n4_ n5_ n6_ n7_ n8_ n9_ n10_; (try clear hb); (try clear hkp); (try clear hy0); have hcz173_0 : w172.cell? ⟨gb430, 0, none⟩ = some (.slice Ao75 t427.length co75) := (blk_cell BK430.out 0).trans rfl; have hfz173_0 := blk_frozen BK430.out 0) | ((with_reducible refine gate_callee (f := 29) rfl ?_); refine goesL_ (some 69) rfl rfl Try.func29 (by kernel_rfl) rfl #[.agg #[.slice Ao75 t446.length co75], .int .i64 1] rfl (by (try simp only [List.map_toArray, List.map_cons, List.map_nil]); first | done | (rw [show t446.length = t427.length from (Kd.R_reads' HO_431000.out).1.symm] <;> rfl) | rfl | (simp only [List.length_drop, List.length_take]; rfl)) ?_; (with_reducible refine (laws_heldNat.calls kj34 _ _ t446 1 t447 _ ?side1 ?side2 A112.out).mono ?_); (case side1 => repeat (first | exact (Kd.R_reads' HO_431000.out).2.2 | (with_reducible refine Kd.C_alloc ?_ _) | (with_reducible refine Kd.C_drewN ?_ _) | (with_reducible refine Kd.C_drew ?_))); (case side2 => rw [show t446.length = t427.length from (Kd.R_reads' HO_431000.out).1.symm]; exact (Kd.R_reads' HO_431000.out).2.1); rintro e w174 ⟨rfl, hb⟩; refine ⟨_, rfl, ?_⟩; have n0_ := hkRb HO_419000 hb; have n1_ := hkRb HO_423000 hb; have n2_ := hkRb HO_427000 hb; have n3_ := hkRb HO_431000 hb; have n4_ := hkBb BK405 hb; have n5_ := hkBb BK406 hb; have n6_ := hkBb BK418 hb; have n7_ := hkBb BK422 hb; have n8_ := hkBb BK426 hb; have n9_ := hkBb BK430 hb; have n10_ := Aside0.mk (below_step (hkS HB) hb); clear HO_419000; clear HO_423000; clear HO_427000; clear HO_431000; clear BK405; clear BK406; clear BK418; clear BK422; clear BK426; clear BK430; clear HB; have HO_419000 := n0_; have HO_423000 := n1_; have HO_427000 := n2_; have HO_431000 := n3_; have BK405 := n4_; have BK406 := n5_; have BK418 := n6_; have BK422 := n7_; have BK426 := n8_; have BK430 := n9_; have HB := n10_; clear n0_ n1_ n2_ n3_ n4_ n5_ n6_ n7_ n8_ n9_ n10_; (try clear hb); (try clear hb2); (try clear hk); (try clear hi)))
                            have n0_ := Aside0.mk (Kd.R_drew HO_419000.out)
                            have n1_ := Aside0.mk (Kd.R_drew HO_423000.out)
                            have n2_ := Aside0.mk (Kd.R_drew HO_427000.out)
                            have n3_ := Aside0.mk (Kd.R_drew HO_431000.out)
                            have n4_ := Aside0.mk (blk_drew BK405.out)
                            have n5_ := Aside0.mk (blk_drew BK406.out)
                            have n6_ := Aside0.mk (blk_drew BK418.out)
                            have n7_ := Aside0.mk (blk_drew BK422.out)
                            have n8_ := Aside0.mk (blk_drew BK426.out)
                            have n9_ := Aside0.mk (blk_drew BK430.out)
                            have n10_ := Aside0.mk (below_drew1 HB.out)
                            clear HO_419000
                            clear HO_423000
                            clear HO_427000
                            clear HO_431000
                            clear BK405
                            clear BK406
                            clear BK418
                            clear BK422
                            clear BK426
                            clear BK430
                            clear HB
                            have HO_419000 := n0_
                            have HO_423000 := n1_
                            have HO_427000 := n2_
                            have HO_431000 := n3_
                            have BK405 := n4_
                            have BK406 := n5_
                            have BK418 := n6_
                            have BK422 := n7_
                            have BK426 := n8_
                            have BK430 := n9_
                            have HB := n10_
                            clear n0_ n1_ n2_ n3_ n4_ n5_ n6_ n7_ n8_ n9_ n10_
                            refine start_ (n := 7) (S := fun w' => w'.cell? ⟨gb405, 0, none⟩ = some (.slice A0_0 l0_0.length c0_0) ∧ w'.cell? ⟨gb406, 0, none⟩ = some (.slice A1_0 l1_0.length c1_0)) (ds := []) #[false, false, false, false, false, false, false] (by kernel_rfl) rfl rfl ⟨(blk_cell BK405.out 0).trans rfl, (blk_cell BK406.out 0).trans rfl⟩ (fun hHeld => ?_)
                            generalize w174.drew = w175 at HO_419000 HO_423000 HO_427000 HO_431000 BK405 BK406 BK418 BK422 BK426 BK430 HB hHeld ⊢
                            refine take_ (i := 0) (N := some 75) (v := ?_) (a' := ?_) #[true, false, false, false, false, false, false] rfl rfl (by kernel_rfl) (fun _ _ _ h => h) (Or.inl ⟨by rfl, ?_⟩) hHeld ?_ ?_
                            rotate_left
                            · rintro w' ⟨s0, s1⟩
                              go_simp
                              with_reducible rfl
                            rotate_left
                            · simp only [Act.put, List.setIfInBounds_toArray, List.set_cons_zero, List.set_cons_succ, i64_w, i32_w]
                              rfl
                            refine take_ (i := 2) (N := some 77) (v := ?_) (a' := ?_) #[true, false, true, false, false, false, false] rfl rfl (by kernel_rfl) (fun _ _ _ h => h) (Or.inl ⟨by rfl, ?_⟩) hHeld ?_ ?_
                            rotate_left
                            · rintro w' ⟨s0, s1⟩
                              go_simp
                              with_reducible rfl
                            rotate_left
                            · simp only [Act.put, List.setIfInBounds_toArray, List.set_cons_zero, List.set_cons_succ, i64_w, i32_w]
                              rfl
                            refine join_ (σ := Value × Value × Value × Nat) 1 #[true, true, true, true, true, true, false] (fun s_ => [(76, .agg #[s_.1]), (78, .agg #[s_.2.1]), (79, .agg #[s_.2.2.1]), (13, .pointer (some ⟨s_.2.2.2, 0, none⟩))]) (fun s_ w' => (w'.cell? ⟨gb405, 0, none⟩ = some (.slice A0_0 l0_0.length c0_0) ∧ w'.cell? ⟨gb406, 0, none⟩ = some (.slice A1_0 l1_0.length c1_0)) ∧ (Kd.R (Kd.int .i64) 3 w' w.heap.size (fun k_ => some k_ ≠ (s_.2.1 : Value).ownBlock ∧ some k_ ≠ (s_.2.2.1 : Value).ownBlock ∧ some k_ ≠ (.slice Ao51 t415.length co51 : Value).ownBlock ∧ some k_ ≠ (.slice Ao57 t441.length co57 : Value).ownBlock ∧ some k_ ≠ (.slice Ao66 t443.length co66 : Value).ownBlock ∧ some k_ ≠ (.slice Ao75 t427.length co75 : Value).ownBlock) s_.1 t448) ∧ (Kd.R (Kd.int .i64) 3 w' w.heap.size (fun k_ => some k_ ≠ (s_.1 : Value).ownBlock ∧ some k_ ≠ (s_.2.2.1 : Value).ownBlock ∧ some k_ ≠ (.slice Ao51 t415.length co51 : Value).ownBlock ∧ some k_ ≠ (.slice Ao57 t441.length co57 : Value).ownBlock ∧ some k_ ≠ (.slice Ao66 t443.length co66 : Value).ownBlock ∧ some k_ ≠ (.slice Ao75 t427.length co75 : Value).ownBlock) s_.2.1 t451) ∧ (Kd.R (Kd.int .i64) 3 w' w.heap.size (fun k_ => some k_ ≠ (s_.1 : Value).ownBlock ∧ some k_ ≠ (s_.2.1 : Value).ownBlock ∧ some k_ ≠ (.slice Ao51 t415.length co51 : Value).ownBlock ∧ some k_ ≠ (.slice Ao57 t441.length co57 : Value).ownBlock ∧ some k_ ≠ (.slice Ao66 t443.length co66 : Value).ownBlock ∧ some k_ ≠ (.slice Ao75 t427.length co75 : Value).ownBlock) s_.2.2.1 t454) ∧ (Kd.R (Kd.int .i64) 3 w' w.heap.size (fun k_ => some k_ ≠ (s_.1 : Value).ownBlock ∧ some k_ ≠ (s_.2.1 : Value).ownBlock ∧ some k_ ≠ (s_.2.2.1 : Value).ownBlock ∧ some k_ ≠ (.slice Ao57 t441.length co57 : Value).ownBlock ∧ some k_ ≠ (.slice Ao66 t443.length co66 : Value).ownBlock ∧ some k_ ≠ (.slice Ao75 t427.length co75 : Value).ownBlock) (.slice Ao51 t415.length co51) t415) ∧ (Kd.R (Kd.int .i64) 3 w' w.heap.size (fun k_ => some k_ ≠ (s_.1 : Value).ownBlock ∧ some k_ ≠ (s_.2.1 : Value).ownBlock ∧ some k_ ≠ (s_.2.2.1 : Value).ownBlock ∧ some k_ ≠ (.slice Ao51 t415.length co51 : Value).ownBlock ∧ some k_ ≠ (.slice Ao66 t443.length co66 : Value).ownBlock ∧ some k_ ≠ (.slice Ao75 t427.length co75 : Value).ownBlock) (.slice Ao57 t441.length co57) t441) ∧ (Kd.R (Kd.int .i64) 3 w' w.heap.size (fun k_ => some k_ ≠ (s_.1 : Value).ownBlock ∧ some k_ ≠ (s_.2.1 : Value).ownBlock ∧ some k_ ≠ (s_.2.2.1 : Value).ownBlock ∧ some k_ ≠ (.slice Ao51 t415.length co51 : Value).ownBlock ∧ some k_ ≠ (.slice Ao57 t441.length co57 : Value).ownBlock ∧ some k_ ≠ (.slice Ao75 t427.length co75 : Value).ownBlock) (.slice Ao66 t443.length co66) t443) ∧ (Kd.R (Kd.int .i64) 3 w' w.heap.size (fun k_ => some k_ ≠ (s_.1 : Value).ownBlock ∧ some k_ ≠ (s_.2.1 : Value).ownBlock ∧ some k_ ≠ (s_.2.2.1 : Value).ownBlock ∧ some k_ ≠ (.slice Ao51 t415.length co51 : Value).ownBlock ∧ some k_ ≠ (.slice Ao57 t441.length co57 : Value).ownBlock ∧ some k_ ≠ (.slice Ao66 t443.length co66 : Value).ownBlock) (.slice Ao75 t427.length co75) t446) ∧ (w'.heap[gb405]? = some (.cells #[.slice A0_0 l0_0.length c0_0] 31 (0, 0))) ∧ (w'.heap[gb406]? = some (.cells #[.slice A1_0 l1_0.length c1_0] 31 (0, 0))) ∧ (w'.heap[gb418]? = some (.cells #[.slice Ao51 t415.length co51] 38 (0, 0))) ∧ (w'.heap[gb422]? = some (.cells #[.slice Ao57 t441.length co57] 38 (0, 0))) ∧ (w'.heap[gb426]? = some (.cells #[.slice Ao66 t443.length co66] 38 (0, 0))) ∧ (w'.heap[gb430]? = some (.cells #[.slice Ao75 t427.length co75] 38 (0, 0))) ∧ (w'.heap[s_.2.2.2]? = some (.cells #[.slice none 0 0] 38 (0, 0))) ∧ (w.heap.size ≤ s_.2.2.2) ∧ (w.heap.size ≤ s_.2.2.2) ∧ (gb405 ≠ s_.2.2.2) ∧ (s_.2.2.2 ≠ gb405) ∧ (gb406 ≠ s_.2.2.2) ∧ (s_.2.2.2 ≠ gb406) ∧ (gb418 ≠ s_.2.2.2) ∧ (s_.2.2.2 ≠ gb418) ∧ (gb422 ≠ s_.2.2.2) ∧ (s_.2.2.2 ≠ gb422) ∧ (gb426 ≠ s_.2.2.2) ∧ (s_.2.2.2 ≠ gb426) ∧ (gb430 ≠ s_.2.2.2) ∧ (s_.2.2.2 ≠ gb430) ∧ (Below w.heap.size w w')) ?_ ?_
                            rotate_left
                            · intro hCont
                              refine two_ (i := 1) (j := 5) (Ni := some 76) (Nj := some 13) #[true, true, true, false, false, false, false] #[true, false, true, false, false, true, false] rfl rfl rfl rfl (by kernel_rfl) (by decide) (by decide) (fun K hK => ?_) (fun K hK => ?_)
                              · skip
                                refine goes_ Try.func26 (by kernel_rfl) rfl #[.agg #[.slice A0_0 l0_0.length c0_0]] (by rfl) rfl rfl hkL ?_
                                with_reducible refine (laws_toNat.calls kj34 _ _ l0_0 t448 _ ?side1 ?side2 A124.out).mono ?_
                                (case side1 => repeat (first | exact (Kd.C_below HR0_0.out HB.out) | (with_reducible refine Kd.C_alloc ?_ _) | (with_reducible refine Kd.C_drewN ?_ _) | (with_reducible refine Kd.C_drew ?_)))
                                (case side2 => exact HC0_0.out)
                                rintro e w176 ⟨v449, rfl, ho0, hb⟩
                                refine ⟨_, rfl, ?_⟩
                                have n0_ := Aside0.mk (Kd.R_elder' (hkR HO_419000) (Kd.R_base ho0) hb)
                                have n1_ := Aside0.mk (Kd.R_elder' (hkR HO_423000) (Kd.R_base ho0) hb)
                                have n2_ := Aside0.mk (Kd.R_elder' (hkR HO_427000) (Kd.R_base ho0) hb)
                                have n3_ := Aside0.mk (Kd.R_elder' (hkR HO_431000) (Kd.R_base ho0) hb)
                                have n4_ := Aside0.mk (Kd.R_lower (Kd.R_new' (Kd.R_new' (Kd.R_new' (Kd.R_new' ho0 (Kd.R_lt (hkR HO_419000))) (Kd.R_lt (hkR HO_423000))) (Kd.R_lt (hkR HO_427000))) (Kd.R_lt (hkR HO_431000))) (below_size (hkS HB)))
                                have n5_ := hkBb BK405 hb
                                have n6_ := hkBb BK406 hb
                                have n7_ := hkBb BK418 hb
                                have n8_ := hkBb BK422 hb
                                have n9_ := hkBb BK426 hb
                                have n10_ := hkBb BK430 hb
                                have n11_ := Aside0.mk (below_step (hkS HB) hb)
                                clear HO_419000
                                clear HO_423000
                                clear HO_427000
                                clear HO_431000
                                clear BK405
                                clear BK406
                                clear BK418
                                clear BK422
                                clear BK426
                                clear BK430
                                clear HB
                                have HO_419000 := n0_
                                have HO_423000 := n1_
                                have HO_427000 := n2_
                                have HO_431000 := n3_
                                have HO450 := n4_
                                have BK405 := n5_
                                have BK406 := n6_
                                have BK418 := n7_
                                have BK422 := n8_
                                have BK426 := n9_
                                have BK430 := n10_
                                have HB := n11_
                                clear n0_ n1_ n2_ n3_ n4_ n5_ n6_ n7_ n8_ n9_ n10_ n11_
                                (try clear hb)
                                (try clear hb2)
                                (try clear hk)
                                (try clear hi)
                                (try clear ho0)
                                refine hK.out _ _ ⟨(blk_cell BK405.out 0).trans rfl, (blk_cell BK406.out 0).trans rfl⟩ (fun hHeld => ?_)
                                clear hK K
                                refine norm_ (a' := ?_) ?_ ?_
                                rotate_left
                                · show Act.put _ (some 76) _ = _
                                  simp only [Act.put, List.setIfInBounds_toArray, List.set_cons_zero, List.set_cons_succ, i64_w, i32_w]
                                  rfl
                                refine two_ (i := 3) (j := 5) (Ni := some 78) (Nj := some 13) #[true, true, true, true, false, false, false] #[true, true, true, false, false, true, false] rfl rfl rfl rfl (by kernel_rfl) (by decide) (by decide) (fun K hK => ?_) (fun K hK => ?_)
                                · skip
                                  refine goes_ Try.func26 (by kernel_rfl) rfl #[.agg #[.slice A1_0 l1_0.length c1_0]] (by rfl) rfl rfl hkL ?_
                                  with_reducible refine (laws_toNat.calls kj34 _ _ l1_0 t451 _ ?side1 ?side2 A125.out).mono ?_
                                  (case side1 => repeat (first | exact (Kd.C_below HR1_0.out HB.out) | (with_reducible refine Kd.C_alloc ?_ _) | (with_reducible refine Kd.C_drewN ?_ _) | (with_reducible refine Kd.C_drew ?_)))
                                  (case side2 => exact HC1_0.out)
                                  rintro e w177 ⟨v452, rfl, ho0, hb⟩
                                  refine ⟨_, rfl, ?_⟩
                                  have n0_ := Aside0.mk (Kd.R_elder' (hkR HO_419000) (Kd.R_base ho0) hb)
                                  have n1_ := Aside0.mk (Kd.R_elder' (hkR HO_423000) (Kd.R_base ho0) hb)
                                  have n2_ := Aside0.mk (Kd.R_elder' (hkR HO_427000) (Kd.R_base ho0) hb)
                                  have n3_ := Aside0.mk (Kd.R_elder' (hkR HO_431000) (Kd.R_base ho0) hb)
                                  have n4_ := Aside0.mk (Kd.R_elder' (hkR HO450) (Kd.R_base ho0) hb)
                                  have n5_ := Aside0.mk (Kd.R_lower (Kd.R_new' (Kd.R_new' (Kd.R_new' (Kd.R_new' (Kd.R_new' ho0 (Kd.R_lt (hkR HO_419000))) (Kd.R_lt (hkR HO_423000))) (Kd.R_lt (hkR HO_427000))) (Kd.R_lt (hkR HO_431000))) (Kd.R_lt (hkR HO450))) (below_size (hkS HB)))
                                  have n6_ := hkBb BK405 hb
                                  have n7_ := hkBb BK406 hb
                                  have n8_ := hkBb BK418 hb
                                  have n9_ := hkBb BK422 hb
                                  have n10_ := hkBb BK426 hb
                                  have n11_ := hkBb BK430 hb
                                  have n12_ := Aside0.mk (below_step (hkS HB) hb)
                                  clear HO_419000
                                  clear HO_423000
                                  clear HO_427000
                                  clear HO_431000
                                  clear HO450
                                  clear BK405
                                  clear BK406
                                  clear BK418
                                  clear BK422
                                  clear BK426
                                  clear BK430
                                  clear HB
                                  have HO_419000 := n0_
                                  have HO_423000 := n1_
                                  have HO_427000 := n2_
                                  have HO_431000 := n3_
                                  have HO450 := n4_
                                  have HO453 := n5_
                                  have BK405 := n6_
                                  have BK406 := n7_
                                  have BK418 := n8_
                                  have BK422 := n9_
                                  have BK426 := n10_
                                  have BK430 := n11_
                                  have HB := n12_
                                  clear n0_ n1_ n2_ n3_ n4_ n5_ n6_ n7_ n8_ n9_ n10_ n11_ n12_
                                  (try clear hb)
                                  (try clear hb2)
                                  (try clear hk)
                                  (try clear hi)
                                  (try clear ho0)
                                  obtain ⟨Ao178, co178, eo178⟩ := Kd.R_slice HO450.out
                                  (first | subst eo178 | (injection eo178 with f1_ f2_ f3_; have f4_ := f1_.symm; have f5_ := f3_.symm; clear f1_ f2_ f3_; subst f4_; subst f5_))
                                  obtain ⟨Ao179, co179, eo179⟩ := Kd.R_slice HO453.out
                                  (first | subst eo179 | (injection eo179 with f1_ f2_ f3_; have f4_ := f1_.symm; have f5_ := f3_.symm; clear f1_ f2_ f3_; subst f4_; subst f5_))
                                  refine hK.out _ _ ⟨(blk_cell BK405.out 0).trans rfl, (blk_cell BK406.out 0).trans rfl⟩ (fun hHeld => ?_)
                                  clear hK K
                                  refine norm_ (a' := ?_) ?_ ?_
                                  rotate_left
                                  · show Act.put _ (some 78) _ = _
                                    simp only [Act.put, List.setIfInBounds_toArray, List.set_cons_zero, List.set_cons_succ, i64_w, i32_w]
                                    rfl
                                  refine two_ (i := 4) (j := 5) (Ni := some 79) (Nj := some 13) #[true, true, true, true, true, false, false] #[true, true, true, true, false, true, false] rfl rfl rfl rfl (by kernel_rfl) (by decide) (by decide) (fun K hK => ?_) (fun K hK => ?_)
                                  · skip
                                    refine goes_ Try.func19 (by kernel_rfl) rfl #[.agg #[.slice Ao178 t448.length co178], .agg #[.slice Ao179 t451.length co179]] (by rfl) rfl rfl hkL ?_
                                    with_reducible refine (impl_NatGcd.calls kj34 _ _ t448 _ _ t451 t454 _ ?side1 ?side2 ?side3 ?side4 A126.out).mono ?_
                                    (case side1 => repeat (first | exact (Kd.R_reads' HO450.out).2.2 | (with_reducible refine Kd.C_alloc ?_ _) | (with_reducible refine Kd.C_drewN ?_ _) | (with_reducible refine Kd.C_drew ?_)))
                                    (case side2 => exact (Kd.R_reads' HO450.out).2.1)
                                    (case side3 => repeat (first | exact (Kd.R_reads' HO453.out).2.2 | (with_reducible refine Kd.C_alloc ?_ _) | (with_reducible refine Kd.C_drewN ?_ _) | (with_reducible refine Kd.C_drew ?_)))
                                    (case side4 => exact (Kd.R_reads' HO453.out).2.1)
                                    rintro e w180 ⟨v455, rfl, ho0, hb⟩
                                    refine ⟨_, rfl, ?_⟩
                                    have n0_ := Aside0.mk (Kd.R_elder' (hkR HO_419000) (Kd.R_base ho0) hb)
                                    have n1_ := Aside0.mk (Kd.R_elder' (hkR HO_423000) (Kd.R_base ho0) hb)
                                    have n2_ := Aside0.mk (Kd.R_elder' (hkR HO_427000) (Kd.R_base ho0) hb)
                                    have n3_ := Aside0.mk (Kd.R_elder' (hkR HO_431000) (Kd.R_base ho0) hb)
                                    have n4_ := Aside0.mk (Kd.R_elder' (hkR HO450) (Kd.R_base ho0) hb)
                                    have n5_ := Aside0.mk (Kd.R_elder' (hkR HO453) (Kd.R_base ho0) hb)
                                    have n6_ := Aside0.mk (Kd.R_lower (Kd.R_new' (Kd.R_new' (Kd.R_new' (Kd.R_new' (Kd.R_new' (Kd.R_new' ho0 (Kd.R_lt (hkR HO_419000))) (Kd.R_lt (hkR HO_423000))) (Kd.R_lt (hkR HO_427000))) (Kd.R_lt (hkR HO_431000))) (Kd.R_lt (hkR HO450))) (Kd.R_lt (hkR HO453))) (below_size (hkS HB)))
                                    have n7_ := hkBb BK405 hb
                                    have n8_ := hkBb BK406 hb
                                    have n9_ := hkBb BK418 hb
                                    have n10_ := hkBb BK422 hb
                                    have n11_ := hkBb BK426 hb
                                    have n12_ := hkBb BK430 hb
                                    have n13_ := Aside0.mk (below_step (hkS HB) hb)
                                    clear HO_419000
                                    clear HO_423000
                                    clear HO_427000
                                    clear HO_431000
                                    clear HO450
                                    clear HO453
                                    clear BK405
                                    clear BK406
                                    clear BK418
                                    clear BK422
                                    clear BK426
                                    clear BK430
                                    clear HB
                                    have HO_419000 := n0_
                                    have HO_423000 := n1_
                                    have HO_427000 := n2_
                                    have HO_431000 := n3_
                                    have HO450 := n4_
                                    have HO453 := n5_
                                    have HO456 := n6_
                                    have BK405 := n7_
                                    have BK406 := n8_
                                    have BK418 := n9_
                                    have BK422 := n10_
                                    have BK426 := n11_
                                    have BK430 := n12_
                                    have HB := n13_
                                    clear n0_ n1_ n2_ n3_ n4_ n5_ n6_ n7_ n8_ n9_ n10_ n11_ n12_ n13_
                                    (try clear hb)
                                    (try clear hb2)
                                    (try clear hk)
                                    (try clear hi)
                                    (try clear ho0)
                                    refine hK.out _ _ ⟨(blk_cell BK405.out 0).trans rfl, (blk_cell BK406.out 0).trans rfl⟩ (fun hHeld => ?_)
                                    clear hK K
                                    refine norm_ (a' := ?_) ?_ ?_
                                    rotate_left
                                    · show Act.put _ (some 79) _ = _
                                      simp only [Act.put, List.setIfInBounds_toArray, List.set_cons_zero, List.set_cons_succ, i64_w, i32_w]
                                      rfl
                                    refine one_ (i := 5) (N := some 13) #[true, true, true, true, true, true, false] rfl rfl (by kernel_rfl) (by decide) (fun K hK => ?_)
                                    refine box_step ?hg (N := 13) ?hd (cs := #[.slice none 0 0]) (t := 38) ?hr ?_; (case hd => rfl); (case hg => rfl); (case hr => first | (go_simp; done) | (go_simp; rfl))
                                    intro gb457 hg w181 hbox hb
                                    have n0_ := hkRb HO_419000 hb
                                    have n1_ := hkRb HO_423000 hb
                                    have n2_ := hkRb HO_427000 hb
                                    have n3_ := hkRb HO_431000 hb
                                    have n4_ := hkRb HO450 hb
                                    have n5_ := hkRb HO453 hb
                                    have n6_ := hkRb HO456 hb
                                    have n7_ := hkBb BK405 hb
                                    have n8_ := hkBb BK406 hb
                                    have n9_ := hkBb BK418 hb
                                    have n10_ := hkBb BK422 hb
                                    have n11_ := hkBb BK426 hb
                                    have n12_ := hkBb BK430 hb
                                    have n13_ := Aside0.mk (below_step (hkS HB) hb)
                                    have n14_ := Aside0.mk (hbox)
                                    have n15_ := hkG hg (hkS HB)
                                    have n16_ := hkG hg (hkS HB)
                                    have n17_ := hkN hg BK405
                                    have n18_ := hkM hg BK405
                                    have n19_ := hkN hg BK406
                                    have n20_ := hkM hg BK406
                                    have n21_ := hkN hg BK418
                                    have n22_ := hkM hg BK418
                                    have n23_ := hkN hg BK422
                                    have n24_ := hkM hg BK422
                                    have n25_ := hkN hg BK426
                                    have n26_ := hkM hg BK426
                                    have n27_ := hkN hg BK430
                                    have n28_ := hkM hg BK430
                                    clear HO_419000
                                    clear HO_423000
                                    clear HO_427000
                                    clear HO_431000
                                    clear HO450
                                    clear HO453
                                    clear HO456
                                    clear BK405
                                    clear BK406
                                    clear BK418
                                    clear BK422
                                    clear BK426
                                    clear BK430
                                    clear HB
                                    have HO_419000 := n0_
                                    have HO_423000 := n1_
                                    have HO_427000 := n2_
                                    have HO_431000 := n3_
                                    have HO450 := n4_
                                    have HO453 := n5_
                                    have HO456 := n6_
                                    have BK405 := n7_
                                    have BK406 := n8_
                                    have BK418 := n9_
                                    have BK422 := n10_
                                    have BK426 := n11_
                                    have BK430 := n12_
                                    have HB := n13_
                                    have BK457 := n14_
                                    have GW457 := n15_
                                    have GE457 := n16_
                                    have NB405_457 := n17_
                                    have NB457_405 := n18_
                                    have NB406_457 := n19_
                                    have NB457_406 := n20_
                                    have NB418_457 := n21_
                                    have NB457_418 := n22_
                                    have NB422_457 := n23_
                                    have NB457_422 := n24_
                                    have NB426_457 := n25_
                                    have NB457_426 := n26_
                                    have NB430_457 := n27_
                                    have NB457_430 := n28_
                                    clear n0_ n1_ n2_ n3_ n4_ n5_ n6_ n7_ n8_ n9_ n10_ n11_ n12_ n13_ n14_ n15_ n16_ n17_ n18_ n19_ n20_ n21_ n22_ n23_ n24_ n25_ n26_ n27_ n28_
                                    clear hb hbox hg
                                    refine hK.out _ _ ⟨(blk_cell BK405.out 0).trans rfl, (blk_cell BK406.out 0).trans rfl⟩ (fun hHeld => ?_)
                                    clear hK K
                                    refine norm_ (a' := ?_) ?_ ?_
                                    rotate_left
                                    · show Act.put _ (some 13) _ = _
                                      simp only [Act.put, List.setIfInBounds_toArray, List.set_cons_zero, List.set_cons_succ, i64_w, i32_w]
                                      rfl
                                    exact norm_ (by simp only [putAll, Act.put, List.setIfInBounds_toArray, List.set_cons_zero, List.set_cons_succ]) (hCont (.slice Ao178 t448.length co178, .slice Ao179 t451.length co179, v455, gb457) _ ⟨hHeld, (by (with_reducible repeat (first | apply Kd.R_alloc | apply Kd.R_drewN | apply Kd.R_drew)); exact Kd.R_mono HO450.out (fun _ hk => ⟨hk.1.2, ⟨hk.2, ⟨hk.1.1.1.1.1.2, ⟨hk.1.1.1.1.2, ⟨hk.1.1.1.2, hk.1.1.2⟩⟩⟩⟩⟩)), (by (with_reducible repeat (first | apply Kd.R_alloc | apply Kd.R_drewN | apply Kd.R_drew)); exact Kd.R_mono HO453.out (fun _ hk => ⟨hk.1.2, ⟨hk.2, ⟨hk.1.1.1.1.1.2, ⟨hk.1.1.1.1.2, ⟨hk.1.1.1.2, hk.1.1.2⟩⟩⟩⟩⟩)), (by (with_reducible repeat (first | apply Kd.R_alloc | apply Kd.R_drewN | apply Kd.R_drew)); exact Kd.R_mono HO456.out (fun _ hk => ⟨hk.1.2, ⟨hk.2, ⟨hk.1.1.1.1.1.2, ⟨hk.1.1.1.1.2, ⟨hk.1.1.1.2, hk.1.1.2⟩⟩⟩⟩⟩)), (by (with_reducible repeat (first | apply Kd.R_alloc | apply Kd.R_drewN | apply Kd.R_drew)); exact Kd.R_mono HO_419000.out (fun _ hk => ⟨hk.1.1.2, ⟨hk.1.2, ⟨hk.2, ⟨hk.1.1.1.1, ⟨hk.1.1.1.2.1, hk.1.1.1.2.2⟩⟩⟩⟩⟩)), (by (with_reducible repeat (first | apply Kd.R_alloc | apply Kd.R_drewN | apply Kd.R_drew)); exact Kd.R_mono HO_423000.out (fun _ hk => ⟨hk.1.1.2, ⟨hk.1.2, ⟨hk.2, ⟨hk.1.1.1.1, ⟨hk.1.1.1.2.1, hk.1.1.1.2.2⟩⟩⟩⟩⟩)), (by (with_reducible repeat (first | apply Kd.R_alloc | apply Kd.R_drewN | apply Kd.R_drew)); exact Kd.R_mono HO_427000.out (fun _ hk => ⟨hk.1.1.2, ⟨hk.1.2, ⟨hk.2, ⟨hk.1.1.1.1, ⟨hk.1.1.1.2.1, hk.1.1.1.2.2⟩⟩⟩⟩⟩)), (by (with_reducible repeat (first | apply Kd.R_alloc | apply Kd.R_drewN | apply Kd.R_drew)); exact Kd.R_mono HO_431000.out (fun _ hk => ⟨hk.1.1.2, ⟨hk.1.2, ⟨hk.2, ⟨hk.1.1.1.1, ⟨hk.1.1.1.2.1, hk.1.1.1.2.2⟩⟩⟩⟩⟩)), (hkB BK405), (hkB BK406), (hkB BK418), (hkB BK422), (hkB BK426), (hkB BK430), (hkB BK457), GW457.out, GE457.out, NB405_457.out, NB457_405.out, NB406_457.out, NB457_406.out, NB418_457.out, NB457_418.out, NB422_457.out, NB457_422.out, NB426_457.out, NB457_426.out, NB430_457.out, NB457_430.out, (hkS HB)⟩)
                                  · skip
                                    refine box_step ?hg (N := 13) ?hd (cs := #[.slice none 0 0]) (t := 38) ?hr ?_; (case hd => rfl); (case hg => rfl); (case hr => first | (go_simp; done) | (go_simp; rfl))
                                    intro gb457 hg w178 hbox hb
                                    have n0_ := hkRb HO_419000 hb
                                    have n1_ := hkRb HO_423000 hb
                                    have n2_ := hkRb HO_427000 hb
                                    have n3_ := hkRb HO_431000 hb
                                    have n4_ := hkRb HO450 hb
                                    have n5_ := hkRb HO453 hb
                                    have n6_ := hkBb BK405 hb
                                    have n7_ := hkBb BK406 hb
                                    have n8_ := hkBb BK418 hb
                                    have n9_ := hkBb BK422 hb
                                    have n10_ := hkBb BK426 hb
                                    have n11_ := hkBb BK430 hb
                                    have n12_ := Aside0.mk (below_step (hkS HB) hb)
                                    have n13_ := Aside0.mk (hbox)
                                    have n14_ := hkG hg (hkS HB)
                                    have n15_ := hkG hg (hkS HB)
                                    have n16_ := hkN hg BK405
                                    have n17_ := hkM hg BK405
                                    have n18_ := hkN hg BK406
                                    have n19_ := hkM hg BK406
                                    have n20_ := hkN hg BK418
                                    have n21_ := hkM hg BK418
                                    have n22_ := hkN hg BK422
                                    have n23_ := hkM hg BK422
                                    have n24_ := hkN hg BK426
                                    have n25_ := hkM hg BK426
                                    have n26_ := hkN hg BK430
                                    have n27_ := hkM hg BK430
                                    clear HO_419000
                                    clear HO_423000
                                    clear HO_427000
                                    clear HO_431000
                                    clear HO450
                                    clear HO453
                                    clear BK405
                                    clear BK406
                                    clear BK418
                                    clear BK422
                                    clear BK426
                                    clear BK430
                                    clear HB
                                    have HO_419000 := n0_
                                    have HO_423000 := n1_
                                    have HO_427000 := n2_
                                    have HO_431000 := n3_
                                    have HO450 := n4_
                                    have HO453 := n5_
                                    have BK405 := n6_
                                    have BK406 := n7_
                                    have BK418 := n8_
                                    have BK422 := n9_
                                    have BK426 := n10_
                                    have BK430 := n11_
                                    have HB := n12_
                                    have BK457 := n13_
                                    have GW457 := n14_
                                    have GE457 := n15_
                                    have NB405_457 := n16_
                                    have NB457_405 := n17_
                                    have NB406_457 := n18_
                                    have NB457_406 := n19_
                                    have NB418_457 := n20_
                                    have NB457_418 := n21_
                                    have NB422_457 := n22_
                                    have NB457_422 := n23_
                                    have NB426_457 := n24_
                                    have NB457_426 := n25_
                                    have NB430_457 := n26_
                                    have NB457_430 := n27_
                                    clear n0_ n1_ n2_ n3_ n4_ n5_ n6_ n7_ n8_ n9_ n10_ n11_ n12_ n13_ n14_ n15_ n16_ n17_ n18_ n19_ n20_ n21_ n22_ n23_ n24_ n25_ n26_ n27_
                                    clear hb hbox hg
                                    obtain ⟨Ao179, co179, eo179⟩ := Kd.R_slice HO450.out
                                    (first | subst eo179 | (injection eo179 with f1_ f2_ f3_; have f4_ := f1_.symm; have f5_ := f3_.symm; clear f1_ f2_ f3_; subst f4_; subst f5_))
                                    obtain ⟨Ao180, co180, eo180⟩ := Kd.R_slice HO453.out
                                    (first | subst eo180 | (injection eo180 with f1_ f2_ f3_; have f4_ := f1_.symm; have f5_ := f3_.symm; clear f1_ f2_ f3_; subst f4_; subst f5_))
                                    refine hK.out _ _ ⟨(blk_cell BK405.out 0).trans rfl, (blk_cell BK406.out 0).trans rfl⟩ (fun hHeld => ?_)
                                    clear hK K
                                    refine norm_ (a' := ?_) ?_ ?_
                                    rotate_left
                                    · show Act.put _ (some 13) _ = _
                                      simp only [Act.put, List.setIfInBounds_toArray, List.set_cons_zero, List.set_cons_succ, i64_w, i32_w]
                                      rfl
                                    refine one_ (i := 4) (N := some 79) #[true, true, true, true, true, true, false] rfl rfl (by kernel_rfl) (by decide) (fun K hK => ?_)
                                    refine goes_ Try.func19 (by kernel_rfl) rfl #[.agg #[.slice Ao179 t448.length co179], .agg #[.slice Ao180 t451.length co180]] (by rfl) rfl rfl hkL ?_
                                    with_reducible refine (impl_NatGcd.calls kj34 _ _ t448 _ _ t451 t454 _ ?side1 ?side2 ?side3 ?side4 A126.out).mono ?_
                                    (case side1 => repeat (first | exact (Kd.R_reads' HO450.out).2.2 | (with_reducible refine Kd.C_alloc ?_ _) | (with_reducible refine Kd.C_drewN ?_ _) | (with_reducible refine Kd.C_drew ?_)))
                                    (case side2 => exact (Kd.R_reads' HO450.out).2.1)
                                    (case side3 => repeat (first | exact (Kd.R_reads' HO453.out).2.2 | (with_reducible refine Kd.C_alloc ?_ _) | (with_reducible refine Kd.C_drewN ?_ _) | (with_reducible refine Kd.C_drew ?_)))
                                    (case side4 => exact (Kd.R_reads' HO453.out).2.1)
                                    rintro e w181 ⟨v455, rfl, ho0, hb⟩
                                    refine ⟨_, rfl, ?_⟩
                                    have n0_ := Aside0.mk (Kd.R_elder' (hkR HO_419000) (Kd.R_base ho0) hb)
                                    have n1_ := Aside0.mk (Kd.R_elder' (hkR HO_423000) (Kd.R_base ho0) hb)
                                    have n2_ := Aside0.mk (Kd.R_elder' (hkR HO_427000) (Kd.R_base ho0) hb)
                                    have n3_ := Aside0.mk (Kd.R_elder' (hkR HO_431000) (Kd.R_base ho0) hb)
                                    have n4_ := Aside0.mk (Kd.R_elder' (hkR HO450) (Kd.R_base ho0) hb)
                                    have n5_ := Aside0.mk (Kd.R_elder' (hkR HO453) (Kd.R_base ho0) hb)
                                    have n6_ := Aside0.mk (Kd.R_lower (Kd.R_new' (Kd.R_new' (Kd.R_new' (Kd.R_new' (Kd.R_new' (Kd.R_new' ho0 (Kd.R_lt (hkR HO_419000))) (Kd.R_lt (hkR HO_423000))) (Kd.R_lt (hkR HO_427000))) (Kd.R_lt (hkR HO_431000))) (Kd.R_lt (hkR HO450))) (Kd.R_lt (hkR HO453))) (below_size (hkS HB)))
                                    have n7_ := hkBb BK405 hb
                                    have n8_ := hkBb BK406 hb
                                    have n9_ := hkBb BK418 hb
                                    have n10_ := hkBb BK422 hb
                                    have n11_ := hkBb BK426 hb
                                    have n12_ := hkBb BK430 hb
                                    have n13_ := hkBb BK457 hb
                                    have n14_ := Aside0.mk (below_step (hkS HB) hb)
                                    clear HO_419000
                                    clear HO_423000
                                    clear HO_427000
                                    clear HO_431000
                                    clear HO450
                                    clear HO453
                                    clear BK405
                                    clear BK406
                                    clear BK418
                                    clear BK422
                                    clear BK426
                                    clear BK430
                                    clear BK457
                                    clear HB
                                    have HO_419000 := n0_
                                    have HO_423000 := n1_
                                    have HO_427000 := n2_
                                    have HO_431000 := n3_
                                    have HO450 := n4_
                                    have HO453 := n5_
                                    have HO456 := n6_
                                    have BK405 := n7_
                                    have BK406 := n8_
                                    have BK418 := n9_
                                    have BK422 := n10_
                                    have BK426 := n11_
                                    have BK430 := n12_
                                    have BK457 := n13_
                                    have HB := n14_
                                    clear n0_ n1_ n2_ n3_ n4_ n5_ n6_ n7_ n8_ n9_ n10_ n11_ n12_ n13_ n14_
                                    (try clear hb)
                                    (try clear hb2)
                                    (try clear hk)
                                    (try clear hi)
                                    (try clear ho0)
                                    refine hK.out _ _ ⟨(blk_cell BK405.out 0).trans rfl, (blk_cell BK406.out 0).trans rfl⟩ (fun hHeld => ?_)
                                    clear hK K
                                    refine norm_ (a' := ?_) ?_ ?_
                                    rotate_left
                                    · show Act.put _ (some 79) _ = _
                                      simp only [Act.put, List.setIfInBounds_toArray, List.set_cons_zero, List.set_cons_succ, i64_w, i32_w]
                                      rfl
                                    exact norm_ (by simp only [putAll, Act.put, List.setIfInBounds_toArray, List.set_cons_zero, List.set_cons_succ]) (hCont (.slice Ao179 t448.length co179, .slice Ao180 t451.length co180, v455, gb457) _ ⟨hHeld, (by (with_reducible repeat (first | apply Kd.R_alloc | apply Kd.R_drewN | apply Kd.R_drew)); exact Kd.R_mono HO450.out (fun _ hk => ⟨hk.1.2, ⟨hk.2, ⟨hk.1.1.1.1.1.2, ⟨hk.1.1.1.1.2, ⟨hk.1.1.1.2, hk.1.1.2⟩⟩⟩⟩⟩)), (by (with_reducible repeat (first | apply Kd.R_alloc | apply Kd.R_drewN | apply Kd.R_drew)); exact Kd.R_mono HO453.out (fun _ hk => ⟨hk.1.2, ⟨hk.2, ⟨hk.1.1.1.1.1.2, ⟨hk.1.1.1.1.2, ⟨hk.1.1.1.2, hk.1.1.2⟩⟩⟩⟩⟩)), (by (with_reducible repeat (first | apply Kd.R_alloc | apply Kd.R_drewN | apply Kd.R_drew)); exact Kd.R_mono HO456.out (fun _ hk => ⟨hk.1.2, ⟨hk.2, ⟨hk.1.1.1.1.1.2, ⟨hk.1.1.1.1.2, ⟨hk.1.1.1.2, hk.1.1.2⟩⟩⟩⟩⟩)), (by (with_reducible repeat (first | apply Kd.R_alloc | apply Kd.R_drewN | apply Kd.R_drew)); exact Kd.R_mono HO_419000.out (fun _ hk => ⟨hk.1.1.2, ⟨hk.1.2, ⟨hk.2, ⟨hk.1.1.1.1, ⟨hk.1.1.1.2.1, hk.1.1.1.2.2⟩⟩⟩⟩⟩)), (by (with_reducible repeat (first | apply Kd.R_alloc | apply Kd.R_drewN | apply Kd.R_drew)); exact Kd.R_mono HO_423000.out (fun _ hk => ⟨hk.1.1.2, ⟨hk.1.2, ⟨hk.2, ⟨hk.1.1.1.1, ⟨hk.1.1.1.2.1, hk.1.1.1.2.2⟩⟩⟩⟩⟩)), (by (with_reducible repeat (first | apply Kd.R_alloc | apply Kd.R_drewN | apply Kd.R_drew)); exact Kd.R_mono HO_427000.out (fun _ hk => ⟨hk.1.1.2, ⟨hk.1.2, ⟨hk.2, ⟨hk.1.1.1.1, ⟨hk.1.1.1.2.1, hk.1.1.1.2.2⟩⟩⟩⟩⟩)), (by (with_reducible repeat (first | apply Kd.R_alloc | apply Kd.R_drewN | apply Kd.R_drew)); exact Kd.R_mono HO_431000.out (fun _ hk => ⟨hk.1.1.2, ⟨hk.1.2, ⟨hk.2, ⟨hk.1.1.1.1, ⟨hk.1.1.1.2.1, hk.1.1.1.2.2⟩⟩⟩⟩⟩)), (hkB BK405), (hkB BK406), (hkB BK418), (hkB BK422), (hkB BK426), (hkB BK430), (hkB BK457), GW457.out, GE457.out, NB405_457.out, NB457_405.out, NB406_457.out, NB457_406.out, NB418_457.out, NB457_418.out, NB422_457.out, NB457_422.out, NB426_457.out, NB457_426.out, NB430_457.out, NB457_430.out, (hkS HB)⟩)
                                · skip
                                  refine box_step ?hg (N := 13) ?hd (cs := #[.slice none 0 0]) (t := 38) ?hr ?_; (case hd => rfl); (case hg => rfl); (case hr => first | (go_simp; done) | (go_simp; rfl))
                                  intro gb457 hg w177 hbox hb
                                  have n0_ := hkRb HO_419000 hb
                                  have n1_ := hkRb HO_423000 hb
                                  have n2_ := hkRb HO_427000 hb
                                  have n3_ := hkRb HO_431000 hb
                                  have n4_ := hkRb HO450 hb
                                  have n5_ := hkBb BK405 hb
                                  have n6_ := hkBb BK406 hb
                                  have n7_ := hkBb BK418 hb
                                  have n8_ := hkBb BK422 hb
                                  have n9_ := hkBb BK426 hb
                                  have n10_ := hkBb BK430 hb
                                  have n11_ := Aside0.mk (below_step (hkS HB) hb)
                                  have n12_ := Aside0.mk (hbox)
                                  have n13_ := hkG hg (hkS HB)
                                  have n14_ := hkG hg (hkS HB)
                                  have n15_ := hkN hg BK405
                                  have n16_ := hkM hg BK405
                                  have n17_ := hkN hg BK406
                                  have n18_ := hkM hg BK406
                                  have n19_ := hkN hg BK418
                                  have n20_ := hkM hg BK418
                                  have n21_ := hkN hg BK422
                                  have n22_ := hkM hg BK422
                                  have n23_ := hkN hg BK426
                                  have n24_ := hkM hg BK426
                                  have n25_ := hkN hg BK430
                                  have n26_ := hkM hg BK430
                                  clear HO_419000
                                  clear HO_423000
                                  clear HO_427000
                                  clear HO_431000
                                  clear HO450
                                  clear BK405
                                  clear BK406
                                  clear BK418
                                  clear BK422
                                  clear BK426
                                  clear BK430
                                  clear HB
                                  have HO_419000 := n0_
                                  have HO_423000 := n1_
                                  have HO_427000 := n2_
                                  have HO_431000 := n3_
                                  have HO450 := n4_
                                  have BK405 := n5_
                                  have BK406 := n6_
                                  have BK418 := n7_
                                  have BK422 := n8_
                                  have BK426 := n9_
                                  have BK430 := n10_
                                  have HB := n11_
                                  have BK457 := n12_
                                  have GW457 := n13_
                                  have GE457 := n14_
                                  have NB405_457 := n15_
                                  have NB457_405 := n16_
                                  have NB406_457 := n17_
                                  have NB457_406 := n18_
                                  have NB418_457 := n19_
                                  have NB457_418 := n20_
                                  have NB422_457 := n21_
                                  have NB457_422 := n22_
                                  have NB426_457 := n23_
                                  have NB457_426 := n24_
                                  have NB430_457 := n25_
                                  have NB457_430 := n26_
                                  clear n0_ n1_ n2_ n3_ n4_ n5_ n6_ n7_ n8_ n9_ n10_ n11_ n12_ n13_ n14_ n15_ n16_ n17_ n18_ n19_ n20_ n21_ n22_ n23_ n24_ n25_ n26_
                                  clear hb hbox hg
                                  refine hK.out _ _ ⟨(blk_cell BK405.out 0).trans rfl, (blk_cell BK406.out 0).trans rfl⟩ (fun hHeld => ?_)
                                  clear hK K
                                  refine norm_ (a' := ?_) ?_ ?_
                                  rotate_left
                                  · show Act.put _ (some 13) _ = _
                                    simp only [Act.put, List.setIfInBounds_toArray, List.set_cons_zero, List.set_cons_succ, i64_w, i32_w]
                                    rfl
                                  refine one_ (i := 3) (N := some 78) #[true, true, true, true, false, true, false] rfl rfl (by kernel_rfl) (by decide) (fun K hK => ?_)
                                  refine goes_ Try.func26 (by kernel_rfl) rfl #[.agg #[.slice A1_0 l1_0.length c1_0]] (by rfl) rfl rfl hkL ?_
                                  with_reducible refine (laws_toNat.calls kj34 _ _ l1_0 t451 _ ?side1 ?side2 A125.out).mono ?_
                                  (case side1 => repeat (first | exact (Kd.C_below HR1_0.out HB.out) | (with_reducible refine Kd.C_alloc ?_ _) | (with_reducible refine Kd.C_drewN ?_ _) | (with_reducible refine Kd.C_drew ?_)))
                                  (case side2 => exact HC1_0.out)
                                  rintro e w178 ⟨v452, rfl, ho0, hb⟩
                                  refine ⟨_, rfl, ?_⟩
                                  have n0_ := Aside0.mk (Kd.R_elder' (hkR HO_419000) (Kd.R_base ho0) hb)
                                  have n1_ := Aside0.mk (Kd.R_elder' (hkR HO_423000) (Kd.R_base ho0) hb)
                                  have n2_ := Aside0.mk (Kd.R_elder' (hkR HO_427000) (Kd.R_base ho0) hb)
                                  have n3_ := Aside0.mk (Kd.R_elder' (hkR HO_431000) (Kd.R_base ho0) hb)
                                  have n4_ := Aside0.mk (Kd.R_elder' (hkR HO450) (Kd.R_base ho0) hb)
                                  have n5_ := Aside0.mk (Kd.R_lower (Kd.R_new' (Kd.R_new' (Kd.R_new' (Kd.R_new' (Kd.R_new' ho0 (Kd.R_lt (hkR HO_419000))) (Kd.R_lt (hkR HO_423000))) (Kd.R_lt (hkR HO_427000))) (Kd.R_lt (hkR HO_431000))) (Kd.R_lt (hkR HO450))) (below_size (hkS HB)))
                                  have n6_ := hkBb BK405 hb
                                  have n7_ := hkBb BK406 hb
                                  have n8_ := hkBb BK418 hb
                                  have n9_ := hkBb BK422 hb
                                  have n10_ := hkBb BK426 hb
                                  have n11_ := hkBb BK430 hb
                                  have n12_ := hkBb BK457 hb
                                  have n13_ := Aside0.mk (below_step (hkS HB) hb)
                                  clear HO_419000
                                  clear HO_423000
                                  clear HO_427000
                                  clear HO_431000
                                  clear HO450
                                  clear BK405
                                  clear BK406
                                  clear BK418
                                  clear BK422
                                  clear BK426
                                  clear BK430
                                  clear BK457
                                  clear HB
                                  have HO_419000 := n0_
                                  have HO_423000 := n1_
                                  have HO_427000 := n2_
                                  have HO_431000 := n3_
                                  have HO450 := n4_
                                  have HO453 := n5_
                                  have BK405 := n6_
                                  have BK406 := n7_
                                  have BK418 := n8_
                                  have BK422 := n9_
                                  have BK426 := n10_
                                  have BK430 := n11_
                                  have BK457 := n12_
                                  have HB := n13_
                                  clear n0_ n1_ n2_ n3_ n4_ n5_ n6_ n7_ n8_ n9_ n10_ n11_ n12_ n13_
                                  (try clear hb)
                                  (try clear hb2)
                                  (try clear hk)
                                  (try clear hi)
                                  (try clear ho0)
                                  obtain ⟨Ao179, co179, eo179⟩ := Kd.R_slice HO450.out
                                  (first | subst eo179 | (injection eo179 with f1_ f2_ f3_; have f4_ := f1_.symm; have f5_ := f3_.symm; clear f1_ f2_ f3_; subst f4_; subst f5_))
                                  obtain ⟨Ao180, co180, eo180⟩ := Kd.R_slice HO453.out
                                  (first | subst eo180 | (injection eo180 with f1_ f2_ f3_; have f4_ := f1_.symm; have f5_ := f3_.symm; clear f1_ f2_ f3_; subst f4_; subst f5_))
                                  refine hK.out _ _ ⟨(blk_cell BK405.out 0).trans rfl, (blk_cell BK406.out 0).trans rfl⟩ (fun hHeld => ?_)
                                  clear hK K
                                  refine norm_ (a' := ?_) ?_ ?_
                                  rotate_left
                                  · show Act.put _ (some 78) _ = _
                                    simp only [Act.put, List.setIfInBounds_toArray, List.set_cons_zero, List.set_cons_succ, i64_w, i32_w]
                                    rfl
                                  refine one_ (i := 4) (N := some 79) #[true, true, true, true, true, true, false] rfl rfl (by kernel_rfl) (by decide) (fun K hK => ?_)
                                  refine goes_ Try.func19 (by kernel_rfl) rfl #[.agg #[.slice Ao179 t448.length co179], .agg #[.slice Ao180 t451.length co180]] (by rfl) rfl rfl hkL ?_
                                  with_reducible refine (impl_NatGcd.calls kj34 _ _ t448 _ _ t451 t454 _ ?side1 ?side2 ?side3 ?side4 A126.out).mono ?_
                                  (case side1 => repeat (first | exact (Kd.R_reads' HO450.out).2.2 | (with_reducible refine Kd.C_alloc ?_ _) | (with_reducible refine Kd.C_drewN ?_ _) | (with_reducible refine Kd.C_drew ?_)))
                                  (case side2 => exact (Kd.R_reads' HO450.out).2.1)
                                  (case side3 => repeat (first | exact (Kd.R_reads' HO453.out).2.2 | (with_reducible refine Kd.C_alloc ?_ _) | (with_reducible refine Kd.C_drewN ?_ _) | (with_reducible refine Kd.C_drew ?_)))
                                  (case side4 => exact (Kd.R_reads' HO453.out).2.1)
                                  rintro e w181 ⟨v455, rfl, ho0, hb⟩
                                  refine ⟨_, rfl, ?_⟩
                                  have n0_ := Aside0.mk (Kd.R_elder' (hkR HO_419000) (Kd.R_base ho0) hb)
                                  have n1_ := Aside0.mk (Kd.R_elder' (hkR HO_423000) (Kd.R_base ho0) hb)
                                  have n2_ := Aside0.mk (Kd.R_elder' (hkR HO_427000) (Kd.R_base ho0) hb)
                                  have n3_ := Aside0.mk (Kd.R_elder' (hkR HO_431000) (Kd.R_base ho0) hb)
                                  have n4_ := Aside0.mk (Kd.R_elder' (hkR HO450) (Kd.R_base ho0) hb)
                                  have n5_ := Aside0.mk (Kd.R_elder' (hkR HO453) (Kd.R_base ho0) hb)
                                  have n6_ := Aside0.mk (Kd.R_lower (Kd.R_new' (Kd.R_new' (Kd.R_new' (Kd.R_new' (Kd.R_new' (Kd.R_new' ho0 (Kd.R_lt (hkR HO_419000))) (Kd.R_lt (hkR HO_423000))) (Kd.R_lt (hkR HO_427000))) (Kd.R_lt (hkR HO_431000))) (Kd.R_lt (hkR HO450))) (Kd.R_lt (hkR HO453))) (below_size (hkS HB)))
                                  have n7_ := hkBb BK405 hb
                                  have n8_ := hkBb BK406 hb
                                  have n9_ := hkBb BK418 hb
                                  have n10_ := hkBb BK422 hb
                                  have n11_ := hkBb BK426 hb
                                  have n12_ := hkBb BK430 hb
                                  have n13_ := hkBb BK457 hb
                                  have n14_ := Aside0.mk (below_step (hkS HB) hb)
                                  clear HO_419000
                                  clear HO_423000
                                  clear HO_427000
                                  clear HO_431000
                                  clear HO450
                                  clear HO453
                                  clear BK405
                                  clear BK406
                                  clear BK418
                                  clear BK422
                                  clear BK426
                                  clear BK430
                                  clear BK457
                                  clear HB
                                  have HO_419000 := n0_
                                  have HO_423000 := n1_
                                  have HO_427000 := n2_
                                  have HO_431000 := n3_
                                  have HO450 := n4_
                                  have HO453 := n5_
                                  have HO456 := n6_
                                  have BK405 := n7_
                                  have BK406 := n8_
                                  have BK418 := n9_
                                  have BK422 := n10_
                                  have BK426 := n11_
                                  have BK430 := n12_
                                  have BK457 := n13_
                                  have HB := n14_
                                  clear n0_ n1_ n2_ n3_ n4_ n5_ n6_ n7_ n8_ n9_ n10_ n11_ n12_ n13_ n14_
                                  (try clear hb)
                                  (try clear hb2)
                                  (try clear hk)
                                  (try clear hi)
                                  (try clear ho0)
                                  refine hK.out _ _ ⟨(blk_cell BK405.out 0).trans rfl, (blk_cell BK406.out 0).trans rfl⟩ (fun hHeld => ?_)
                                  clear hK K
                                  refine norm_ (a' := ?_) ?_ ?_
                                  rotate_left
                                  · show Act.put _ (some 79) _ = _
                                    simp only [Act.put, List.setIfInBounds_toArray, List.set_cons_zero, List.set_cons_succ, i64_w, i32_w]
                                    rfl
                                  exact norm_ (by simp only [putAll, Act.put, List.setIfInBounds_toArray, List.set_cons_zero, List.set_cons_succ]) (hCont (.slice Ao179 t448.length co179, .slice Ao180 t451.length co180, v455, gb457) _ ⟨hHeld, (by (with_reducible repeat (first | apply Kd.R_alloc | apply Kd.R_drewN | apply Kd.R_drew)); exact Kd.R_mono HO450.out (fun _ hk => ⟨hk.1.2, ⟨hk.2, ⟨hk.1.1.1.1.1.2, ⟨hk.1.1.1.1.2, ⟨hk.1.1.1.2, hk.1.1.2⟩⟩⟩⟩⟩)), (by (with_reducible repeat (first | apply Kd.R_alloc | apply Kd.R_drewN | apply Kd.R_drew)); exact Kd.R_mono HO453.out (fun _ hk => ⟨hk.1.2, ⟨hk.2, ⟨hk.1.1.1.1.1.2, ⟨hk.1.1.1.1.2, ⟨hk.1.1.1.2, hk.1.1.2⟩⟩⟩⟩⟩)), (by (with_reducible repeat (first | apply Kd.R_alloc | apply Kd.R_drewN | apply Kd.R_drew)); exact Kd.R_mono HO456.out (fun _ hk => ⟨hk.1.2, ⟨hk.2, ⟨hk.1.1.1.1.1.2, ⟨hk.1.1.1.1.2, ⟨hk.1.1.1.2, hk.1.1.2⟩⟩⟩⟩⟩)), (by (with_reducible repeat (first | apply Kd.R_alloc | apply Kd.R_drewN | apply Kd.R_drew)); exact Kd.R_mono HO_419000.out (fun _ hk => ⟨hk.1.1.2, ⟨hk.1.2, ⟨hk.2, ⟨hk.1.1.1.1, ⟨hk.1.1.1.2.1, hk.1.1.1.2.2⟩⟩⟩⟩⟩)), (by (with_reducible repeat (first | apply Kd.R_alloc | apply Kd.R_drewN | apply Kd.R_drew)); exact Kd.R_mono HO_423000.out (fun _ hk => ⟨hk.1.1.2, ⟨hk.1.2, ⟨hk.2, ⟨hk.1.1.1.1, ⟨hk.1.1.1.2.1, hk.1.1.1.2.2⟩⟩⟩⟩⟩)), (by (with_reducible repeat (first | apply Kd.R_alloc | apply Kd.R_drewN | apply Kd.R_drew)); exact Kd.R_mono HO_427000.out (fun _ hk => ⟨hk.1.1.2, ⟨hk.1.2, ⟨hk.2, ⟨hk.1.1.1.1, ⟨hk.1.1.1.2.1, hk.1.1.1.2.2⟩⟩⟩⟩⟩)), (by (with_reducible repeat (first | apply Kd.R_alloc | apply Kd.R_drewN | apply Kd.R_drew)); exact Kd.R_mono HO_431000.out (fun _ hk => ⟨hk.1.1.2, ⟨hk.1.2, ⟨hk.2, ⟨hk.1.1.1.1, ⟨hk.1.1.1.2.1, hk.1.1.1.2.2⟩⟩⟩⟩⟩)), (hkB BK405), (hkB BK406), (hkB BK418), (hkB BK422), (hkB BK426), (hkB BK430), (hkB BK457), GW457.out, GE457.out, NB405_457.out, NB457_405.out, NB406_457.out, NB457_406.out, NB418_457.out, NB457_418.out, NB422_457.out, NB457_422.out, NB426_457.out, NB457_426.out, NB430_457.out, NB457_430.out, (hkS HB)⟩)
                              · skip
                                refine box_step ?hg (N := 13) ?hd (cs := #[.slice none 0 0]) (t := 38) ?hr ?_; (case hd => rfl); (case hg => rfl); (case hr => first | (go_simp; done) | (go_simp; rfl))
                                intro gb457 hg w176 hbox hb
                                have n0_ := hkRb HO_419000 hb
                                have n1_ := hkRb HO_423000 hb
                                have n2_ := hkRb HO_427000 hb
                                have n3_ := hkRb HO_431000 hb
                                have n4_ := hkBb BK405 hb
                                have n5_ := hkBb BK406 hb
                                have n6_ := hkBb BK418 hb
                                have n7_ := hkBb BK422 hb
                                have n8_ := hkBb BK426 hb
                                have n9_ := hkBb BK430 hb
                                have n10_ := Aside0.mk (below_step (hkS HB) hb)
                                have n11_ := Aside0.mk (hbox)
                                have n12_ := hkG hg (hkS HB)
                                have n13_ := hkG hg (hkS HB)
                                have n14_ := hkN hg BK405
                                have n15_ := hkM hg BK405
                                have n16_ := hkN hg BK406
                                have n17_ := hkM hg BK406
                                have n18_ := hkN hg BK418
                                have n19_ := hkM hg BK418
                                have n20_ := hkN hg BK422
                                have n21_ := hkM hg BK422
                                have n22_ := hkN hg BK426
                                have n23_ := hkM hg BK426
                                have n24_ := hkN hg BK430
                                have n25_ := hkM hg BK430
                                clear HO_419000
                                clear HO_423000
                                clear HO_427000
                                clear HO_431000
                                clear BK405
                                clear BK406
                                clear BK418
                                clear BK422
                                clear BK426
                                clear BK430
                                clear HB
                                have HO_419000 := n0_
                                have HO_423000 := n1_
                                have HO_427000 := n2_
                                have HO_431000 := n3_
                                have BK405 := n4_
                                have BK406 := n5_
                                have BK418 := n6_
                                have BK422 := n7_
                                have BK426 := n8_
                                have BK430 := n9_
                                have HB := n10_
                                have BK457 := n11_
                                have GW457 := n12_
                                have GE457 := n13_
                                have NB405_457 := n14_
                                have NB457_405 := n15_
                                have NB406_457 := n16_
                                have NB457_406 := n17_
                                have NB418_457 := n18_
                                have NB457_418 := n19_
                                have NB422_457 := n20_
                                have NB457_422 := n21_
                                have NB426_457 := n22_
                                have NB457_426 := n23_
                                have NB430_457 := n24_
                                have NB457_430 := n25_
                                clear n0_ n1_ n2_ n3_ n4_ n5_ n6_ n7_ n8_ n9_ n10_ n11_ n12_ n13_ n14_ n15_ n16_ n17_ n18_ n19_ n20_ n21_ n22_ n23_ n24_ n25_
                                clear hb hbox hg
                                refine hK.out _ _ ⟨(blk_cell BK405.out 0).trans rfl, (blk_cell BK406.out 0).trans rfl⟩ (fun hHeld => ?_)
                                clear hK K
                                refine norm_ (a' := ?_) ?_ ?_
                                rotate_left
                                · show Act.put _ (some 13) _ = _
                                  simp only [Act.put, List.setIfInBounds_toArray, List.set_cons_zero, List.set_cons_succ, i64_w, i32_w]
                                  rfl
                                refine one_ (i := 1) (N := some 76) #[true, true, true, false, false, true, false] rfl rfl (by kernel_rfl) (by decide) (fun K hK => ?_)
                                refine goes_ Try.func26 (by kernel_rfl) rfl #[.agg #[.slice A0_0 l0_0.length c0_0]] (by rfl) rfl rfl hkL ?_
                                with_reducible refine (laws_toNat.calls kj34 _ _ l0_0 t448 _ ?side1 ?side2 A124.out).mono ?_
                                (case side1 => repeat (first | exact (Kd.C_below HR0_0.out HB.out) | (with_reducible refine Kd.C_alloc ?_ _) | (with_reducible refine Kd.C_drewN ?_ _) | (with_reducible refine Kd.C_drew ?_)))
                                (case side2 => exact HC0_0.out)
                                rintro e w177 ⟨v449, rfl, ho0, hb⟩
                                refine ⟨_, rfl, ?_⟩
                                have n0_ := Aside0.mk (Kd.R_elder' (hkR HO_419000) (Kd.R_base ho0) hb)
                                have n1_ := Aside0.mk (Kd.R_elder' (hkR HO_423000) (Kd.R_base ho0) hb)
                                have n2_ := Aside0.mk (Kd.R_elder' (hkR HO_427000) (Kd.R_base ho0) hb)
                                have n3_ := Aside0.mk (Kd.R_elder' (hkR HO_431000) (Kd.R_base ho0) hb)
                                have n4_ := Aside0.mk (Kd.R_lower (Kd.R_new' (Kd.R_new' (Kd.R_new' (Kd.R_new' ho0 (Kd.R_lt (hkR HO_419000))) (Kd.R_lt (hkR HO_423000))) (Kd.R_lt (hkR HO_427000))) (Kd.R_lt (hkR HO_431000))) (below_size (hkS HB)))
                                have n5_ := hkBb BK405 hb
                                have n6_ := hkBb BK406 hb
                                have n7_ := hkBb BK418 hb
                                have n8_ := hkBb BK422 hb
                                have n9_ := hkBb BK426 hb
                                have n10_ := hkBb BK430 hb
                                have n11_ := hkBb BK457 hb
                                have n12_ := Aside0.mk (below_step (hkS HB) hb)
                                clear HO_419000
                                clear HO_423000
                                clear HO_427000
                                clear HO_431000
                                clear BK405
                                clear BK406
                                clear BK418
                                clear BK422
                                clear BK426
                                clear BK430
                                clear BK457
                                clear HB
                                have HO_419000 := n0_
                                have HO_423000 := n1_
                                have HO_427000 := n2_
                                have HO_431000 := n3_
                                have HO450 := n4_
                                have BK405 := n5_
                                have BK406 := n6_
                                have BK418 := n7_
                                have BK422 := n8_
                                have BK426 := n9_
                                have BK430 := n10_
                                have BK457 := n11_
                                have HB := n12_
                                clear n0_ n1_ n2_ n3_ n4_ n5_ n6_ n7_ n8_ n9_ n10_ n11_ n12_
                                (try clear hb)
                                (try clear hb2)
                                (try clear hk)
                                (try clear hi)
                                (try clear ho0)
                                refine hK.out _ _ ⟨(blk_cell BK405.out 0).trans rfl, (blk_cell BK406.out 0).trans rfl⟩ (fun hHeld => ?_)
                                clear hK K
                                refine norm_ (a' := ?_) ?_ ?_
                                rotate_left
                                · show Act.put _ (some 76) _ = _
                                  simp only [Act.put, List.setIfInBounds_toArray, List.set_cons_zero, List.set_cons_succ, i64_w, i32_w]
                                  rfl
                                refine one_ (i := 3) (N := some 78) #[true, true, true, true, false, true, false] rfl rfl (by kernel_rfl) (by decide) (fun K hK => ?_)
                                refine goes_ Try.func26 (by kernel_rfl) rfl #[.agg #[.slice A1_0 l1_0.length c1_0]] (by rfl) rfl rfl hkL ?_
                                with_reducible refine (laws_toNat.calls kj34 _ _ l1_0 t451 _ ?side1 ?side2 A125.out).mono ?_
                                (case side1 => repeat (first | exact (Kd.C_below HR1_0.out HB.out) | (with_reducible refine Kd.C_alloc ?_ _) | (with_reducible refine Kd.C_drewN ?_ _) | (with_reducible refine Kd.C_drew ?_)))
                                (case side2 => exact HC1_0.out)
                                rintro e w178 ⟨v452, rfl, ho0, hb⟩
                                refine ⟨_, rfl, ?_⟩
                                have n0_ := Aside0.mk (Kd.R_elder' (hkR HO_419000) (Kd.R_base ho0) hb)
                                have n1_ := Aside0.mk (Kd.R_elder' (hkR HO_423000) (Kd.R_base ho0) hb)
                                have n2_ := Aside0.mk (Kd.R_elder' (hkR HO_427000) (Kd.R_base ho0) hb)
                                have n3_ := Aside0.mk (Kd.R_elder' (hkR HO_431000) (Kd.R_base ho0) hb)
                                have n4_ := Aside0.mk (Kd.R_elder' (hkR HO450) (Kd.R_base ho0) hb)
                                have n5_ := Aside0.mk (Kd.R_lower (Kd.R_new' (Kd.R_new' (Kd.R_new' (Kd.R_new' (Kd.R_new' ho0 (Kd.R_lt (hkR HO_419000))) (Kd.R_lt (hkR HO_423000))) (Kd.R_lt (hkR HO_427000))) (Kd.R_lt (hkR HO_431000))) (Kd.R_lt (hkR HO450))) (below_size (hkS HB)))
                                have n6_ := hkBb BK405 hb
                                have n7_ := hkBb BK406 hb
                                have n8_ := hkBb BK418 hb
                                have n9_ := hkBb BK422 hb
                                have n10_ := hkBb BK426 hb
                                have n11_ := hkBb BK430 hb
                                have n12_ := hkBb BK457 hb
                                have n13_ := Aside0.mk (below_step (hkS HB) hb)
                                clear HO_419000
                                clear HO_423000
                                clear HO_427000
                                clear HO_431000
                                clear HO450
                                clear BK405
                                clear BK406
                                clear BK418
                                clear BK422
                                clear BK426
                                clear BK430
                                clear BK457
                                clear HB
                                have HO_419000 := n0_
                                have HO_423000 := n1_
                                have HO_427000 := n2_
                                have HO_431000 := n3_
                                have HO450 := n4_
                                have HO453 := n5_
                                have BK405 := n6_
                                have BK406 := n7_
                                have BK418 := n8_
                                have BK422 := n9_
                                have BK426 := n10_
                                have BK430 := n11_
                                have BK457 := n12_
                                have HB := n13_
                                clear n0_ n1_ n2_ n3_ n4_ n5_ n6_ n7_ n8_ n9_ n10_ n11_ n12_ n13_
                                (try clear hb)
                                (try clear hb2)
                                (try clear hk)
                                (try clear hi)
                                (try clear ho0)
                                obtain ⟨Ao179, co179, eo179⟩ := Kd.R_slice HO450.out
                                (first | subst eo179 | (injection eo179 with f1_ f2_ f3_; have f4_ := f1_.symm; have f5_ := f3_.symm; clear f1_ f2_ f3_; subst f4_; subst f5_))
                                obtain ⟨Ao180, co180, eo180⟩ := Kd.R_slice HO453.out
                                (first | subst eo180 | (injection eo180 with f1_ f2_ f3_; have f4_ := f1_.symm; have f5_ := f3_.symm; clear f1_ f2_ f3_; subst f4_; subst f5_))
                                refine hK.out _ _ ⟨(blk_cell BK405.out 0).trans rfl, (blk_cell BK406.out 0).trans rfl⟩ (fun hHeld => ?_)
                                clear hK K
                                refine norm_ (a' := ?_) ?_ ?_
                                rotate_left
                                · show Act.put _ (some 78) _ = _
                                  simp only [Act.put, List.setIfInBounds_toArray, List.set_cons_zero, List.set_cons_succ, i64_w, i32_w]
                                  rfl
                                refine one_ (i := 4) (N := some 79) #[true, true, true, true, true, true, false] rfl rfl (by kernel_rfl) (by decide) (fun K hK => ?_)
                                refine goes_ Try.func19 (by kernel_rfl) rfl #[.agg #[.slice Ao179 t448.length co179], .agg #[.slice Ao180 t451.length co180]] (by rfl) rfl rfl hkL ?_
                                with_reducible refine (impl_NatGcd.calls kj34 _ _ t448 _ _ t451 t454 _ ?side1 ?side2 ?side3 ?side4 A126.out).mono ?_
                                (case side1 => repeat (first | exact (Kd.R_reads' HO450.out).2.2 | (with_reducible refine Kd.C_alloc ?_ _) | (with_reducible refine Kd.C_drewN ?_ _) | (with_reducible refine Kd.C_drew ?_)))
                                (case side2 => exact (Kd.R_reads' HO450.out).2.1)
                                (case side3 => repeat (first | exact (Kd.R_reads' HO453.out).2.2 | (with_reducible refine Kd.C_alloc ?_ _) | (with_reducible refine Kd.C_drewN ?_ _) | (with_reducible refine Kd.C_drew ?_)))
                                (case side4 => exact (Kd.R_reads' HO453.out).2.1)
                                rintro e w181 ⟨v455, rfl, ho0, hb⟩
                                refine ⟨_, rfl, ?_⟩
                                have n0_ := Aside0.mk (Kd.R_elder' (hkR HO_419000) (Kd.R_base ho0) hb)
                                have n1_ := Aside0.mk (Kd.R_elder' (hkR HO_423000) (Kd.R_base ho0) hb)
                                have n2_ := Aside0.mk (Kd.R_elder' (hkR HO_427000) (Kd.R_base ho0) hb)
                                have n3_ := Aside0.mk (Kd.R_elder' (hkR HO_431000) (Kd.R_base ho0) hb)
                                have n4_ := Aside0.mk (Kd.R_elder' (hkR HO450) (Kd.R_base ho0) hb)
                                have n5_ := Aside0.mk (Kd.R_elder' (hkR HO453) (Kd.R_base ho0) hb)
                                have n6_ := Aside0.mk (Kd.R_lower (Kd.R_new' (Kd.R_new' (Kd.R_new' (Kd.R_new' (Kd.R_new' (Kd.R_new' ho0 (Kd.R_lt (hkR HO_419000))) (Kd.R_lt (hkR HO_423000))) (Kd.R_lt (hkR HO_427000))) (Kd.R_lt (hkR HO_431000))) (Kd.R_lt (hkR HO450))) (Kd.R_lt (hkR HO453))) (below_size (hkS HB)))
                                have n7_ := hkBb BK405 hb
                                have n8_ := hkBb BK406 hb
                                have n9_ := hkBb BK418 hb
                                have n10_ := hkBb BK422 hb
                                have n11_ := hkBb BK426 hb
                                have n12_ := hkBb BK430 hb
                                have n13_ := hkBb BK457 hb
                                have n14_ := Aside0.mk (below_step (hkS HB) hb)
                                clear HO_419000
                                clear HO_423000
                                clear HO_427000
                                clear HO_431000
                                clear HO450
                                clear HO453
                                clear BK405
                                clear BK406
                                clear BK418
                                clear BK422
                                clear BK426
                                clear BK430
                                clear BK457
                                clear HB
                                have HO_419000 := n0_
                                have HO_423000 := n1_
                                have HO_427000 := n2_
                                have HO_431000 := n3_
                                have HO450 := n4_
                                have HO453 := n5_
                                have HO456 := n6_
                                have BK405 := n7_
                                have BK406 := n8_
                                have BK418 := n9_
                                have BK422 := n10_
                                have BK426 := n11_
                                have BK430 := n12_
                                have BK457 := n13_
                                have HB := n14_
                                clear n0_ n1_ n2_ n3_ n4_ n5_ n6_ n7_ n8_ n9_ n10_ n11_ n12_ n13_ n14_
                                (try clear hb)
                                (try clear hb2)
                                (try clear hk)
                                (try clear hi)
                                (try clear ho0)
                                refine hK.out _ _ ⟨(blk_cell BK405.out 0).trans rfl, (blk_cell BK406.out 0).trans rfl⟩ (fun hHeld => ?_)
                                clear hK K
                                refine norm_ (a' := ?_) ?_ ?_
                                rotate_left
                                · show Act.put _ (some 79) _ = _
                                  simp only [Act.put, List.setIfInBounds_toArray, List.set_cons_zero, List.set_cons_succ, i64_w, i32_w]
                                  rfl
                                exact norm_ (by simp only [putAll, Act.put, List.setIfInBounds_toArray, List.set_cons_zero, List.set_cons_succ]) (hCont (.slice Ao179 t448.length co179, .slice Ao180 t451.length co180, v455, gb457) _ ⟨hHeld, (by (with_reducible repeat (first | apply Kd.R_alloc | apply Kd.R_drewN | apply Kd.R_drew)); exact Kd.R_mono HO450.out (fun _ hk => ⟨hk.1.2, ⟨hk.2, ⟨hk.1.1.1.1.1.2, ⟨hk.1.1.1.1.2, ⟨hk.1.1.1.2, hk.1.1.2⟩⟩⟩⟩⟩)), (by (with_reducible repeat (first | apply Kd.R_alloc | apply Kd.R_drewN | apply Kd.R_drew)); exact Kd.R_mono HO453.out (fun _ hk => ⟨hk.1.2, ⟨hk.2, ⟨hk.1.1.1.1.1.2, ⟨hk.1.1.1.1.2, ⟨hk.1.1.1.2, hk.1.1.2⟩⟩⟩⟩⟩)), (by (with_reducible repeat (first | apply Kd.R_alloc | apply Kd.R_drewN | apply Kd.R_drew)); exact Kd.R_mono HO456.out (fun _ hk => ⟨hk.1.2, ⟨hk.2, ⟨hk.1.1.1.1.1.2, ⟨hk.1.1.1.1.2, ⟨hk.1.1.1.2, hk.1.1.2⟩⟩⟩⟩⟩)), (by (with_reducible repeat (first | apply Kd.R_alloc | apply Kd.R_drewN | apply Kd.R_drew)); exact Kd.R_mono HO_419000.out (fun _ hk => ⟨hk.1.1.2, ⟨hk.1.2, ⟨hk.2, ⟨hk.1.1.1.1, ⟨hk.1.1.1.2.1, hk.1.1.1.2.2⟩⟩⟩⟩⟩)), (by (with_reducible repeat (first | apply Kd.R_alloc | apply Kd.R_drewN | apply Kd.R_drew)); exact Kd.R_mono HO_423000.out (fun _ hk => ⟨hk.1.1.2, ⟨hk.1.2, ⟨hk.2, ⟨hk.1.1.1.1, ⟨hk.1.1.1.2.1, hk.1.1.1.2.2⟩⟩⟩⟩⟩)), (by (with_reducible repeat (first | apply Kd.R_alloc | apply Kd.R_drewN | apply Kd.R_drew)); exact Kd.R_mono HO_427000.out (fun _ hk => ⟨hk.1.1.2, ⟨hk.1.2, ⟨hk.2, ⟨hk.1.1.1.1, ⟨hk.1.1.1.2.1, hk.1.1.1.2.2⟩⟩⟩⟩⟩)), (by (with_reducible repeat (first | apply Kd.R_alloc | apply Kd.R_drewN | apply Kd.R_drew)); exact Kd.R_mono HO_431000.out (fun _ hk => ⟨hk.1.1.2, ⟨hk.1.2, ⟨hk.2, ⟨hk.1.1.1.1, ⟨hk.1.1.1.2.1, hk.1.1.1.2.2⟩⟩⟩⟩⟩)), (hkB BK405), (hkB BK406), (hkB BK418), (hkB BK422), (hkB BK426), (hkB BK430), (hkB BK457), GW457.out, GE457.out, NB405_457.out, NB457_405.out, NB406_457.out, NB457_406.out, NB418_457.out, NB457_418.out, NB422_457.out, NB457_422.out, NB426_457.out, NB457_426.out, NB430_457.out, NB457_430.out, (hkS HB)⟩)
                            rintro ⟨v449, v452, v455, gb457⟩ w182 ⟨hS_, h0_, h1_, h2_, h3_, h4_, h5_, h6_, h7_, h8_, h9_, h10_, h11_, h12_, h13_, h14_, h15_, h16_, h17_, h18_, h19_, h20_, h21_, h22_, h23_, h24_, h25_, h26_, h27_, h28_⟩
                            have n0_ : Aside0 (Kd.R (Kd.int .i64) 3 w182 w.heap.size (fun k_ => some k_ ≠ (v452 : Value).ownBlock ∧ some k_ ≠ (v455 : Value).ownBlock ∧ some k_ ≠ (.slice Ao51 t415.length co51 : Value).ownBlock ∧ some k_ ≠ (.slice Ao57 t441.length co57 : Value).ownBlock ∧ some k_ ≠ (.slice Ao66 t443.length co66 : Value).ownBlock ∧ some k_ ≠ (.slice Ao75 t427.length co75 : Value).ownBlock) v449 t448) := ⟨h0_⟩
                            have n1_ : Aside0 (Kd.R (Kd.int .i64) 3 w182 w.heap.size (fun k_ => some k_ ≠ (v449 : Value).ownBlock ∧ some k_ ≠ (v455 : Value).ownBlock ∧ some k_ ≠ (.slice Ao51 t415.length co51 : Value).ownBlock ∧ some k_ ≠ (.slice Ao57 t441.length co57 : Value).ownBlock ∧ some k_ ≠ (.slice Ao66 t443.length co66 : Value).ownBlock ∧ some k_ ≠ (.slice Ao75 t427.length co75 : Value).ownBlock) v452 t451) := ⟨h1_⟩
                            have n2_ : Aside0 (Kd.R (Kd.int .i64) 3 w182 w.heap.size (fun k_ => some k_ ≠ (v449 : Value).ownBlock ∧ some k_ ≠ (v452 : Value).ownBlock ∧ some k_ ≠ (.slice Ao51 t415.length co51 : Value).ownBlock ∧ some k_ ≠ (.slice Ao57 t441.length co57 : Value).ownBlock ∧ some k_ ≠ (.slice Ao66 t443.length co66 : Value).ownBlock ∧ some k_ ≠ (.slice Ao75 t427.length co75 : Value).ownBlock) v455 t454) := ⟨h2_⟩
                            have n3_ : Aside0 (Kd.R (Kd.int .i64) 3 w182 w.heap.size (fun k_ => some k_ ≠ (v449 : Value).ownBlock ∧ some k_ ≠ (v452 : Value).ownBlock ∧ some k_ ≠ (v455 : Value).ownBlock ∧ some k_ ≠ (.slice Ao57 t441.length co57 : Value).ownBlock ∧ some k_ ≠ (.slice Ao66 t443.length co66 : Value).ownBlock ∧ some k_ ≠ (.slice Ao75 t427.length co75 : Value).ownBlock) (.slice Ao51 t415.length co51) t415) := ⟨h3_⟩
                            have n4_ : Aside0 (Kd.R (Kd.int .i64) 3 w182 w.heap.size (fun k_ => some k_ ≠ (v449 : Value).ownBlock ∧ some k_ ≠ (v452 : Value).ownBlock ∧ some k_ ≠ (v455 : Value).ownBlock ∧ some k_ ≠ (.slice Ao51 t415.length co51 : Value).ownBlock ∧ some k_ ≠ (.slice Ao66 t443.length co66 : Value).ownBlock ∧ some k_ ≠ (.slice Ao75 t427.length co75 : Value).ownBlock) (.slice Ao57 t441.length co57) t441) := ⟨h4_⟩
                            have n5_ : Aside0 (Kd.R (Kd.int .i64) 3 w182 w.heap.size (fun k_ => some k_ ≠ (v449 : Value).ownBlock ∧ some k_ ≠ (v452 : Value).ownBlock ∧ some k_ ≠ (v455 : Value).ownBlock ∧ some k_ ≠ (.slice Ao51 t415.length co51 : Value).ownBlock ∧ some k_ ≠ (.slice Ao57 t441.length co57 : Value).ownBlock ∧ some k_ ≠ (.slice Ao75 t427.length co75 : Value).ownBlock) (.slice Ao66 t443.length co66) t443) := ⟨h5_⟩
                            have n6_ : Aside0 (Kd.R (Kd.int .i64) 3 w182 w.heap.size (fun k_ => some k_ ≠ (v449 : Value).ownBlock ∧ some k_ ≠ (v452 : Value).ownBlock ∧ some k_ ≠ (v455 : Value).ownBlock ∧ some k_ ≠ (.slice Ao51 t415.length co51 : Value).ownBlock ∧ some k_ ≠ (.slice Ao57 t441.length co57 : Value).ownBlock ∧ some k_ ≠ (.slice Ao66 t443.length co66 : Value).ownBlock) (.slice Ao75 t427.length co75) t446) := ⟨h6_⟩
                            have n7_ : Aside0 (w182.heap[gb405]? = some (.cells #[.slice A0_0 l0_0.length c0_0] 31 (0, 0))) := ⟨h7_⟩
                            have n8_ : Aside0 (w182.heap[gb406]? = some (.cells #[.slice A1_0 l1_0.length c1_0] 31 (0, 0))) := ⟨h8_⟩
                            have n9_ : Aside0 (w182.heap[gb418]? = some (.cells #[.slice Ao51 t415.length co51] 38 (0, 0))) := ⟨h9_⟩
                            have n10_ : Aside0 (w182.heap[gb422]? = some (.cells #[.slice Ao57 t441.length co57] 38 (0, 0))) := ⟨h10_⟩
                            have n11_ : Aside0 (w182.heap[gb426]? = some (.cells #[.slice Ao66 t443.length co66] 38 (0, 0))) := ⟨h11_⟩
                            have n12_ : Aside0 (w182.heap[gb430]? = some (.cells #[.slice Ao75 t427.length co75] 38 (0, 0))) := ⟨h12_⟩
                            have n13_ : Aside0 (w182.heap[gb457]? = some (.cells #[.slice none 0 0] 38 (0, 0))) := ⟨h13_⟩
                            have n14_ : Aside0 (w.heap.size ≤ gb457) := ⟨h14_⟩
                            have n15_ : Aside0 (w.heap.size ≤ gb457) := ⟨h15_⟩
                            have n16_ : Aside0 (gb405 ≠ gb457) := ⟨h16_⟩
                            have n17_ : Aside0 (gb457 ≠ gb405) := ⟨h17_⟩
                            have n18_ : Aside0 (gb406 ≠ gb457) := ⟨h18_⟩
                            have n19_ : Aside0 (gb457 ≠ gb406) := ⟨h19_⟩
                            have n20_ : Aside0 (gb418 ≠ gb457) := ⟨h20_⟩
                            have n21_ : Aside0 (gb457 ≠ gb418) := ⟨h21_⟩
                            have n22_ : Aside0 (gb422 ≠ gb457) := ⟨h22_⟩
                            have n23_ : Aside0 (gb457 ≠ gb422) := ⟨h23_⟩
                            have n24_ : Aside0 (gb426 ≠ gb457) := ⟨h24_⟩
                            have n25_ : Aside0 (gb457 ≠ gb426) := ⟨h25_⟩
                            have n26_ : Aside0 (gb430 ≠ gb457) := ⟨h26_⟩
                            have n27_ : Aside0 (gb457 ≠ gb430) := ⟨h27_⟩
                            have n28_ : Aside0 (Below w.heap.size w w182) := ⟨h28_⟩
                            clear HO_419000
                            clear HO_423000
                            clear HO_427000
                            clear HO_431000
                            clear BK405
                            clear BK406
                            clear BK418
                            clear BK422
                            clear BK426
                            clear BK430
                            clear HB
                            clear h0_ h1_ h2_ h3_ h4_ h5_ h6_ h7_ h8_ h9_ h10_ h11_ h12_ h13_ h14_ h15_ h16_ h17_ h18_ h19_ h20_ h21_ h22_ h23_ h24_ h25_ h26_ h27_ h28_
                            have HO450 := n0_
                            have HO453 := n1_
                            have HO456 := n2_
                            have HO_419000 := n3_
                            have HO_423000 := n4_
                            have HO_427000 := n5_
                            have HO_431000 := n6_
                            have BK405 := n7_
                            have BK406 := n8_
                            have BK418 := n9_
                            have BK422 := n10_
                            have BK426 := n11_
                            have BK430 := n12_
                            have BK457 := n13_
                            have GW457 := n14_
                            have GE457 := n15_
                            have NB405_457 := n16_
                            have NB457_405 := n17_
                            have NB406_457 := n18_
                            have NB457_406 := n19_
                            have NB418_457 := n20_
                            have NB457_418 := n21_
                            have NB422_457 := n22_
                            have NB457_422 := n23_
                            have NB426_457 := n24_
                            have NB457_426 := n25_
                            have NB430_457 := n26_
                            have NB457_430 := n27_
                            have HB := n28_
                            clear n0_ n1_ n2_ n3_ n4_ n5_ n6_ n7_ n8_ n9_ n10_ n11_ n12_ n13_ n14_ n15_ n16_ n17_ n18_ n19_ n20_ n21_ n22_ n23_ n24_ n25_ n26_ n27_ n28_
                            have hHeld : w182.cell? ⟨gb405, 0, none⟩ = some (.slice A0_0 l0_0.length c0_0) ∧ w182.cell? ⟨gb406, 0, none⟩ = some (.slice A1_0 l1_0.length c1_0) := hS_
                            obtain ⟨Ao183, co183, eo183⟩ := Kd.R_slice HO456.out
                            (first | subst eo183 | (injection eo183 with f1_ f2_ f3_; have f4_ := f1_.symm; have f5_ := f3_.symm; clear f1_ f2_ f3_; subst f4_; subst f5_))
                            refine norm_ (a' := ?_) ?_ ?_
                            rotate_left
                            · simp only [putAll, Act.put, List.setIfInBounds_toArray, List.set_cons_zero, List.set_cons_succ]
                              rfl
                            refine one_ (i := 6) (N := none) #[true, true, true, true, true, true, true] rfl rfl (by kernel_rfl) (by decide) (fun K hK => ?_)
                            have hs184 : w182.cell? ⟨gb457, 0, none⟩ = some (.slice none 0 0) := (blk_cell BK457.out 0).trans rfl
                            have hfs184 := blk_frozen BK457.out 0
                            have hns184_0 := NB405_457.out
                            have hns184_1 := NB406_457.out
                            have hns184_2 := NB418_457.out
                            have hns184_3 := NB422_457.out
                            have hns184_4 := NB426_457.out
                            have hns184_5 := NB430_457.out
                            have hms184_0 := NB457_405.out
                            have hms184_1 := NB457_406.out
                            have hms184_2 := NB457_418.out
                            have hms184_3 := NB457_422.out
                            have hms184_4 := NB457_426.out
                            have hms184_5 := NB457_430.out
                            refine skip_ (w1 := ?_) (by rfl) rfl ?_ ?_
                            rotate_left
                            · go_simp
                              rfl
                            refine hK.out _ _ ⟨((cell_far (p := ⟨gb457, _, none⟩) NB405_457.out _).trans (hHeld.1)), ((cell_far (p := ⟨gb457, _, none⟩) NB406_457.out _).trans (hHeld.2))⟩ (fun hHeld => ?_)
                            clear hK K
                            refine done_ (by kernel_rfl) ?_
                            have hnb185 := NB457_405.out
                            have hnc185 := NB405_457.out
                            have hnb186 := NB457_406.out
                            have hnc186 := NB406_457.out
                            have hnb187 := NB457_418.out
                            have hnc187 := NB418_457.out
                            have hnb188 := NB457_422.out
                            have hnc188 := NB422_457.out
                            have hnb189 := NB457_426.out
                            have hnc189 := NB426_457.out
                            have hnb190 := NB457_430.out
                            have hnc190 := NB430_457.out
                            have hcz191_0 : w182.cell? ⟨gb457, 0, none⟩ = some (.slice none 0 0) := (blk_cell BK457.out 0).trans rfl
                            have hfz191_0 := blk_frozen BK457.out 0
                            have hnb192 := NB418_405.out
                            have hnc192 := NB405_418.out
                            have hnb193 := NB418_406.out
                            have hnc193 := NB406_418.out
                            have hnb194 := NB418_422.out
                            have hnc194 := NB422_418.out
                            have hnb195 := NB418_426.out
                            have hnc195 := NB426_418.out
                            have hcz196_0 : w182.cell? ⟨gb418, 0, none⟩ = some (.slice Ao51 t415.length co51) := (blk_cell BK418.out 0).trans rfl
                            have hfz196_0 := blk_frozen BK418.out 0
                            try go_wp2_with (first | ((with_reducible refine gate_callee (f := 27) rfl ?_); refine goesL_ (some 82) rfl rfl Try.func27 (by kernel_rfl) rfl #[.agg #[.slice Ao183 t454.length co183], .agg #[.slice Ao51 t415.length co51]] rfl hkL ?_; (with_reducible refine (laws_eqNat.calls kj34 _ _ t454 _ _ t415 true _ ?side1 ?side2 ?side3 ?side4 A127.out).mono ?_); (case side1 => refine (Kd.R_reads' (e := 3) (base := w.heap.size) (ok := fun k_ => (some k_ ≠ (v449 : Value).ownBlock ∧ (some k_ ≠ (v452 : Value).ownBlock ∧ (some k_ ≠ (.slice Ao51 t415.length co51 : Value).ownBlock ∧ (some k_ ≠ (.slice Ao57 t441.length co57 : Value).ownBlock ∧ (some k_ ≠ (.slice Ao66 t443.length co66 : Value).ownBlock ∧ some k_ ≠ (.slice Ao75 t427.length co75 : Value).ownBlock)))))) (n := t454.length) (c := co183) ?_).2.2; exact (by (with_reducible repeat (first | apply Kd.R_alloc | apply Kd.R_drewN | apply Kd.R_drew)); exact (Kd.R_mono (Kd.R_far (p := ⟨gb457, 0, none⟩) (Kd.R_types HO456.out BK457.out (by decide)) (fun _ hk => hk.2) (.slice Ao183 t454.length co183)) (fun _ h_ => h_.1)))); (case side2 => exact (Kd.R_reads' HO456.out).2.1); (case side3 => refine (Kd.R_reads' (e := 3) (base := w.heap.size) (ok := fun k_ => (some k_ ≠ (v449 : Value).ownBlock ∧ (some k_ ≠ (v452 : Value).ownBlock ∧ (some k_ ≠ (.slice Ao183 t454.length co183 : Value).ownBlock ∧ (some k_ ≠ (.slice Ao57 t441.length co57 : Value).ownBlock ∧ (some k_ ≠ (.slice Ao66 t443.length co66 : Value).ownBlock ∧ some k_ ≠ (.slice Ao75 t427.length co75 : Value).ownBlock)))))) (n := t415.length) (c := co51) ?_).2.2; exact (by (with_reducible repeat (first | apply Kd.R_alloc | apply Kd.R_drewN | apply Kd.R_drew)); exact (Kd.R_mono (Kd.R_far (p := ⟨gb457, 0, none⟩) (Kd.R_types HO_419000.out BK457.out (by decide)) (fun _ hk => hk.2) (.slice Ao183 t454.length co183)) (fun _ h_ => h_.1)))); (case side4 => exact (Kd.R_reads' HO_419000.out).2.1); rintro e w197 ⟨rfl, hb⟩; refine ⟨_, rfl, ?_⟩; have n0_ := Aside0.mk (Kd.R_below (by (with_reducible repeat (first | apply Kd.R_alloc | apply Kd.R_drewN | apply Kd.R_drew)); exact (Kd.R_mono (Kd.R_far (p := ⟨gb457, 0, none⟩) (Kd.R_types HO_419000.out BK457.out (by decide)) (fun _ hk => hk.2) (.slice Ao183 t454.length co183)) (fun _ h_ => h_.1))) hb); have n1_ := Aside0.mk (Kd.R_below (by (with_reducible repeat (first | apply Kd.R_alloc | apply Kd.R_drewN | apply Kd.R_drew)); exact (Kd.R_mono (Kd.R_far (p := ⟨gb457, 0, none⟩) (Kd.R_types HO_423000.out BK457.out (by decide)) (fun _ hk => hk.2) (.slice Ao183 t454.length co183)) (fun _ h_ => h_.1))) hb); have n2_ := Aside0.mk (Kd.R_below (by (with_reducible repeat (first | apply Kd.R_alloc | apply Kd.R_drewN | apply Kd.R_drew)); exact (Kd.R_mono (Kd.R_far (p := ⟨gb457, 0, none⟩) (Kd.R_types HO_427000.out BK457.out (by decide)) (fun _ hk => hk.2) (.slice Ao183 t454.length co183)) (fun _ h_ => h_.1))) hb); have n3_ := Aside0.mk (Kd.R_below (by (with_reducible repeat (first | apply Kd.R_alloc | apply Kd.R_drewN | apply Kd.R_drew)); exact (Kd.R_mono (Kd.R_far (p := ⟨gb457, 0, none⟩) (Kd.R_types HO_431000.out BK457.out (by decide)) (fun _ hk => hk.2) (.slice Ao183 t454.length co183)) (fun _ h_ => h_.1))) hb); have n4_ := Aside0.mk (Kd.R_below (by (with_reducible repeat (first | apply Kd.R_alloc | apply Kd.R_drewN | apply Kd.R_drew)); exact (Kd.R_mono (Kd.R_far (p := ⟨gb457, 0, none⟩) (Kd.R_types HO450.out BK457.out (by decide)) (fun _ hk => hk.2) (.slice Ao183 t454.length co183)) (fun _ h_ => h_.1))) hb); have n5_ := Aside0.mk (Kd.R_below (by (with_reducible repeat (first | apply Kd.R_alloc | apply Kd.R_drewN | apply Kd.R_drew)); exact (Kd.R_mono (Kd.R_far (p := ⟨gb457, 0, none⟩) (Kd.R_types HO453.out BK457.out (by decide)) (fun _ hk => hk.2) (.slice Ao183 t454.length co183)) (fun _ h_ => h_.1))) hb); have n6_ := Aside0.mk (Kd.R_below (by (with_reducible repeat (first | apply Kd.R_alloc | apply Kd.R_drewN | apply Kd.R_drew)); exact (Kd.R_mono (Kd.R_far (p := ⟨gb457, 0, none⟩) (Kd.R_types HO456.out BK457.out (by decide)) (fun _ hk => hk.2) (.slice Ao183 t454.length co183)) (fun _ h_ => h_.1))) hb); have n7_ := Aside0.mk (blk_below (g := gb405) (o := .cells #[.slice A0_0 l0_0.length c0_0] 31 (0, 0)) (by (with_reducible repeat (first | refine blk_drewN ?_ _ | refine blk_drew ?_ | refine blk_alloc ?_ _)); refine blk_far ?_ NB405_457.out _; (with_reducible repeat (first | refine blk_drewN ?_ _ | refine blk_drew ?_ | refine blk_alloc ?_ _)); exact BK405.out) hb); have n8_ := Aside0.mk (blk_below (g := gb406) (o := .cells #[.slice A1_0 l1_0.length c1_0] 31 (0, 0)) (by (with_reducible repeat (first | refine blk_drewN ?_ _ | refine blk_drew ?_ | refine blk_alloc ?_ _)); refine blk_far ?_ NB406_457.out _; (with_reducible repeat (first | refine blk_drewN ?_ _ | refine blk_drew ?_ | refine blk_alloc ?_ _)); exact BK406.out) hb); have n9_ := Aside0.mk (blk_below (g := gb418) (o := .cells #[.slice Ao51 t415.length co51] 38 (0, 0)) (by (with_reducible repeat (first | refine blk_drewN ?_ _ | refine blk_drew ?_ | refine blk_alloc ?_ _)); refine blk_far ?_ NB418_457.out _; (with_reducible repeat (first | refine blk_drewN ?_ _ | refine blk_drew ?_ | refine blk_alloc ?_ _)); exact BK418.out) hb); have n10_ := Aside0.mk (blk_below (g := gb422) (o := .cells #[.slice Ao57 t441.length co57] 38 (0, 0)) (by (with_reducible repeat (first | refine blk_drewN ?_ _ | refine blk_drew ?_ | refine blk_alloc ?_ _)); refine blk_far ?_ NB422_457.out _; (with_reducible repeat (first | refine blk_drewN ?_ _ | refine blk_drew ?_ | refine blk_alloc ?_ _)); exact BK422.out) hb); have n11_ := Aside0.mk (blk_below (g := gb426) (o := .cells #[.slice Ao66 t443.length co66] 38 (0, 0)) (by (with_reducible repeat (first | refine blk_drewN ?_ _ | refine blk_drew ?_ | refine blk_alloc ?_ _)); refine blk_far ?_ NB426_457.out _; (with_reducible repeat (first | refine blk_drewN ?_ _ | refine blk_drew ?_ | refine blk_alloc ?_ _)); exact BK426.out) hb); have n12_ := Aside0.mk (blk_below (g := gb430) (o := .cells #[.slice Ao75 t427.length co75] 38 (0, 0)) (by (with_reducible repeat (first | refine blk_drewN ?_ _ | refine blk_drew ?_ | refine blk_alloc ?_ _)); refine blk_far ?_ NB430_457.out _; (with_reducible repeat (first | refine blk_drewN ?_ _ | refine blk_drew ?_ | refine blk_alloc ?_ _)); exact BK430.out) hb); have n13_ := Aside0.mk (blk_below (g := gb457) (o := .cells #[.slice Ao183 t454.length co183] 38 (0, 0)) (by (with_reducible repeat (first | refine blk_drewN ?_ _ | refine blk_drew ?_ | refine blk_alloc ?_ _)); refine blk_put (cs := #[.slice none 0 0]) ?_ 0 _ rfl; (with_reducible repeat (first | refine blk_drewN ?_ _ | refine blk_drew ?_ | refine blk_alloc ?_ _)); exact BK457.out) hb); have n14_ := Aside0.mk (below_step (hkS HB) hb); clear HO_419000; clear HO_423000; clear HO_427000; clear HO_431000; clear HO450; clear HO453; clear HO456; clear BK405; clear BK406; clear BK418; clear BK422; clear BK426; clear BK430; clear BK457; clear HB; have HO_419000 := n0_; have HO_423000 := n1_; have HO_427000 := n2_; have HO_431000 := n3_; have HO450 := n4_; have HO453 := n5_; have HO456 := n6_; have BK405 := n7_; have BK406 := n8_; have BK418 := n9_; have BK422 := n10_; have BK426 := n11_; have BK430 := n12_; have BK457 := n13_; have HB := n14_; clear n0_ n1_ n2_ n3_ n4_ n5_ n6_ n7_ n8_ n9_ n10_ n11_ n12_ n13_ n14_; (try clear hb); (try clear hb2); (try clear hk); (try clear hi); have hcz198_0 : w197.cell? ⟨gb430, 0, none⟩ = some (.slice Ao75 t427.length co75) := (blk_cell BK430.out 0).trans rfl; have hfz198_0 := blk_frozen BK430.out 0) | ((with_reducible refine gate_callee (f := 29) rfl ?_); refine goesL_ (some 86) rfl rfl Try.func29 (by kernel_rfl) rfl #[.agg #[.slice Ao75 t446.length co75], .int .i64 1] rfl (by (try simp only [List.map_toArray, List.map_cons, List.map_nil]); first | done | (rw [show t446.length = t427.length from (Kd.R_reads' HO_431000.out).1.symm] <;> rfl) | rfl | (simp only [List.length_drop, List.length_take]; rfl)) ?_; (with_reducible refine (laws_heldNat.calls kj34 _ _ t446 1 t459 _ ?side1 ?side2 A129.out).mono ?_); (case side1 => repeat (first | exact (Kd.R_reads' HO_431000.out).2.2 | (with_reducible refine Kd.C_alloc ?_ _) | (with_reducible refine Kd.C_drewN ?_ _) | (with_reducible refine Kd.C_drew ?_))); (case side2 => rw [show t446.length = t427.length from (Kd.R_reads' HO_431000.out).1.symm]; exact (Kd.R_reads' HO_431000.out).2.1); rintro e w199 ⟨rfl, hb⟩; refine ⟨_, rfl, ?_⟩; have n0_ := hkRb HO_419000 hb; have n1_ := hkRb HO_423000 hb; have n2_ := hkRb HO_427000 hb; have n3_ := hkRb HO_431000 hb; have n4_ := hkRb HO450 hb; have n5_ := hkRb HO453 hb; have n6_ := hkRb HO456 hb; have n7_ := hkBb BK405 hb; have n8_ := hkBb BK406 hb; have n9_ := hkBb BK418 hb; have n10_ := hkBb BK422 hb; have n11_ := hkBb BK426 hb; have n12_ := hkBb BK430 hb; have n13_ := hkBb BK457 hb; have n14_ := Aside0.mk (below_step (hkS HB) hb); clear HO_419000; clear HO_423000; clear HO_427000; clear HO_431000; clear HO450; clear HO453; clear HO456; clear BK405; clear BK406; clear BK418; clear BK422; clear BK426; clear BK430; clear BK457; clear HB; have HO_419000 := n0_; have HO_423000 := n1_; have HO_427000 := n2_; have HO_431000 := n3_; have HO450 := n4_; have HO453 := n5_; have HO456 := n6_; have BK405 := n7_; have BK406 := n8_; have BK418 := n9_; have BK422 := n10_; have BK426 := n11_; have BK430 := n12_; have BK457 := n13_; have HB := n14_; clear n0_ n1_ n2_ n3_ n4_ n5_ n6_ n7_ n8_ n9_ n10_ n11_ n12_ n13_ n14_; (try clear hb); (try clear hb2); (try clear hk); (try clear hi)))
                            go_ret
                            exact ⟨by first | rfl | (simp [errW_none, errW_some] <;> rfl) | (simp [*, errW_none, errW_some] <;> rfl), by repeat (first | (with_reducible first | exact HB.out | apply below_alloc | apply pw_below_drewN | apply below_drew1 | refine below_set ?_ GE405.out | refine below_set ?_ GE406.out | refine below_set ?_ GE418.out | refine below_set ?_ GE422.out | refine below_set ?_ GE426.out | refine below_set ?_ GE430.out | refine below_set ?_ GE457.out) | exact HB.out)⟩
                          · rw [if_neg c165] at H
                            have c165b0 : (t459 == t445) = false := beq_eq_false_iff_ne.mpr c165
                            have c165b1 : (t459 != t445) = true := bne_iff_ne.mpr c165
                            exact absurd (Option.some.inj H) (by decide)
                      · replace c128 := Bool.eq_false_iff.mpr c128
                        subst c128
                        have H1 : (some false) = some true := by rw [if_neg (show ¬ (false = true) by decide)] at H; exact H
                        clear H
                        have H := H1
                        clear H1
                        exact absurd (Option.some.inj H) (by decide)
                    · rw [if_neg c123] at H
                      have c123b0 : (t447 == t445) = false := beq_eq_false_iff_ne.mpr c123
                      have c123b1 : (t447 != t445) = true := bne_iff_ne.mpr c123
                      exact absurd (Option.some.inj H) (by decide)
          · replace c32 := Bool.eq_false_iff.mpr c32
            subst c32
            have H1 : (some false) = some true := by rw [if_neg (show ¬ (false = true) by decide)] at H; exact H
            clear H
            have H := H1
            clear H1
            exact absurd (Option.some.inj H) (by decide)
        · replace c29 := Bool.eq_false_iff.mpr c29
          subst c29
          have H1 : (some false) = some true := by rw [if_neg (show ¬ (false = true) by decide)] at H; exact H
          clear H
          have H := H1
          clear H1
          exact absurd (Option.some.inj H) (by decide)
      · replace c26 := Bool.eq_false_iff.mpr c26
        subst c26
        have H1 : (some false) = some true := by rw [if_neg (show ¬ (false = true) by decide)] at H; exact H
        clear H
        have H := H1
        clear H1
        exact absurd (Option.some.inj H) (by decide)
/-- THE ONE PURE STATEMENT of laws_FnExactNatGcd. -/
def laws_FnExactNatGcd.Pure : Prop := ∀ (l0_0 : List Int) (l1_0 : List Int), l0_0.length ≤ maxLen → (∀ x ∈ l0_0, (Lit.int .i64 x).wf = true) → l1_0.length ≤ maxLen → (∀ x ∈ l1_0, (Lit.int .i64 x).wf = true) → ∃ k, laws_FnExactNatGcd.f k l0_0 l1_0 = some true
theorem laws_FnExactNatGcd.walk (P : laws_FnExactNatGcd.Pure) (a0_0 : Option Addr) (len0_0 cap0_0 : Nat) (z0_0 : List Int) (a1_0 : Option Addr) (len1_0 cap1_0 : Nat) (z1_0 : List Int) (w : World) (w0_0 : ((a0_0 = none ∧ len0_0 = 0 ∧ cap0_0 = 0 ∧ z0_0 = []) ∨ ∃ x, a0_0 = some x ∧ len0_0 ≤ cap0_0 ∧ cap0_0 ≤ maxLen ∧ z0_0.length = cap0_0 ∧ (∀ i, i < z0_0.length → w.cell? (x.add i) = some (.int .i64 (z0_0.getD i 0))) ∧ ∀ n ∈ z0_0, (Lit.int .i64 n).wf = true)) (w1_0 : ((a1_0 = none ∧ len1_0 = 0 ∧ cap1_0 = 0 ∧ z1_0 = []) ∨ ∃ x, a1_0 = some x ∧ len1_0 ≤ cap1_0 ∧ cap1_0 ≤ maxLen ∧ z1_0.length = cap1_0 ∧ (∀ i, i < z1_0.length → w.cell? (x.add i) = some (.int .i64 (z1_0.getD i 0))) ∧ ∀ n ∈ z1_0, (Lit.int .i64 n).wf = true)) :
    Calls Try.prog 8 #[.agg #[.slice a0_0 len0_0 cap0_0], .agg #[.slice a1_0 len1_0 cap1_0]] w fun e w' => e = .returned (.bool true) ∧ Below w.heap.size w w' := by
  obtain ⟨l0_0, rfl, hr0_0, hm0_0, hw0_0, hc0_0⟩ := ReadsInt.ofRowC w0_0
  obtain ⟨l1_0, rfl, hr1_0, hm1_0, hw1_0, hc1_0⟩ := ReadsInt.ofRowC w1_0
  obtain ⟨k, h⟩ := P l0_0 l1_0 hm0_0 hw0_0 hm1_0 hw1_0
  refine (laws_FnExactNatGcd.calls k _ _ l0_0 _ _ l1_0 w (Kd.C_of_reads (d := (0 : Int)) (h1 := fun _ => rfl) hr0_0) hc0_0 (Kd.C_of_reads (d := (0 : Int)) (h1 := fun _ => rfl) hr1_0) hc1_0 h).mono ?_
  rintro e w' ⟨rfl, hd⟩
  exact ⟨rfl, hd⟩

end Go.Proofs.Ytgjpahofopoflaa.PFnExactNatGcd
