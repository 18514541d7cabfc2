-- Written by our own driver (wip/hand/hprint.py) over the seat's translation.
import Derived.Test.YtgjpahofopoflaaPFnNatGcdsx0
import Derived.Test.YtgjpahofopoflaaPFnNatGcdsx1
import Derived.Test.YtgjpahofopoflaaPFnNatGcdsx4
import Derived.Test.YtgjpahofopoflaaPFnNatGcdsx8
namespace Go.Proofs.Ytgjpahofopoflaa.PFnNatGcds
open Go.RowKit Go.Proofs.YtgjpahofopoflaaW.PrintWords Go.Proofs.YtgjpahofopoflaaW.PrintLast Go.Proofs.YtgjpahofopoflaaW.PrintMore
attribute [local go_sem] max2_int min2_int max_two min_two max_three min_three max_four min_four   -- for this text's walks alone
set_option linter.unusedVariables false
set_option linter.unusedSimpArgs false

/-! ### laws_FnNatGcds: function 5 -/
def laws_FnNatGcds.j0 : Nat → Bool → List Int → List Int → List Int → Option (Bool)
  | 0, _, _, _, _ => none
  | k + 1, x27, x437000, x438000, x442000 => if x27 = true then (if (x442000.length : Int) = 0 then ((laws_nat.f k 6).bind fun t444 => ((laws_nat.f k 4).bind fun t447 => ((impl_NatGcd.f k t444 t447).bind fun t450 => ((laws_nat.f k 2).bind fun t453 => ((laws_sameNat.f k t450 t453).bind fun t456 => (some t456)))))) else (some false)) else (if (x442000.length : Int) = 0 then (if (x437000.length : Int) = 0 then (if (x438000.length : Int) = 0 then ((laws_nat.f k 0).bind fun t457 => ((laws_nat.f k 4).bind fun t460 => ((impl_NatGcd.f k t457 t460).bind fun t463 => ((laws_nat.f k 4).bind fun t466 => ((laws_sameNat.f k t463 t466).bind fun t469 => (some t469)))))) else (some false)) else (some false)) else ((impl_NatDiv.f k x437000 x442000).bind fun bt470 => ((impl_NatDiv.f k x438000 x442000).bind fun bt479 => (if (bt470.2.1.length : Int) = 0 then (if (bt479.2.1.length : Int) = 0 then ((impl_NatGcd.f k bt470.1 bt479.1).bind fun t488 => ((laws_nat.f k 1).bind fun t491 => ((laws_sameNat.f k t488 t491).bind fun t494 => (if t494 = true then ((impl_NatGcd.f k x438000 x437000).bind fun t495 => ((laws_sameNat.f k t495 x442000).bind fun t498 => (some t498))) else (some false))))) else (some false)) else (some false)))))
def laws_FnNatGcds.f (k : Nat) (l0 : List Int) : Option (Bool) := (spec_DrawNatGcd.f k l0).bind fun bt430 => ((impl_NatGcd.f k bt430.1 bt430.2).bind fun t438 => ((spec_NatOk.f k bt430.1).bind fun t442 => (if t442 = true then ((spec_NatOk.f k bt430.2).bind fun t443 => (laws_FnNatGcds.j0 k (!t443) bt430.1 bt430.2 t438)) else (laws_FnNatGcds.j0 k true bt430.1 bt430.2 t438))))
theorem laws_FnNatGcds.mono_l : ∀ k, (∀ y0 y1 y2 y3, LeO (laws_FnNatGcds.j0 k y0 y1 y2 y3) (laws_FnNatGcds.j0 (k + 1) y0 y1 y2 y3))
  | 0 => fun _ _ _ _ r h => by simp [laws_FnNatGcds.j0] at h
  | k + 1 => by
    have ih0 := laws_FnNatGcds.mono_l k
    · intro y0 y1 y2 y3
      unfold laws_FnNatGcds.j0
      repeat' first
      | (with_reducible exact ih0 _ _ _ _)
      | (with_reducible exact impl_NatDiv.mono _ _ _)
      | (with_reducible exact impl_NatGcd.mono _ _ _)
      | (with_reducible exact laws_nat.mono _ _)
      | (with_reducible exact laws_sameNat.mono _ _ _)
      | (with_reducible exact spec_DrawNatGcd.mono _ _)
      | (with_reducible exact spec_NatOk.mono _ _)
      | (with_reducible exact LeO.refl _)
      | (with_reducible exact LeO.none _)
      | (with_reducible refine LeO.ite ?_ ?_)
      | (with_reducible refine LeO.bind ?_ (fun _ => ?_))
      | exact ih0 _ _ _ _
      | exact impl_NatDiv.mono _ _ _
      | exact impl_NatGcd.mono _ _ _
      | exact laws_nat.mono _ _
      | exact laws_sameNat.mono _ _ _
      | exact spec_DrawNatGcd.mono _ _
      | exact spec_NatOk.mono _ _
      | exact LeO.none _
      | refine LeO.ite ?_ ?_
      | refine LeO.bind ?_ (fun _ => ?_)
theorem laws_FnNatGcds.mono : ∀ a0 k, LeO (laws_FnNatGcds.f k a0) (laws_FnNatGcds.f (k + 1) a0) := by
  intro a0 k
  have ih0 := laws_FnNatGcds.mono_l k
  unfold laws_FnNatGcds.f
  repeat' first
      | (with_reducible exact ih0 _ _ _ _)
      | (with_reducible exact impl_NatDiv.mono _ _ _)
      | (with_reducible exact impl_NatGcd.mono _ _ _)
      | (with_reducible exact laws_nat.mono _ _)
      | (with_reducible exact laws_sameNat.mono _ _ _)
      | (with_reducible exact spec_DrawNatGcd.mono _ _)
      | (with_reducible exact spec_NatOk.mono _ _)
      | (with_reducible exact LeO.refl _)
      | (with_reducible exact LeO.none _)
      | (with_reducible refine LeO.ite ?_ ?_)
      | (with_reducible refine LeO.bind ?_ (fun _ => ?_))
      | exact ih0 _ _ _ _
      | exact impl_NatDiv.mono _ _ _
      | exact impl_NatGcd.mono _ _ _
      | exact laws_nat.mono _ _
      | exact laws_sameNat.mono _ _ _
      | exact spec_DrawNatGcd.mono _ _
      | exact spec_NatOk.mono _ _
      | exact LeO.none _
      | refine LeO.ite ?_ ?_
      | refine LeO.bind ?_ (fun _ => ?_)
def laws_FnNatGcds.T9 : Bool × List (List Nat × List Nat) := (true, [([], []), ([0], [0]), ([1], [1]), ([2], [2]), ([3], [3]), ([4], [4]), ([5, 4], [4, 5]), ([6, 4], [4, 6]), ([7, 4], [4, 7]), ([4, 8], [4, 8]), ([9, 4], [9]), ([10], [10]), ([10], [10]), ([11, 12, 10, 10], [10, 11, 12]), ([13, 10], [10]), ([13, 14, 14, 10], [10, 13, 14]), ([10, 15], [10, 15]), ([16, 15], [16]), ([17], [17]), ([17], [17]), ([18, 19, 17, 17], [17, 18, 19]), ([17], [17]), ([20, 21, 20, 17], [17, 20, 21]), ([17, 22], [17, 22]), ([23, 22, 0, 1, 2, 3, 4, 5, 6, 7, 8, 9, 10, 11, 12, 13, 14, 15, 16, 17, 18, 19, 20, 21, 22, 23], [23])])
def laws_FnNatGcds.B9 : List Nat := [0, 1, 3, 7, 15, 31, 63, 127, 255, 511, 1023, 2047, 2047, 8191, 16383, 32767, 65535, 131071, 262143, 262143, 1048575, 262143, 4194303, 8388607, 16777215]
theorem laws_FnNatGcds.tab9 : rtab .any (opsOf Try.f5 9) = laws_FnNatGcds.T9 := by kernel_rfl
theorem laws_FnNatGcds.bits9 : waitsOk laws_FnNatGcds.T9.2 laws_FnNatGcds.B9 = true := by kernel_rfl
set_option maxHeartbeats 8000000 in
set_option maxRecDepth 100000 in
theorem laws_FnNatGcds.calls (k : Nat) (A0 : Option Addr) (c0 : Nat) (l0 : List Int) (w : World) (hr0 : Kd.C (Kd.int .u8) w A0 l0.length l0) (hc0 : l0.length ≤ c0) (h : laws_FnNatGcds.f k l0 = some true) :
    Calls Try.prog 5 #[.slice A0 l0.length c0] w fun e w' => e = .returned (.bool true) ∧ Below w.heap.size w w' := by
  have hu38 := Try.underlying38
  have HR0 := Aside0.mk hr0
  have HC0 := Aside0.mk hc0
  clear hr0 hc0
  have HB := Aside0.mk (Below.refl w.heap.size w)
  have H : ((spec_DrawNatGcd.f k l0).bind fun bt430 => ((impl_NatGcd.f k bt430.1 bt430.2).bind fun t438 => ((spec_NatOk.f k bt430.1).bind fun t442 => (if t442 = true then ((spec_NatOk.f k bt430.2).bind fun t443 => (laws_FnNatGcds.j0 k (!t443) bt430.1 bt430.2 t438)) else (laws_FnNatGcds.j0 k true bt430.1 bt430.2 t438))))) = some true := h
  clear h
  replace H := Option.bind_eq_some_iff.mp H
  obtain ⟨⟨t430, t433⟩, A20, H⟩ := H
  replace H : ((impl_NatGcd.f k t430 t433).bind fun t438 => ((spec_NatOk.f k t430).bind fun t442 => (if t442 = true then ((spec_NatOk.f k t433).bind fun t443 => (laws_FnNatGcds.j0 k (!t443) t430 t433 t438)) else (laws_FnNatGcds.j0 k true t430 t433 t438)))) = some true := H
  have A2 := Aside0.mk A20
  clear A20
  replace H := Option.bind_eq_some_iff.mp H
  obtain ⟨t438, A30, H⟩ := H
  replace H : ((spec_NatOk.f k t430).bind fun t442 => (if t442 = true then ((spec_NatOk.f k t433).bind fun t443 => (laws_FnNatGcds.j0 k (!t443) t430 t433 t438)) else (laws_FnNatGcds.j0 k true t430 t433 t438))) = some true := H
  have A3 := Aside0.mk A30
  clear A30
  have HC4 := Aside0.mk H
  clear H
  go_enter Try.func5, Try.ntmps5
  go_upto_region 3 with (first | ((with_reducible refine gate_callee (f := 18) rfl ?_); refine goesL_ (some 14) rfl rfl Try.func18 (by kernel_rfl) rfl #[.slice A0 l0.length c0] rfl hkL ?_; (with_reducible refine (spec_DrawNatGcd.calls k _ _ l0 t430 t433 _ ?side1 ?side2 A2.out).mono ?_); (case side1 => repeat (first | exact HR0.out | (with_reducible refine Kd.C_alloc ?_ _) | (with_reducible refine Kd.C_drewN ?_ _) | (with_reducible refine Kd.C_drew ?_))); (case side2 => exact HC0.out); rintro e w5 ⟨v431, v434, rfl, ho0, ho1, hb⟩; refine ⟨_, rfl, ?_⟩; have n0_ := Aside0.mk (Kd.R_lower ho0 (below_size (hkS HB))); have n1_ := Aside0.mk (Kd.R_lower ho1 (below_size (hkS HB))); have n2_ := Aside0.mk (below_step (hkS HB) hb); clear HB; have HO432 := n0_; have HO435 := n1_; have HB := n2_; clear n0_ n1_ n2_; (try clear hb); (try clear hb2); (try clear hk); (try clear hi); (try clear ho0); (try clear ho1)) | ((with_reducible refine gate_dst (N := 3) rfl ?_); (try (refine gate_guard (by rfl) ?_; dsimp only)); refine box_event ?hg (N := 3) ?hd (cs := #[.slice none 0 0]) (t := 38) ?hr ?_; (case hd => rfl); (case hg => rfl); (case hr => first | (go_simp; done) | (go_simp; rfl)); intro gb436 hg w6 hbox hb; have n0_ := hkRb HO432 hb; have n1_ := hkRb HO435 hb; have n2_ := Aside0.mk (below_step (hkS HB) hb); have n3_ := Aside0.mk (hbox); have n4_ := hkG hg (hkS HB); have n5_ := hkG hg (hkS HB); clear HO432; clear HO435; clear HB; have HO432 := n0_; have HO435 := n1_; have HB := n2_; have BK436 := n3_; have GW436 := n4_; have GE436 := n5_; clear n0_ n1_ n2_ n3_ n4_ n5_; clear hb hbox hg) | ((with_reducible refine gate_dst (N := 4) rfl ?_); (try (refine gate_guard (by rfl) ?_; dsimp only)); refine box_event ?hg (N := 4) ?hd (cs := #[.slice none 0 0]) (t := 38) ?hr ?_; (case hd => rfl); (case hg => rfl); (case hr => first | (go_simp; done) | (go_simp; rfl)); intro gb437 hg w7 hbox hb; have n0_ := hkRb HO432 hb; have n1_ := hkRb HO435 hb; have n2_ := hkBb BK436 hb; have n3_ := Aside0.mk (below_step (hkS HB) hb); have n4_ := Aside0.mk (hbox); have n5_ := hkG hg (hkS HB); have n6_ := hkG hg (hkS HB); have n7_ := hkN hg BK436; have n8_ := hkM hg BK436; clear HO432; clear HO435; clear BK436; clear HB; have HO432 := n0_; have HO435 := n1_; have BK436 := n2_; have HB := n3_; have BK437 := n4_; have GW437 := n5_; have GE437 := n6_; have NB436_437 := n7_; have NB437_436 := n8_; clear n0_ n1_ n2_ n3_ n4_ n5_ n6_ n7_ n8_; clear hb hbox hg; obtain ⟨Ao8, co8, eo8⟩ := Kd.R_slice HO432.out; subst eo8; have hnb9 := NB436_437.out; have hnc9 := NB437_436.out; have hcz10_0 : w7.cell? ⟨gb436, 0, none⟩ = some (.slice none 0 0) := (blk_cell BK436.out 0).trans rfl; have hfz10_0 := blk_frozen BK436.out 0; obtain ⟨Ao11, co11, eo11⟩ := Kd.R_slice HO435.out; subst eo11; have hcz12_0 : w7.cell? ⟨gb437, 0, none⟩ = some (.slice none 0 0) := (blk_cell BK437.out 0).trans rfl; have hfz12_0 := blk_frozen BK437.out 0) | ((with_reducible refine gate_callee (f := 19) rfl ?_); refine goesL_ (some 19) rfl rfl Try.func19 (by kernel_rfl) rfl #[.agg #[.slice Ao8 t430.length co8], .agg #[.slice Ao11 t433.length co11]] rfl hkL ?_; (with_reducible refine (impl_NatGcd.calls k _ _ t430 _ _ t433 t438 _ ?side1 ?side2 ?side3 ?side4 A3.out).mono ?_); (case side1 => refine (Kd.R_reads' (e := 3) (base := w.heap.size) (ok := fun k_ => some k_ ≠ (.slice Ao11 t433.length co11 : Value).ownBlock) (n := t430.length) (c := co8) ?_).2.2; exact (by (with_reducible repeat (first | apply Kd.R_alloc | apply Kd.R_drewN | apply Kd.R_drew)); exact (Kd.R_mono (Kd.R_mono (Kd.R_far (p := ⟨gb437, 0, none⟩) (Kd.R_far (p := ⟨gb436, 0, none⟩) (Kd.R_types (Kd.R_types HO432.out BK436.out (by decide)) BK437.out (by decide)) (fun _ hk => hk.1.2) (.slice Ao8 t430.length co8)) (fun _ hk => hk.2) (.slice Ao11 t433.length co11)) (fun _ h_ => h_.1)) (fun _ h_ => h_.1)))); (case side2 => exact (Kd.R_reads' HO432.out).2.1); (case side3 => refine (Kd.R_reads' (e := 3) (base := w.heap.size) (ok := fun k_ => some k_ ≠ (.slice Ao8 t430.length co8 : Value).ownBlock) (n := t433.length) (c := co11) ?_).2.2; exact (by (with_reducible repeat (first | apply Kd.R_alloc | apply Kd.R_drewN | apply Kd.R_drew)); exact (Kd.R_mono (Kd.R_mono (Kd.R_far (p := ⟨gb437, 0, none⟩) (Kd.R_far (p := ⟨gb436, 0, none⟩) (Kd.R_types (Kd.R_types HO435.out BK436.out (by decide)) BK437.out (by decide)) (fun _ hk => hk.1.2) (.slice Ao8 t430.length co8)) (fun _ hk => hk.2) (.slice Ao11 t433.length co11)) (fun _ h_ => h_.1)) (fun _ h_ => h_.1)))); (case side4 => exact (Kd.R_reads' HO435.out).2.1); rintro e w13 ⟨v439, rfl, ho0, hb⟩; refine ⟨_, rfl, ?_⟩; have n0_ := Aside0.mk (Kd.R_elder' (by (with_reducible repeat (first | apply Kd.R_alloc | apply Kd.R_drewN | apply Kd.R_drew)); exact (Kd.R_mono (Kd.R_mono (Kd.R_far (p := ⟨gb437, 0, none⟩) (Kd.R_far (p := ⟨gb436, 0, none⟩) (Kd.R_types (Kd.R_types HO432.out BK436.out (by decide)) BK437.out (by decide)) (fun _ hk => hk.1.2) (.slice Ao8 t430.length co8)) (fun _ hk => hk.2) (.slice Ao11 t433.length co11)) (fun _ h_ => h_.1)) (fun _ h_ => h_.1))) (Kd.R_base ho0) hb); have n1_ := Aside0.mk (Kd.R_elder' (by (with_reducible repeat (first | apply Kd.R_alloc | apply Kd.R_drewN | apply Kd.R_drew)); exact (Kd.R_mono (Kd.R_mono (Kd.R_far (p := ⟨gb437, 0, none⟩) (Kd.R_far (p := ⟨gb436, 0, none⟩) (Kd.R_types (Kd.R_types HO435.out BK436.out (by decide)) BK437.out (by decide)) (fun _ hk => hk.1.2) (.slice Ao8 t430.length co8)) (fun _ hk => hk.2) (.slice Ao11 t433.length co11)) (fun _ h_ => h_.1)) (fun _ h_ => h_.1))) (Kd.R_base ho0) hb); have n2_ := Aside0.mk (Kd.R_lower (Kd.R_new' (Kd.R_new' ho0 (Kd.R_lt (by (with_reducible repeat (first | apply Kd.R_alloc | apply Kd.R_drewN | apply Kd.R_drew)); exact (Kd.R_mono (Kd.R_mono (Kd.R_far (p := ⟨gb437, 0, none⟩) (Kd.R_far (p := ⟨gb436, 0, none⟩) (Kd.R_types (Kd.R_types HO432.out BK436.out (by decide)) BK437.out (by decide)) (fun _ hk => hk.1.2) (.slice Ao8 t430.length co8)) (fun _ hk => hk.2) (.slice Ao11 t433.length co11)) (fun _ h_ => h_.1)) (fun _ h_ => h_.1))))) (Kd.R_lt (by (with_reducible repeat (first | apply Kd.R_alloc | apply Kd.R_drewN | apply Kd.R_drew)); exact (Kd.R_mono (Kd.R_mono (Kd.R_far (p := ⟨gb437, 0, none⟩) (Kd.R_far (p := ⟨gb436, 0, none⟩) (Kd.R_types (Kd.R_types HO435.out BK436.out (by decide)) BK437.out (by decide)) (fun _ hk => hk.1.2) (.slice Ao8 t430.length co8)) (fun _ hk => hk.2) (.slice Ao11 t433.length co11)) (fun _ h_ => h_.1)) (fun _ h_ => h_.1))))) (below_size (hkS HB))); have n3_ := Aside0.mk (blk_below (g := gb436) (o := .cells #[.slice Ao8 t430.length co8] 38 (0, 0)) (by (with_reducible repeat (first | refine blk_drewN ?_ _ | refine blk_drew ?_ | refine blk_alloc ?_ _)); refine blk_far ?_ NB436_437.out _; (with_reducible repeat (first | refine blk_drewN ?_ _ | refine blk_drew ?_ | refine blk_alloc ?_ _)); refine blk_put (cs := #[.slice none 0 0]) ?_ 0 _ rfl; (with_reducible repeat (first | refine blk_drewN ?_ _ | refine blk_drew ?_ | refine blk_alloc ?_ _)); exact BK436.out) hb); have n4_ := Aside0.mk (blk_below (g := gb437) (o := .cells #[.slice Ao11 t433.length co11] 38 (0, 0)) (by (with_reducible repeat (first | refine blk_drewN ?_ _ | refine blk_drew ?_ | refine blk_alloc ?_ _)); refine blk_put (cs := #[.slice none 0 0]) ?_ 0 _ rfl; (with_reducible repeat (first | refine blk_drewN ?_ _ | refine blk_drew ?_ | refine blk_alloc ?_ _)); refine blk_far ?_ NB437_436.out _; (with_reducible repeat (first | refine blk_drewN ?_ _ | refine blk_drew ?_ | refine blk_alloc ?_ _)); exact BK437.out) hb); have n5_ := Aside0.mk (below_step (hkS HB) hb); clear HO432; clear HO435; clear BK436; clear BK437; clear HB; have HO432 := n0_; have HO435 := n1_; have HO440 := n2_; have BK436 := n3_; have BK437 := n4_; have HB := n5_; clear n0_ n1_ n2_ n3_ n4_ n5_; (try clear hb); (try clear hb2); (try clear hk); (try clear hi); (try clear ho0)) | ((with_reducible refine gate_dst (N := 5) rfl ?_); (try (refine gate_guard (by rfl) ?_; dsimp only)); refine box_event ?hg (N := 5) ?hd (cs := #[.slice none 0 0]) (t := 38) ?hr ?_; (case hd => rfl); (case hg => rfl); (case hr => first | (go_simp; done) | (go_simp; rfl)); intro gb441 hg w14 hbox hb; have n0_ := hkRb HO432 hb; have n1_ := hkRb HO435 hb; have n2_ := hkRb HO440 hb; have n3_ := hkBb BK436 hb; have n4_ := hkBb BK437 hb; have n5_ := Aside0.mk (below_step (hkS HB) hb); have n6_ := Aside0.mk (hbox); have n7_ := hkG hg (hkS HB); have n8_ := hkG hg (hkS HB); have n9_ := hkN hg BK436; have n10_ := hkM hg BK436; have n11_ := hkN hg BK437; have n12_ := hkM hg BK437; clear HO432; clear HO435; clear HO440; clear BK436; clear BK437; clear HB; have HO432 := n0_; have HO435 := n1_; have HO440 := n2_; have BK436 := n3_; have BK437 := n4_; have HB := n5_; have BK441 := n6_; have GW441 := n7_; have GE441 := n8_; have NB436_441 := n9_; have NB441_436 := n10_; have NB437_441 := n11_; have NB441_437 := n12_; clear n0_ n1_ n2_ n3_ n4_ n5_ n6_ n7_ n8_ n9_ n10_ n11_ n12_; clear hb hbox hg; obtain ⟨Ao15, co15, eo15⟩ := Kd.R_slice HO440.out; subst eo15; have hnb16 := NB441_436.out; have hnc16 := NB436_441.out; have hnb17 := NB441_437.out; have hnc17 := NB437_441.out; have hcz18_0 : w14.cell? ⟨gb441, 0, none⟩ = some (.slice none 0 0) := (blk_cell BK441.out 0).trans rfl; have hfz18_0 := blk_frozen BK441.out 0))
  (try simp only [Act.put, List.setIfInBounds_toArray, List.set_cons_zero, List.set_cons_succ])
  go_cut [27] (fun v27 wc => ∃ (kq : Nat) (x27_3 : Bool), v27 = .bool x27_3 ∧ Aside0 (laws_FnNatGcds.j0 kq x27_3 t430 t433 t438 = some true) ∧ Aside0 (kq ≤ k) ∧ Aside0 (Kd.R (Kd.int .i64) 3 wc w.heap.size (fun k_ => some k_ ≠ ((.slice Ao11 t433.length co11) : Value).ownBlock ∧ some k_ ≠ ((.slice Ao15 t438.length co15) : Value).ownBlock) (.slice Ao8 t430.length co8) t430) ∧ Aside0 (Kd.R (Kd.int .i64) 3 wc w.heap.size (fun k_ => some k_ ≠ ((.slice Ao8 t430.length co8) : Value).ownBlock ∧ some k_ ≠ ((.slice Ao15 t438.length co15) : Value).ownBlock) (.slice Ao11 t433.length co11) t433) ∧ Aside0 (Kd.R (Kd.int .i64) 3 wc w.heap.size (fun k_ => some k_ ≠ ((.slice Ao8 t430.length co8) : Value).ownBlock ∧ some k_ ≠ ((.slice Ao11 t433.length co11) : Value).ownBlock) (.slice Ao15 t438.length co15) t438) ∧ Aside0 (wc.heap[gb436]? = some (.cells #[(.slice Ao8 t430.length co8)] 38 (0, 0))) ∧ Aside0 (wc.heap[gb437]? = some (.cells #[(.slice Ao11 t433.length co11)] 38 (0, 0))) ∧ Aside0 (wc.heap[gb441]? = some (.cells #[(.slice Ao15 t438.length co15)] 38 (0, 0))) ∧ Aside0 (Below w.heap.size w wc))
  case first =>
    have H := HC4.out
    clear HC4
    replace H := Option.bind_eq_some_iff.mp H
    obtain ⟨t442, A190, H⟩ := H
    replace H : (if t442 = true then ((spec_NatOk.f k t433).bind fun t443 => (laws_FnNatGcds.j0 k (!t443) t430 t433 t438)) else (laws_FnNatGcds.j0 k true t430 t433 t438)) = some true := H
    have A19 := Aside0.mk A190
    clear A190
    by_cases c20 : t442 = true
    · subst c20
      have H1 : ((spec_NatOk.f k t433).bind fun t443 => (laws_FnNatGcds.j0 k (!t443) t430 t433 t438)) = some true := by rw [if_pos rfl] at H; exact H
      clear H
      have H := H1
      clear H1
      replace H := Option.bind_eq_some_iff.mp H
      obtain ⟨t443, A210, H⟩ := H
      replace H : (laws_FnNatGcds.j0 k (!t443) t430 t433 t438) = some true := H
      have A21 := Aside0.mk A210
      clear A210
      have H' := Aside0.mk H
      clear H
      have hnb22 := NB436_437.out
      have hnc22 := NB437_436.out
      have hnb23 := NB436_441.out
      have hnc23 := NB441_436.out
      have hcz24_0 : w14.cell? ⟨gb436, 0, none⟩ = some (.slice Ao8 t430.length co8) := (blk_cell BK436.out 0).trans rfl
      have hfz24_0 := blk_frozen BK436.out 0
      go_wp2_with (first | ((with_reducible refine gate_callee (f := 20) rfl ?_); refine goesL_ (some 21) rfl rfl Try.func20 (by kernel_rfl) rfl #[.agg #[.slice Ao8 t430.length co8]] rfl hkL ?_; (with_reducible refine (spec_NatOk.calls k _ _ t430 true _ ?side1 ?side2 A19.out).mono ?_); (case side1 => refine (Kd.R_reads' (e := 3) (base := w.heap.size) (ok := fun k_ => (some k_ ≠ (.slice Ao11 t433.length co11 : Value).ownBlock ∧ some k_ ≠ (.slice Ao15 t438.length co15 : Value).ownBlock)) (n := t430.length) (c := co8) ?_).2.2; exact (by (with_reducible repeat (first | apply Kd.R_alloc | apply Kd.R_drewN | apply Kd.R_drew)); exact (Kd.R_mono (Kd.R_far (p := ⟨gb441, 0, none⟩) (Kd.R_types HO432.out BK441.out (by decide)) (fun _ hk => hk.2) (.slice Ao15 t438.length co15)) (fun _ h_ => h_.1)))); (case side2 => exact (Kd.R_reads' HO432.out).2.1); rintro e w25 ⟨rfl, hb⟩; refine ⟨_, rfl, ?_⟩; have n0_ := Aside0.mk (Kd.R_below (by (with_reducible repeat (first | apply Kd.R_alloc | apply Kd.R_drewN | apply Kd.R_drew)); exact (Kd.R_mono (Kd.R_far (p := ⟨gb441, 0, none⟩) (Kd.R_types HO432.out BK441.out (by decide)) (fun _ hk => hk.2) (.slice Ao15 t438.length co15)) (fun _ h_ => h_.1))) hb); have n1_ := Aside0.mk (Kd.R_below (by (with_reducible repeat (first | apply Kd.R_alloc | apply Kd.R_drewN | apply Kd.R_drew)); exact (Kd.R_mono (Kd.R_far (p := ⟨gb441, 0, none⟩) (Kd.R_types HO435.out BK441.out (by decide)) (fun _ hk => hk.2) (.slice Ao15 t438.length co15)) (fun _ h_ => h_.1))) hb); have n2_ := Aside0.mk (Kd.R_below (by (with_reducible repeat (first | apply Kd.R_alloc | apply Kd.R_drewN | apply Kd.R_drew)); exact (Kd.R_mono (Kd.R_far (p := ⟨gb441, 0, none⟩) (Kd.R_types HO440.out BK441.out (by decide)) (fun _ hk => hk.2) (.slice Ao15 t438.length co15)) (fun _ h_ => h_.1))) hb); have n3_ := Aside0.mk (blk_below (g := gb436) (o := .cells #[.slice Ao8 t430.length co8] 38 (0, 0)) (by (with_reducible repeat (first | refine blk_drewN ?_ _ | refine blk_drew ?_ | refine blk_alloc ?_ _)); refine blk_far ?_ NB436_441.out _; (with_reducible repeat (first | refine blk_drewN ?_ _ | refine blk_drew ?_ | refine blk_alloc ?_ _)); exact BK436.out) hb); have n4_ := Aside0.mk (blk_below (g := gb437) (o := .cells #[.slice Ao11 t433.length co11] 38 (0, 0)) (by (with_reducible repeat (first | refine blk_drewN ?_ _ | refine blk_drew ?_ | refine blk_alloc ?_ _)); refine blk_far ?_ NB437_441.out _; (with_reducible repeat (first | refine blk_drewN ?_ _ | refine blk_drew ?_ | refine blk_alloc ?_ _)); exact BK437.out) hb); have n5_ := Aside0.mk (blk_below (g := gb441) (o := .cells #[.slice Ao15 t438.length co15] 38 (0, 0)) (by (with_reducible repeat (first | refine blk_drewN ?_ _ | refine blk_drew ?_ | refine blk_alloc ?_ _)); refine blk_put (cs := #[.slice none 0 0]) ?_ 0 _ rfl; (with_reducible repeat (first | refine blk_drewN ?_ _ | refine blk_drew ?_ | refine blk_alloc ?_ _)); exact BK441.out) hb); have n6_ := Aside0.mk (below_step (hkS HB) hb); clear HO432; clear HO435; clear HO440; clear BK436; clear BK437; clear BK441; clear HB; have HO432 := n0_; have HO435 := n1_; have HO440 := n2_; have BK436 := n3_; have BK437 := n4_; have BK441 := n5_; have HB := n6_; clear n0_ n1_ n2_ n3_ n4_ n5_ n6_; (try clear hb); (try clear hb2); (try clear hk); (try clear hi); have hnb26 := NB437_441.out; have hnc26 := NB441_437.out; have hcz27_0 : w25.cell? ⟨gb437, 0, none⟩ = some (.slice Ao11 t433.length co11) := (blk_cell BK437.out 0).trans rfl; have hfz27_0 := blk_frozen BK437.out 0) | (go_at_call 20; (with_reducible refine (spec_NatOk.calls k _ _ t433 t443 _ ?side1 ?side2 A21.out).mono ?_); (case side1 => repeat (first | exact (Kd.R_reads' HO435.out).2.2 | (with_reducible refine Kd.C_alloc ?_ _) | (with_reducible refine Kd.C_drewN ?_ _) | (with_reducible refine Kd.C_drew ?_))); (case side2 => exact (Kd.R_reads' HO435.out).2.1); rintro e w28 ⟨rfl, hb⟩; have n0_ := hkRb HO432 hb; have n1_ := hkRb HO435 hb; have n2_ := hkRb HO440 hb; have n3_ := hkBb BK436 hb; have n4_ := hkBb BK437 hb; have n5_ := hkBb BK441 hb; have n6_ := Aside0.mk (below_step (hkS HB) hb); clear HO432; clear HO435; clear HO440; clear BK436; clear BK437; clear BK441; clear HB; have HO432 := n0_; have HO435 := n1_; have HO440 := n2_; have BK436 := n3_; have BK437 := n4_; have BK441 := n5_; have HB := n6_; clear n0_ n1_ n2_ n3_ n4_ n5_ n6_; (try clear hb); (try clear hb2); (try clear hk); (try clear hi)))
      go_meet
      case rel => exact ⟨_, (!t443), (by first | rfl | (simp; done) | (simp [*]; done)), H', ⟨by first | omega | exact Nat.le_refl _⟩, ⟨by (with_reducible repeat (first | apply Kd.R_alloc | apply Kd.R_drewN | apply Kd.R_drew)); exact HO432.out⟩, ⟨by (with_reducible repeat (first | apply Kd.R_alloc | apply Kd.R_drewN | apply Kd.R_drew)); exact HO435.out⟩, ⟨by (with_reducible repeat (first | apply Kd.R_alloc | apply Kd.R_drewN | apply Kd.R_drew)); exact Kd.R_mono HO440.out (fun _ hk => ⟨hk.1.2, hk.2⟩)⟩, ⟨by (with_reducible repeat (first | refine blk_drewN ?_ _ | refine blk_drew ?_ | refine blk_alloc ?_ _)); exact BK436.out⟩, ⟨by (with_reducible repeat (first | refine blk_drewN ?_ _ | refine blk_drew ?_ | refine blk_alloc ?_ _)); exact BK437.out⟩, ⟨by (with_reducible repeat (first | refine blk_drewN ?_ _ | refine blk_drew ?_ | refine blk_alloc ?_ _)); exact BK441.out⟩, ⟨by repeat (first | (with_reducible first | exact HB.out | apply below_alloc | apply pw_below_drewN | apply below_drew1 | refine below_set ?_ GE436.out | refine below_set ?_ GE437.out | refine below_set ?_ GE441.out) | exact HB.out)⟩⟩
    · replace c20 := Bool.eq_false_iff.mpr c20
      subst c20
      have H1 : (laws_FnNatGcds.j0 k true t430 t433 t438) = some true := by rw [if_neg (show ¬ (false = true) by decide)] at H; exact H
      clear H
      have H := H1
      clear H1
      have H' := Aside0.mk H
      clear H
      have hnb29 := NB436_437.out
      have hnc29 := NB437_436.out
      have hnb30 := NB436_441.out
      have hnc30 := NB441_436.out
      have hcz31_0 : w14.cell? ⟨gb436, 0, none⟩ = some (.slice Ao8 t430.length co8) := (blk_cell BK436.out 0).trans rfl
      have hfz31_0 := blk_frozen BK436.out 0
      go_wp2_with (first | ((with_reducible refine gate_callee (f := 20) rfl ?_); refine goesL_ (some 21) rfl rfl Try.func20 (by kernel_rfl) rfl #[.agg #[.slice Ao8 t430.length co8]] rfl hkL ?_; (with_reducible refine (spec_NatOk.calls k _ _ t430 false _ ?side1 ?side2 A19.out).mono ?_); (case side1 => refine (Kd.R_reads' (e := 3) (base := w.heap.size) (ok := fun k_ => (some k_ ≠ (.slice Ao11 t433.length co11 : Value).ownBlock ∧ some k_ ≠ (.slice Ao15 t438.length co15 : Value).ownBlock)) (n := t430.length) (c := co8) ?_).2.2; exact (by (with_reducible repeat (first | apply Kd.R_alloc | apply Kd.R_drewN | apply Kd.R_drew)); exact (Kd.R_mono (Kd.R_far (p := ⟨gb441, 0, none⟩) (Kd.R_types HO432.out BK441.out (by decide)) (fun _ hk => hk.2) (.slice Ao15 t438.length co15)) (fun _ h_ => h_.1)))); (case side2 => exact (Kd.R_reads' HO432.out).2.1); rintro e w32 ⟨rfl, hb⟩; refine ⟨_, rfl, ?_⟩; have n0_ := Aside0.mk (Kd.R_below (by (with_reducible repeat (first | apply Kd.R_alloc | apply Kd.R_drewN | apply Kd.R_drew)); exact (Kd.R_mono (Kd.R_far (p := ⟨gb441, 0, none⟩) (Kd.R_types HO432.out BK441.out (by decide)) (fun _ hk => hk.2) (.slice Ao15 t438.length co15)) (fun _ h_ => h_.1))) hb); have n1_ := Aside0.mk (Kd.R_below (by (with_reducible repeat (first | apply Kd.R_alloc | apply Kd.R_drewN | apply Kd.R_drew)); exact (Kd.R_mono (Kd.R_far (p := ⟨gb441, 0, none⟩) (Kd.R_types HO435.out BK441.out (by decide)) (fun _ hk => hk.2) (.slice Ao15 t438.length co15)) (fun _ h_ => h_.1))) hb); have n2_ := Aside0.mk (Kd.R_below (by (with_reducible repeat (first | apply Kd.R_alloc | apply Kd.R_drewN | apply Kd.R_drew)); exact (Kd.R_mono (Kd.R_far (p := ⟨gb441, 0, none⟩) (Kd.R_types HO440.out BK441.out (by decide)) (fun _ hk => hk.2) (.slice Ao15 t438.length co15)) (fun _ h_ => h_.1))) hb); have n3_ := Aside0.mk (blk_below (g := gb436) (o := .cells #[.slice Ao8 t430.length co8] 38 (0, 0)) (by (with_reducible repeat (first | refine blk_drewN ?_ _ | refine blk_drew ?_ | refine blk_alloc ?_ _)); refine blk_far ?_ NB436_441.out _; (with_reducible repeat (first | refine blk_drewN ?_ _ | refine blk_drew ?_ | refine blk_alloc ?_ _)); exact BK436.out) hb); have n4_ := Aside0.mk (blk_below (g := gb437) (o := .cells #[.slice Ao11 t433.length co11] 38 (0, 0)) (by (with_reducible repeat (first | refine blk_drewN ?_ _ | refine blk_drew ?_ | refine blk_alloc ?_ _)); refine blk_far ?_ NB437_441.out _; (with_reducible repeat (first | refine blk_drewN ?_ _ | refine blk_drew ?_ | refine blk_alloc ?_ _)); exact BK437.out) hb); have n5_ := Aside0.mk (blk_below (g := gb441) (o := .cells #[.slice Ao15 t438.length co15] 38 (0, 0)) (by (with_reducible repeat (first | refine blk_drewN ?_ _ | refine blk_drew ?_ | refine blk_alloc ?_ _)); refine blk_put (cs := #[.slice none 0 0]) ?_ 0 _ rfl; (with_reducible repeat (first | refine blk_drewN ?_ _ | refine blk_drew ?_ | refine blk_alloc ?_ _)); exact BK441.out) hb); have n6_ := Aside0.mk (below_step (hkS HB) hb); clear HO432; clear HO435; clear HO440; clear BK436; clear BK437; clear BK441; clear HB; have HO432 := n0_; have HO435 := n1_; have HO440 := n2_; have BK436 := n3_; have BK437 := n4_; have BK441 := n5_; have HB := n6_; clear n0_ n1_ n2_ n3_ n4_ n5_ n6_; (try clear hb); (try clear hb2); (try clear hk); (try clear hi)))
      go_meet
      case rel => exact ⟨_, (true), (by first | rfl | (simp; done) | (simp [*]; done)), H', ⟨by first | omega | exact Nat.le_refl _⟩, ⟨by (with_reducible repeat (first | apply Kd.R_alloc | apply Kd.R_drewN | apply Kd.R_drew)); exact HO432.out⟩, ⟨by (with_reducible repeat (first | apply Kd.R_alloc | apply Kd.R_drewN | apply Kd.R_drew)); exact HO435.out⟩, ⟨by (with_reducible repeat (first | apply Kd.R_alloc | apply Kd.R_drewN | apply Kd.R_drew)); exact Kd.R_mono HO440.out (fun _ hk => ⟨hk.1.2, hk.2⟩)⟩, ⟨by (with_reducible repeat (first | refine blk_drewN ?_ _ | refine blk_drew ?_ | refine blk_alloc ?_ _)); exact BK436.out⟩, ⟨by (with_reducible repeat (first | refine blk_drewN ?_ _ | refine blk_drew ?_ | refine blk_alloc ?_ _)); exact BK437.out⟩, ⟨by (with_reducible repeat (first | refine blk_drewN ?_ _ | refine blk_drew ?_ | refine blk_alloc ?_ _)); exact BK441.out⟩, ⟨by repeat (first | (with_reducible first | exact HB.out | apply below_alloc | apply pw_below_drewN | apply below_drew1 | refine below_set ?_ GE436.out | refine below_set ?_ GE437.out | refine below_set ?_ GE441.out) | exact HB.out)⟩⟩
  case rest =>
    clear HC4
    try clear c1
    try clear c2
    try clear p2
    try clear c3
    try clear c5
    try clear c9
    try clear c16
    try clear c17
    try clear c18
    try clear c19
    try clear c20
    try clear c22
    try clear c23
    try clear c26
    try clear c29
    try clear c30
    try clear hcz10_0
    try clear hcz12_0
    try clear hcz18_0
    try clear hcz24_0
    try clear hcz27_0
    try clear hcz31_0
    try clear hfz10_0
    try clear hfz12_0
    try clear hfz18_0
    try clear hfz24_0
    try clear hfz27_0
    try clear hfz31_0
    obtain ⟨kq, x27_3, rfl, HA, HJ3, HO_437000, HO_438000, HO_442000, BK436, BK437, BK441, HB⟩ := hcut
    cases kq with
    | zero => exact absurd HA.out (by simp [laws_FnNatGcds.j0])
    | succ kj3 =>
      have H := HA.out
      clear HA
      simp only [laws_FnNatGcds.j0] at H
      by_cases c33 : x27_3 = true
      · subst c33
        have H1 : (if (t438.length : Int) = 0 then ((laws_nat.f kj3 6).bind fun t444 => ((laws_nat.f kj3 4).bind fun t447 => ((impl_NatGcd.f kj3 t444 t447).bind fun t450 => ((laws_nat.f kj3 2).bind fun t453 => ((laws_sameNat.f kj3 t450 t453).bind fun t456 => (some t456)))))) else (some false)) = some true := by rw [if_pos rfl] at H; exact H
        clear H
        have H := H1
        clear H1
        by_cases c34 : (t438.length : Int) = 0
        · rw [if_pos c34] at H
          have c34b0 : ((t438.length : Int) == 0) = true := beq_iff_eq.mpr c34
          have c34b1 : ((t438.length : Int) != 0) = false := bne_eq_false_iff_eq.mpr c34
          clear c34
          replace H := Option.bind_eq_some_iff.mp H
          obtain ⟨t444, A350, H⟩ := H
          replace H : ((laws_nat.f kj3 4).bind fun t447 => ((impl_NatGcd.f kj3 t444 t447).bind fun t450 => ((laws_nat.f kj3 2).bind fun t453 => ((laws_sameNat.f kj3 t450 t453).bind fun t456 => (some t456))))) = some true := H
          have A35 := Aside0.mk A350
          clear A350
          replace H := Option.bind_eq_some_iff.mp H
          obtain ⟨t447, A360, H⟩ := H
          replace H : ((impl_NatGcd.f kj3 t444 t447).bind fun t450 => ((laws_nat.f kj3 2).bind fun t453 => ((laws_sameNat.f kj3 t450 t453).bind fun t456 => (some t456)))) = some true := H
          have A36 := Aside0.mk A360
          clear A360
          replace H := Option.bind_eq_some_iff.mp H
          obtain ⟨t450, A370, H⟩ := H
          replace H : ((laws_nat.f kj3 2).bind fun t453 => ((laws_sameNat.f kj3 t450 t453).bind fun t456 => (some t456))) = some true := H
          have A37 := Aside0.mk A370
          clear A370
          replace H := Option.bind_eq_some_iff.mp H
          obtain ⟨t453, A380, H⟩ := H
          replace H : ((laws_sameNat.f kj3 t450 t453).bind fun t456 => (some t456)) = some true := H
          have A38 := Aside0.mk A380
          clear A380
          replace H := Option.bind_eq_some_iff.mp H
          obtain ⟨t456, A390, H⟩ := H
          replace H : (some t456) = some true := H
          have A39 := Aside0.mk A390
          clear A390
          have hr_ := Option.some.inj H
          clear H
          have hnb40 := NB441_436.out
          have hnc40 := NB436_441.out
          have hnb41 := NB441_437.out
          have hnc41 := NB437_441.out
          have hcz42_0 : wc.cell? ⟨gb441, 0, none⟩ = some (.slice Ao15 t438.length co15) := (blk_cell BK441.out 0).trans rfl
          have hfz42_0 := blk_frozen BK441.out 0
          go_wp2_with (first | (go_at_call 22; (with_reducible refine (laws_nat.calls kj3 6 t444 _ A35.out).mono ?_); rintro e w43 ⟨v445, rfl, ho0, hb⟩; have n0_ := Aside0.mk (Kd.R_elder' (hkR HO_437000) (Kd.R_base ho0) hb); have n1_ := Aside0.mk (Kd.R_elder' (hkR HO_438000) (Kd.R_base ho0) hb); have n2_ := Aside0.mk (Kd.R_elder' (hkR HO_442000) (Kd.R_base ho0) hb); have n3_ := Aside0.mk (Kd.R_lower (Kd.R_new' (Kd.R_new' (Kd.R_new' ho0 (Kd.R_lt (hkR HO_437000))) (Kd.R_lt (hkR HO_438000))) (Kd.R_lt (hkR HO_442000))) (below_size (hkS HB))); have n4_ := hkBb BK436 hb; have n5_ := hkBb BK437 hb; have n6_ := hkBb BK441 hb; have n7_ := Aside0.mk (below_step (hkS HB) hb); clear HO_437000; clear HO_438000; clear HO_442000; clear BK436; clear BK437; clear BK441; clear HB; have HO_437000 := n0_; have HO_438000 := n1_; have HO_442000 := n2_; have HO446 := n3_; have BK436 := n4_; have BK437 := n5_; have BK441 := n6_; have HB := n7_; clear n0_ n1_ n2_ n3_ n4_ n5_ n6_ n7_; (try clear hb); (try clear hb2); (try clear hk); (try clear hi); (try clear ho0)) | (go_at_call 22; (with_reducible refine (laws_nat.calls kj3 4 t447 _ A36.out).mono ?_); rintro e w44 ⟨v448, rfl, ho0, hb⟩; have n0_ := Aside0.mk (Kd.R_elder' (hkR HO_437000) (Kd.R_base ho0) hb); have n1_ := Aside0.mk (Kd.R_elder' (hkR HO_438000) (Kd.R_base ho0) hb); have n2_ := Aside0.mk (Kd.R_elder' (hkR HO_442000) (Kd.R_base ho0) hb); have n3_ := Aside0.mk (Kd.R_elder' (hkR HO446) (Kd.R_base ho0) hb); have n4_ := Aside0.mk (Kd.R_lower (Kd.R_new' (Kd.R_new' (Kd.R_new' (Kd.R_new' ho0 (Kd.R_lt (hkR HO_437000))) (Kd.R_lt (hkR HO_438000))) (Kd.R_lt (hkR HO_442000))) (Kd.R_lt (hkR HO446))) (below_size (hkS HB))); have n5_ := hkBb BK436 hb; have n6_ := hkBb BK437 hb; have n7_ := hkBb BK441 hb; have n8_ := Aside0.mk (below_step (hkS HB) hb); clear HO_437000; clear HO_438000; clear HO_442000; clear HO446; clear BK436; clear BK437; clear BK441; clear HB; have HO_437000 := n0_; have HO_438000 := n1_; have HO_442000 := n2_; have HO446 := n3_; have HO449 := n4_; have BK436 := n5_; have BK437 := n6_; have BK441 := n7_; have HB := n8_; clear n0_ n1_ n2_ n3_ n4_ n5_ n6_ n7_ n8_; (try clear hb); (try clear hb2); (try clear hk); (try clear hi); (try clear ho0); obtain ⟨Ao45, co45, eo45⟩ := Kd.R_slice HO446.out; subst eo45; obtain ⟨Ao46, co46, eo46⟩ := Kd.R_slice HO449.out; subst eo46) | (go_at_call 19; (with_reducible refine (impl_NatGcd.calls kj3 _ _ t444 _ _ t447 t450 _ ?side1 ?side2 ?side3 ?side4 A37.out).mono ?_); (case side1 => repeat (first | exact (Kd.R_reads' HO446.out).2.2 | (with_reducible refine Kd.C_alloc ?_ _) | (with_reducible refine Kd.C_drewN ?_ _) | (with_reducible refine Kd.C_drew ?_))); (case side2 => exact (Kd.R_reads' HO446.out).2.1); (case side3 => repeat (first | exact (Kd.R_reads' HO449.out).2.2 | (with_reducible refine Kd.C_alloc ?_ _) | (with_reducible refine Kd.C_drewN ?_ _) | (with_reducible refine Kd.C_drew ?_))); (case side4 => exact (Kd.R_reads' HO449.out).2.1); rintro e w47 ⟨v451, rfl, ho0, hb⟩; have n0_ := Aside0.mk (Kd.R_elder' (hkR HO_437000) (Kd.R_base ho0) hb); have n1_ := Aside0.mk (Kd.R_elder' (hkR HO_438000) (Kd.R_base ho0) hb); have n2_ := Aside0.mk (Kd.R_elder' (hkR HO_442000) (Kd.R_base ho0) hb); have n3_ := Aside0.mk (Kd.R_elder' (hkR HO446) (Kd.R_base ho0) hb); have n4_ := Aside0.mk (Kd.R_elder' (hkR HO449) (Kd.R_base ho0) hb); have n5_ := Aside0.mk (Kd.R_lower (Kd.R_new' (Kd.R_new' (Kd.R_new' (Kd.R_new' (Kd.R_new' ho0 (Kd.R_lt (hkR HO_437000))) (Kd.R_lt (hkR HO_438000))) (Kd.R_lt (hkR HO_442000))) (Kd.R_lt (hkR HO446))) (Kd.R_lt (hkR HO449))) (below_size (hkS HB))); have n6_ := hkBb BK436 hb; have n7_ := hkBb BK437 hb; have n8_ := hkBb BK441 hb; have n9_ := Aside0.mk (below_step (hkS HB) hb); clear HO_437000; clear HO_438000; clear HO_442000; clear HO446; clear HO449; clear BK436; clear BK437; clear BK441; clear HB; have HO_437000 := n0_; have HO_438000 := n1_; have HO_442000 := n2_; have HO446 := n3_; have HO449 := n4_; have HO452 := n5_; have BK436 := n6_; have BK437 := n7_; have BK441 := n8_; have HB := n9_; clear n0_ n1_ n2_ n3_ n4_ n5_ n6_ n7_ n8_ n9_; (try clear hb); (try clear hb2); (try clear hk); (try clear hi); (try clear ho0)) | (go_at_call 22; (with_reducible refine (laws_nat.calls kj3 2 t453 _ A38.out).mono ?_); rintro e w48 ⟨v454, rfl, ho0, hb⟩; have n0_ := Aside0.mk (Kd.R_elder' (hkR HO_437000) (Kd.R_base ho0) hb); have n1_ := Aside0.mk (Kd.R_elder' (hkR HO_438000) (Kd.R_base ho0) hb); have n2_ := Aside0.mk (Kd.R_elder' (hkR HO_442000) (Kd.R_base ho0) hb); have n3_ := Aside0.mk (Kd.R_elder' (hkR HO446) (Kd.R_base ho0) hb); have n4_ := Aside0.mk (Kd.R_elder' (hkR HO449) (Kd.R_base ho0) hb); have n5_ := Aside0.mk (Kd.R_elder' (hkR HO452) (Kd.R_base ho0) hb); have n6_ := Aside0.mk (Kd.R_lower (Kd.R_new' (Kd.R_new' (Kd.R_new' (Kd.R_new' (Kd.R_new' (Kd.R_new' ho0 (Kd.R_lt (hkR HO_437000))) (Kd.R_lt (hkR HO_438000))) (Kd.R_lt (hkR HO_442000))) (Kd.R_lt (hkR HO446))) (Kd.R_lt (hkR HO449))) (Kd.R_lt (hkR HO452))) (below_size (hkS HB))); have n7_ := hkBb BK436 hb; have n8_ := hkBb BK437 hb; have n9_ := hkBb BK441 hb; have n10_ := Aside0.mk (below_step (hkS HB) hb); clear HO_437000; clear HO_438000; clear HO_442000; clear HO446; clear HO449; clear HO452; clear BK436; clear BK437; clear BK441; clear HB; have HO_437000 := n0_; have HO_438000 := n1_; have HO_442000 := n2_; have HO446 := n3_; have HO449 := n4_; have HO452 := n5_; have HO455 := n6_; have BK436 := n7_; have BK437 := n8_; have BK441 := n9_; have HB := n10_; clear n0_ n1_ n2_ n3_ n4_ n5_ n6_ n7_ n8_ n9_ n10_; (try clear hb); (try clear hb2); (try clear hk); (try clear hi); (try clear ho0); obtain ⟨Ao49, co49, eo49⟩ := Kd.R_slice HO452.out; subst eo49; obtain ⟨Ao50, co50, eo50⟩ := Kd.R_slice HO455.out; subst eo50) | (go_at_call 21; (with_reducible refine (laws_sameNat.calls kj3 _ _ t450 _ _ t453 t456 _ ?side1 ?side2 ?side3 ?side4 A39.out).mono ?_); (case side1 => repeat (first | exact (Kd.R_reads' HO452.out).2.2 | (with_reducible refine Kd.C_alloc ?_ _) | (with_reducible refine Kd.C_drewN ?_ _) | (with_reducible refine Kd.C_drew ?_))); (case side2 => exact (Kd.R_reads' HO452.out).2.1); (case side3 => repeat (first | exact (Kd.R_reads' HO455.out).2.2 | (with_reducible refine Kd.C_alloc ?_ _) | (with_reducible refine Kd.C_drewN ?_ _) | (with_reducible refine Kd.C_drew ?_))); (case side4 => exact (Kd.R_reads' HO455.out).2.1); rintro e w51 ⟨rfl, hb⟩; have n0_ := hkRb HO_437000 hb; have n1_ := hkRb HO_438000 hb; have n2_ := hkRb HO_442000 hb; have n3_ := hkRb HO446 hb; have n4_ := hkRb HO449 hb; have n5_ := hkRb HO452 hb; have n6_ := hkRb HO455 hb; have n7_ := hkBb BK436 hb; have n8_ := hkBb BK437 hb; have n9_ := hkBb BK441 hb; have n10_ := Aside0.mk (below_step (hkS HB) hb); clear HO_437000; clear HO_438000; clear HO_442000; clear HO446; clear HO449; clear HO452; clear HO455; clear BK436; clear BK437; clear BK441; clear HB; have HO_437000 := n0_; have HO_438000 := n1_; have HO_442000 := n2_; have HO446 := n3_; have HO449 := n4_; have HO452 := n5_; have HO455 := n6_; have BK436 := n7_; have BK437 := n8_; have BK441 := n9_; have HB := n10_; clear n0_ n1_ n2_ n3_ n4_ n5_ n6_ n7_ n8_ n9_ n10_; (try clear hb); (try clear hb2); (try clear hk); (try clear hi)))
          go_ret
          exact ⟨by first | rfl | (rw [hr_]; done) | (simp [errW_none, errW_some] <;> rfl) | (simp [*, errW_none, errW_some] <;> rfl), by repeat (first | (with_reducible first | exact HB.out | apply below_alloc | apply pw_below_drewN | apply below_drew1 | refine below_set ?_ GE436.out | refine below_set ?_ GE437.out | refine below_set ?_ GE441.out) | exact HB.out)⟩
        · rw [if_neg c34] at H
          have c34b0 : ((t438.length : Int) == 0) = false := beq_eq_false_iff_ne.mpr c34
          have c34b1 : ((t438.length : Int) != 0) = true := bne_iff_ne.mpr c34
          have c34b2 : ¬ (t438 = []) := fun h_ => c34 (by rw [h_]; rfl)
          exact absurd (Option.some.inj H) (by decide)
      · replace c33 := Bool.eq_false_iff.mpr c33
        subst c33
        have H1 : (if (t438.length : Int) = 0 then (if (t430.length : Int) = 0 then (if (t433.length : Int) = 0 then ((laws_nat.f kj3 0).bind fun t457 => ((laws_nat.f kj3 4).bind fun t460 => ((impl_NatGcd.f kj3 t457 t460).bind fun t463 => ((laws_nat.f kj3 4).bind fun t466 => ((laws_sameNat.f kj3 t463 t466).bind fun t469 => (some t469)))))) else (some false)) else (some false)) else ((impl_NatDiv.f kj3 t430 t438).bind fun bt470 => ((impl_NatDiv.f kj3 t433 t438).bind fun bt479 => (if (bt470.2.1.length : Int) = 0 then (if (bt479.2.1.length : Int) = 0 then ((impl_NatGcd.f kj3 bt470.1 bt479.1).bind fun t488 => ((laws_nat.f kj3 1).bind fun t491 => ((laws_sameNat.f kj3 t488 t491).bind fun t494 => (if t494 = true then ((impl_NatGcd.f kj3 t433 t430).bind fun t495 => ((laws_sameNat.f kj3 t495 t438).bind fun t498 => (some t498))) else (some false))))) else (some false)) else (some false))))) = some true := by rw [if_neg (show ¬ (false = true) by decide)] at H; exact H
        clear H
        have H := H1
        clear H1
        by_cases c55 : (t438.length : Int) = 0
        · rw [if_pos c55] at H
          have c55b0 : ((t438.length : Int) == 0) = true := beq_iff_eq.mpr c55
          have c55b1 : ((t438.length : Int) != 0) = false := bne_eq_false_iff_eq.mpr c55
          clear c55
          by_cases c56 : (t430.length : Int) = 0
          · rw [if_pos c56] at H
            have c56b0 : ((t430.length : Int) == 0) = true := beq_iff_eq.mpr c56
            have c56b1 : ((t430.length : Int) != 0) = false := bne_eq_false_iff_eq.mpr c56
            clear c56
            by_cases c57 : (t433.length : Int) = 0
            · rw [if_pos c57] at H
              have c57b0 : ((t433.length : Int) == 0) = true := beq_iff_eq.mpr c57
              have c57b1 : ((t433.length : Int) != 0) = false := bne_eq_false_iff_eq.mpr c57
              clear c57
              replace H := Option.bind_eq_some_iff.mp H
              obtain ⟨t457, A580, H⟩ := H
              replace H : ((laws_nat.f kj3 4).bind fun t460 => ((impl_NatGcd.f kj3 t457 t460).bind fun t463 => ((laws_nat.f kj3 4).bind fun t466 => ((laws_sameNat.f kj3 t463 t466).bind fun t469 => (some t469))))) = some true := H
              have A58 := Aside0.mk A580
              clear A580
              replace H := Option.bind_eq_some_iff.mp H
              obtain ⟨t460, A590, H⟩ := H
              replace H : ((impl_NatGcd.f kj3 t457 t460).bind fun t463 => ((laws_nat.f kj3 4).bind fun t466 => ((laws_sameNat.f kj3 t463 t466).bind fun t469 => (some t469)))) = some true := H
              have A59 := Aside0.mk A590
              clear A590
              replace H := Option.bind_eq_some_iff.mp H
              obtain ⟨t463, A600, H⟩ := H
              replace H : ((laws_nat.f kj3 4).bind fun t466 => ((laws_sameNat.f kj3 t463 t466).bind fun t469 => (some t469))) = some true := H
              have A60 := Aside0.mk A600
              clear A600
              replace H := Option.bind_eq_some_iff.mp H
              obtain ⟨t466, A610, H⟩ := H
              replace H : ((laws_sameNat.f kj3 t463 t466).bind fun t469 => (some t469)) = some true := H
              have A61 := Aside0.mk A610
              clear A610
              replace H := Option.bind_eq_some_iff.mp H
              obtain ⟨t469, A620, H⟩ := H
              replace H : (some t469) = some true := H
              have A62 := Aside0.mk A620
              clear A620
              have hr_ := Option.some.inj H
              clear H
              have hnb63 := NB441_436.out
              have hnc63 := NB436_441.out
              have hnb64 := NB441_437.out
              have hnc64 := NB437_441.out
              have hcz65_0 : wc.cell? ⟨gb441, 0, none⟩ = some (.slice Ao15 t438.length co15) := (blk_cell BK441.out 0).trans rfl
              have hfz65_0 := blk_frozen BK441.out 0
              have hnb66 := NB436_437.out
              have hnc66 := NB437_436.out
              have hcz67_0 : wc.cell? ⟨gb436, 0, none⟩ = some (.slice Ao8 t430.length co8) := (blk_cell BK436.out 0).trans rfl
              have hfz67_0 := blk_frozen BK436.out 0
              have hcz68_0 : wc.cell? ⟨gb437, 0, none⟩ = some (.slice Ao11 t433.length co11) := (blk_cell BK437.out 0).trans rfl
              have hfz68_0 := blk_frozen BK437.out 0
              go_wp2_with (first | (go_at_call 22; (with_reducible refine (laws_nat.calls kj3 0 t457 _ A58.out).mono ?_); rintro e w69 ⟨v458, rfl, ho0, hb⟩; have n0_ := Aside0.mk (Kd.R_elder' (hkR HO_437000) (Kd.R_base ho0) hb); have n1_ := Aside0.mk (Kd.R_elder' (hkR HO_438000) (Kd.R_base ho0) hb); have n2_ := Aside0.mk (Kd.R_elder' (hkR HO_442000) (Kd.R_base ho0) hb); have n3_ := Aside0.mk (Kd.R_lower (Kd.R_new' (Kd.R_new' (Kd.R_new' ho0 (Kd.R_lt (hkR HO_437000))) (Kd.R_lt (hkR HO_438000))) (Kd.R_lt (hkR HO_442000))) (below_size (hkS HB))); have n4_ := hkBb BK436 hb; have n5_ := hkBb BK437 hb; have n6_ := hkBb BK441 hb; have n7_ := Aside0.mk (below_step (hkS HB) hb); clear HO_437000; clear HO_438000; clear HO_442000; clear BK436; clear BK437; clear BK441; clear HB; have HO_437000 := n0_; have HO_438000 := n1_; have HO_442000 := n2_; have HO459 := n3_; have BK436 := n4_; have BK437 := n5_; have BK441 := n6_; have HB := n7_; clear n0_ n1_ n2_ n3_ n4_ n5_ n6_ n7_; (try clear hb); (try clear hb2); (try clear hk); (try clear hi); (try clear ho0)) | (go_at_call 22; (with_reducible refine (laws_nat.calls kj3 4 t460 _ A59.out).mono ?_); rintro e w70 ⟨v461, rfl, ho0, hb⟩; have n0_ := Aside0.mk (Kd.R_elder' (hkR HO_437000) (Kd.R_base ho0) hb); have n1_ := Aside0.mk (Kd.R_elder' (hkR HO_438000) (Kd.R_base ho0) hb); have n2_ := Aside0.mk (Kd.R_elder' (hkR HO_442000) (Kd.R_base ho0) hb); have n3_ := Aside0.mk (Kd.R_elder' (hkR HO459) (Kd.R_base ho0) hb); have n4_ := Aside0.mk (Kd.R_lower (Kd.R_new' (Kd.R_new' (Kd.R_new' (Kd.R_new' ho0 (Kd.R_lt (hkR HO_437000))) (Kd.R_lt (hkR HO_438000))) (Kd.R_lt (hkR HO_442000))) (Kd.R_lt (hkR HO459))) (below_size (hkS HB))); have n5_ := hkBb BK436 hb; have n6_ := hkBb BK437 hb; have n7_ := hkBb BK441 hb; have n8_ := Aside0.mk (below_step (hkS HB) hb); clear HO_437000; clear HO_438000; clear HO_442000; clear HO459; clear BK436; clear BK437; clear BK441; clear HB; have HO_437000 := n0_; have HO_438000 := n1_; have HO_442000 := n2_; have HO459 := n3_; have HO462 := n4_; have BK436 := n5_; have BK437 := n6_; have BK441 := n7_; have HB := n8_; clear n0_ n1_ n2_ n3_ n4_ n5_ n6_ n7_ n8_; (try clear hb); (try clear hb2); (try clear hk); (try clear hi); (try clear ho0); obtain ⟨Ao71, co71, eo71⟩ := Kd.R_slice HO459.out; subst eo71; obtain ⟨Ao72, co72, eo72⟩ := Kd.R_slice HO462.out; subst eo72) | (go_at_call 19; (with_reducible refine (impl_NatGcd.calls kj3 _ _ t457 _ _ t460 t463 _ ?side1 ?side2 ?side3 ?side4 A60.out).mono ?_); (case side1 => repeat (first | exact (Kd.R_reads' HO459.out).2.2 | (with_reducible refine Kd.C_alloc ?_ _) | (with_reducible refine Kd.C_drewN ?_ _) | (with_reducible refine Kd.C_drew ?_))); (case side2 => exact (Kd.R_reads' HO459.out).2.1); (case side3 => repeat (first | exact (Kd.R_reads' HO462.out).2.2 | (with_reducible refine Kd.C_alloc ?_ _) | (with_reducible refine Kd.C_drewN ?_ _) | (with_reducible refine Kd.C_drew ?_))); (case side4 => exact (Kd.R_reads' HO462.out).2.1); rintro e w73 ⟨v464, rfl, ho0, hb⟩; have n0_ := Aside0.mk (Kd.R_elder' (hkR HO_437000) (Kd.R_base ho0) hb); have n1_ := Aside0.mk (Kd.R_elder' (hkR HO_438000) (Kd.R_base ho0) hb); have n2_ := Aside0.mk (Kd.R_elder' (hkR HO_442000) (Kd.R_base ho0) hb); have n3_ := Aside0.mk (Kd.R_elder' (hkR HO459) (Kd.R_base ho0) hb); have n4_ := Aside0.mk (Kd.R_elder' (hkR HO462) (Kd.R_base ho0) hb); have n5_ := Aside0.mk (Kd.R_lower (Kd.R_new' (Kd.R_new' (Kd.R_new' (Kd.R_new' (Kd.R_new' ho0 (Kd.R_lt (hkR HO_437000))) (Kd.R_lt (hkR HO_438000))) (Kd.R_lt (hkR HO_442000))) (Kd.R_lt (hkR HO459))) (Kd.R_lt (hkR HO462))) (below_size (hkS HB))); have n6_ := hkBb BK436 hb; have n7_ := hkBb BK437 hb; have n8_ := hkBb BK441 hb; have n9_ := Aside0.mk (below_step (hkS HB) hb); clear HO_437000; clear HO_438000; clear HO_442000; clear HO459; clear HO462; clear BK436; clear BK437; clear BK441; clear HB; have HO_437000 := n0_; have HO_438000 := n1_; have HO_442000 := n2_; have HO459 := n3_; have HO462 := n4_; have HO465 := n5_; have BK436 := n6_; have BK437 := n7_; have BK441 := n8_; have HB := n9_; clear n0_ n1_ n2_ n3_ n4_ n5_ n6_ n7_ n8_ n9_; (try clear hb); (try clear hb2); (try clear hk); (try clear hi); (try clear ho0)) | (go_at_call 22; (with_reducible refine (laws_nat.calls kj3 4 t466 _ A61.out).mono ?_); rintro e w74 ⟨v467, rfl, ho0, hb⟩; have n0_ := Aside0.mk (Kd.R_elder' (hkR HO_437000) (Kd.R_base ho0) hb); have n1_ := Aside0.mk (Kd.R_elder' (hkR HO_438000) (Kd.R_base ho0) hb); have n2_ := Aside0.mk (Kd.R_elder' (hkR HO_442000) (Kd.R_base ho0) hb); have n3_ := Aside0.mk (Kd.R_elder' (hkR HO459) (Kd.R_base ho0) hb); have n4_ := Aside0.mk (Kd.R_elder' (hkR HO462) (Kd.R_base ho0) hb); have n5_ := Aside0.mk (Kd.R_elder' (hkR HO465) (Kd.R_base ho0) hb); have n6_ := Aside0.mk (Kd.R_lower (Kd.R_new' (Kd.R_new' (Kd.R_new' (Kd.R_new' (Kd.R_new' (Kd.R_new' ho0 (Kd.R_lt (hkR HO_437000))) (Kd.R_lt (hkR HO_438000))) (Kd.R_lt (hkR HO_442000))) (Kd.R_lt (hkR HO459))) (Kd.R_lt (hkR HO462))) (Kd.R_lt (hkR HO465))) (below_size (hkS HB))); have n7_ := hkBb BK436 hb; have n8_ := hkBb BK437 hb; have n9_ := hkBb BK441 hb; have n10_ := Aside0.mk (below_step (hkS HB) hb); clear HO_437000; clear HO_438000; clear HO_442000; clear HO459; clear HO462; clear HO465; clear BK436; clear BK437; clear BK441; clear HB; have HO_437000 := n0_; have HO_438000 := n1_; have HO_442000 := n2_; have HO459 := n3_; have HO462 := n4_; have HO465 := n5_; have HO468 := n6_; have BK436 := n7_; have BK437 := n8_; have BK441 := n9_; have HB := n10_; clear n0_ n1_ n2_ n3_ n4_ n5_ n6_ n7_ n8_ n9_ n10_; (try clear hb); (try clear hb2); (try clear hk); (try clear hi); (try clear ho0); obtain ⟨Ao75, co75, eo75⟩ := Kd.R_slice HO465.out; subst eo75; obtain ⟨Ao76, co76, eo76⟩ := Kd.R_slice HO468.out; subst eo76) | (go_at_call 21; (with_reducible refine (laws_sameNat.calls kj3 _ _ t463 _ _ t466 t469 _ ?side1 ?side2 ?side3 ?side4 A62.out).mono ?_); (case side1 => repeat (first | exact (Kd.R_reads' HO465.out).2.2 | (with_reducible refine Kd.C_alloc ?_ _) | (with_reducible refine Kd.C_drewN ?_ _) | (with_reducible refine Kd.C_drew ?_))); (case side2 => exact (Kd.R_reads' HO465.out).2.1); (case side3 => repeat (first | exact (Kd.R_reads' HO468.out).2.2 | (with_reducible refine Kd.C_alloc ?_ _) | (with_reducible refine Kd.C_drewN ?_ _) | (with_reducible refine Kd.C_drew ?_))); (case side4 => exact (Kd.R_reads' HO468.out).2.1); rintro e w77 ⟨rfl, hb⟩; have n0_ := hkRb HO_437000 hb; have n1_ := hkRb HO_438000 hb; have n2_ := hkRb HO_442000 hb; have n3_ := hkRb HO459 hb; have n4_ := hkRb HO462 hb; have n5_ := hkRb HO465 hb; have n6_ := hkRb HO468 hb; have n7_ := hkBb BK436 hb; have n8_ := hkBb BK437 hb; have n9_ := hkBb BK441 hb; have n10_ := Aside0.mk (below_step (hkS HB) hb); clear HO_437000; clear HO_438000; clear HO_442000; clear HO459; clear HO462; clear HO465; clear HO468; clear BK436; clear BK437; clear BK441; clear HB; have HO_437000 := n0_; have HO_438000 := n1_; have HO_442000 := n2_; have HO459 := n3_; have HO462 := n4_; have HO465 := n5_; have HO468 := n6_; have BK436 := n7_; have BK437 := n8_; have BK441 := n9_; have HB := n10_; clear n0_ n1_ n2_ n3_ n4_ n5_ n6_ n7_ n8_ n9_ n10_; (try clear hb); (try clear hb2); (try clear hk); (try clear hi)))
              go_ret
              exact ⟨by first | rfl | (rw [hr_]; done) | (simp [errW_none, errW_some] <;> rfl) | (simp [*, errW_none, errW_some] <;> rfl), by repeat (first | (with_reducible first | exact HB.out | apply below_alloc | apply pw_below_drewN | apply below_drew1 | refine below_set ?_ GE436.out | refine below_set ?_ GE437.out | refine below_set ?_ GE441.out) | exact HB.out)⟩
            · rw [if_neg c57] at H
              have c57b0 : ((t433.length : Int) == 0) = false := beq_eq_false_iff_ne.mpr c57
              have c57b1 : ((t433.length : Int) != 0) = true := bne_iff_ne.mpr c57
              have c57b2 : ¬ (t433 = []) := fun h_ => c57 (by rw [h_]; rfl)
              exact absurd (Option.some.inj H) (by decide)
          · rw [if_neg c56] at H
            have c56b0 : ((t430.length : Int) == 0) = false := beq_eq_false_iff_ne.mpr c56
            have c56b1 : ((t430.length : Int) != 0) = true := bne_iff_ne.mpr c56
            have c56b2 : ¬ (t430 = []) := fun h_ => c56 (by rw [h_]; rfl)
            exact absurd (Option.some.inj H) (by decide)
        · rw [if_neg c55] at H
          have c55b0 : ((t438.length : Int) == 0) = false := beq_eq_false_iff_ne.mpr c55
          have c55b1 : ((t438.length : Int) != 0) = true := bne_iff_ne.mpr c55
          have c55b2 : ¬ (t438 = []) := fun h_ => c55 (by rw [h_]; rfl)
          replace H := Option.bind_eq_some_iff.mp H
          obtain ⟨⟨t470, t473, t476⟩, A890, H⟩ := H
          replace H : ((impl_NatDiv.f kj3 t433 t438).bind fun bt479 => (if (t473.length : Int) = 0 then (if (bt479.2.1.length : Int) = 0 then ((impl_NatGcd.f kj3 t470 bt479.1).bind fun t488 => ((laws_nat.f kj3 1).bind fun t491 => ((laws_sameNat.f kj3 t488 t491).bind fun t494 => (if t494 = true then ((impl_NatGcd.f kj3 t433 t430).bind fun t495 => ((laws_sameNat.f kj3 t495 t438).bind fun t498 => (some t498))) else (some false))))) else (some false)) else (some false))) = some true := H
          have A89 := Aside0.mk A890
          clear A890
          replace H := Option.bind_eq_some_iff.mp H
          obtain ⟨⟨t479, t482, t485⟩, A900, H⟩ := H
          replace H : (if (t473.length : Int) = 0 then (if (t482.length : Int) = 0 then ((impl_NatGcd.f kj3 t470 t479).bind fun t488 => ((laws_nat.f kj3 1).bind fun t491 => ((laws_sameNat.f kj3 t488 t491).bind fun t494 => (if t494 = true then ((impl_NatGcd.f kj3 t433 t430).bind fun t495 => ((laws_sameNat.f kj3 t495 t438).bind fun t498 => (some t498))) else (some false))))) else (some false)) else (some false)) = some true := H
          have A90 := Aside0.mk A900
          clear A900
          by_cases c91 : (t473.length : Int) = 0
          · rw [if_pos c91] at H
            have c91b0 : ((t473.length : Int) == 0) = true := beq_iff_eq.mpr c91
            have c91b1 : ((t473.length : Int) != 0) = false := bne_eq_false_iff_eq.mpr c91
            clear c91
            by_cases c92 : (t482.length : Int) = 0
            · rw [if_pos c92] at H
              have c92b0 : ((t482.length : Int) == 0) = true := beq_iff_eq.mpr c92
              have c92b1 : ((t482.length : Int) != 0) = false := bne_eq_false_iff_eq.mpr c92
              clear c92
              replace H := Option.bind_eq_some_iff.mp H
              obtain ⟨t488, A930, H⟩ := H
              replace H : ((laws_nat.f kj3 1).bind fun t491 => ((laws_sameNat.f kj3 t488 t491).bind fun t494 => (if t494 = true then ((impl_NatGcd.f kj3 t433 t430).bind fun t495 => ((laws_sameNat.f kj3 t495 t438).bind fun t498 => (some t498))) else (some false)))) = some true := H
              have A93 := Aside0.mk A930
              clear A930
              replace H := Option.bind_eq_some_iff.mp H
              obtain ⟨t491, A940, H⟩ := H
              replace H : ((laws_sameNat.f kj3 t488 t491).bind fun t494 => (if t494 = true then ((impl_NatGcd.f kj3 t433 t430).bind fun t495 => ((laws_sameNat.f kj3 t495 t438).bind fun t498 => (some t498))) else (some false))) = some true := H
              have A94 := Aside0.mk A940
              clear A940
              replace H := Option.bind_eq_some_iff.mp H
              obtain ⟨t494, A950, H⟩ := H
              replace H : (if t494 = true then ((impl_NatGcd.f kj3 t433 t430).bind fun t495 => ((laws_sameNat.f kj3 t495 t438).bind fun t498 => (some t498))) else (some false)) = some true := H
              have A95 := Aside0.mk A950
              clear A950
              by_cases c96 : t494 = true
              · subst c96
                have H1 : ((impl_NatGcd.f kj3 t433 t430).bind fun t495 => ((laws_sameNat.f kj3 t495 t438).bind fun t498 => (some t498))) = some true := by rw [if_pos rfl] at H; exact H
                clear H
                have H := H1
                clear H1
                replace H := Option.bind_eq_some_iff.mp H
                obtain ⟨t495, A970, H⟩ := H
                replace H : ((laws_sameNat.f kj3 t495 t438).bind fun t498 => (some t498)) = some true := H
                have A97 := Aside0.mk A970
                clear A970
                replace H := Option.bind_eq_some_iff.mp H
                obtain ⟨t498, A980, H⟩ := H
                replace H : (some t498) = some true := H
                have A98 := Aside0.mk A980
                clear A980
                have hr_ := Option.some.inj H
                clear H
                have hnb99 := NB441_436.out
                have hnc99 := NB436_441.out
                have hnb100 := NB441_437.out
                have hnc100 := NB437_441.out
                have hcz101_0 : wc.cell? ⟨gb441, 0, none⟩ = some (.slice Ao15 t438.length co15) := (blk_cell BK441.out 0).trans rfl
                have hfz101_0 := blk_frozen BK441.out 0
                have hnb102 := NB436_437.out
                have hnc102 := NB437_436.out
                have hcz103_0 : wc.cell? ⟨gb436, 0, none⟩ = some (.slice Ao8 t430.length co8) := (blk_cell BK436.out 0).trans rfl
                have hfz103_0 := blk_frozen BK436.out 0
                try go_wp2_with (first | ((with_reducible refine gate_callee (f := 23) rfl ?_); refine goesL_ (some 63) rfl rfl Try.func23 (by kernel_rfl) rfl #[.agg #[.slice Ao8 t430.length co8], .agg #[.slice Ao15 t438.length co15]] rfl hkL ?_; (with_reducible refine (impl_NatDiv.calls kj3 _ _ t430 _ _ t438 t470 t473 t476 _ ?side1 ?side2 ?side3 ?side4 A89.out).mono ?_); (case side1 => repeat (first | exact (Kd.R_reads' HO_437000.out).2.2 | (with_reducible refine Kd.C_alloc ?_ _) | (with_reducible refine Kd.C_drewN ?_ _) | (with_reducible refine Kd.C_drew ?_))); (case side2 => exact (Kd.R_reads' HO_437000.out).2.1); (case side3 => repeat (first | exact (Kd.R_reads' HO_442000.out).2.2 | (with_reducible refine Kd.C_alloc ?_ _) | (with_reducible refine Kd.C_drewN ?_ _) | (with_reducible refine Kd.C_drew ?_))); (case side4 => exact (Kd.R_reads' HO_442000.out).2.1); rintro e w104 ⟨v471, v474, rfl, ho0, ho1, hb⟩; refine ⟨_, rfl, ?_⟩; have n0_ := Aside0.mk (Kd.R_mono (Kd.R_told (Kd.R_told (Kd.R_old (hkR HO_437000) hb) (Kd.R_base ho0)) (Kd.R_base ho1)) (fun _ h_ => h_.1)); have n1_ := Aside0.mk (Kd.R_mono (Kd.R_told (Kd.R_told (Kd.R_old (hkR HO_438000) hb) (Kd.R_base ho0)) (Kd.R_base ho1)) (fun _ h_ => h_.1)); have n2_ := Aside0.mk (Kd.R_mono (Kd.R_told (Kd.R_told (Kd.R_old (hkR HO_442000) hb) (Kd.R_base ho0)) (Kd.R_base ho1)) (fun _ h_ => h_.1)); have n3_ := Aside0.mk (Kd.R_lower (Kd.R_new' (Kd.R_new' (Kd.R_new' ho0 (Kd.R_lt (hkR HO_437000))) (Kd.R_lt (hkR HO_438000))) (Kd.R_lt (hkR HO_442000))) (below_size (hkS HB))); have n4_ := Aside0.mk (Kd.R_lower (Kd.R_new' (Kd.R_new' (Kd.R_new' ho1 (Kd.R_lt (hkR HO_437000))) (Kd.R_lt (hkR HO_438000))) (Kd.R_lt (hkR HO_442000))) (below_size (hkS HB))); have n5_ := hkBb BK436 hb; have n6_ := hkBb BK437 hb; have n7_ := hkBb BK441 hb; have n8_ := Aside0.mk (below_step (hkS HB) hb); clear HO_437000; clear HO_438000; clear HO_442000; clear BK436; clear BK437; clear BK441; clear HB; have HO_437000 := n0_; have HO_438000 := n1_; have HO_442000 := n2_; have HO472 := n3_; have HO475 := n4_; have BK436 := n5_; have BK437 := n6_; have BK441 := n7_; have HB := n8_; clear n0_ n1_ n2_ n3_ n4_ n5_ n6_ n7_ n8_; (try clear hb); (try clear hb2); (try clear hk); (try clear hi); (try clear ho0); (try clear ho1)) | ((with_reducible refine gate_dst (N := 6) rfl ?_); (try (refine gate_guard (by rfl) ?_; dsimp only)); refine box_event ?hg (N := 6) ?hd (cs := #[.slice none 0 0]) (t := 38) ?hr ?_; (case hd => rfl); (case hg => rfl); (case hr => first | (go_simp; done) | (go_simp; rfl)); intro gb477 hg w105 hbox hb; have n0_ := hkRb HO_437000 hb; have n1_ := hkRb HO_438000 hb; have n2_ := hkRb HO_442000 hb; have n3_ := hkRb HO472 hb; have n4_ := hkRb HO475 hb; have n5_ := hkBb BK436 hb; have n6_ := hkBb BK437 hb; have n7_ := hkBb BK441 hb; have n8_ := Aside0.mk (below_step (hkS HB) hb); have n9_ := Aside0.mk (hbox); have n10_ := hkG hg (hkS HB); have n11_ := hkG hg (hkS HB); have n12_ := hkN hg BK436; have n13_ := hkM hg BK436; have n14_ := hkN hg BK437; have n15_ := hkM hg BK437; have n16_ := hkN hg BK441; have n17_ := hkM hg BK441; clear HO_437000; clear HO_438000; clear HO_442000; clear HO472; clear HO475; clear BK436; clear BK437; clear BK441; clear HB; have HO_437000 := n0_; have HO_438000 := n1_; have HO_442000 := n2_; have HO472 := n3_; have HO475 := n4_; have BK436 := n5_; have BK437 := n6_; have BK441 := n7_; have HB := n8_; have BK477 := n9_; have GW477 := n10_; have GE477 := n11_; have NB436_477 := n12_; have NB477_436 := n13_; have NB437_477 := n14_; have NB477_437 := n15_; have NB441_477 := n16_; have NB477_441 := n17_; clear n0_ n1_ n2_ n3_ n4_ n5_ n6_ n7_ n8_ n9_ n10_ n11_ n12_ n13_ n14_ n15_ n16_ n17_; clear hb hbox hg) | ((with_reducible refine gate_dst (N := 7) rfl ?_); (try (refine gate_guard (by rfl) ?_; dsimp only)); refine box_event ?hg (N := 7) ?hd (cs := #[.slice none 0 0]) (t := 38) ?hr ?_; (case hd => rfl); (case hg => rfl); (case hr => first | (go_simp; done) | (go_simp; rfl)); intro gb478 hg w106 hbox hb; have n0_ := hkRb HO_437000 hb; have n1_ := hkRb HO_438000 hb; have n2_ := hkRb HO_442000 hb; have n3_ := hkRb HO472 hb; have n4_ := hkRb HO475 hb; have n5_ := hkBb BK436 hb; have n6_ := hkBb BK437 hb; have n7_ := hkBb BK441 hb; have n8_ := hkBb BK477 hb; have n9_ := Aside0.mk (below_step (hkS HB) hb); have n10_ := Aside0.mk (hbox); have n11_ := hkG hg (hkS HB); have n12_ := hkG hg (hkS HB); have n13_ := hkN hg BK436; have n14_ := hkM hg BK436; have n15_ := hkN hg BK437; have n16_ := hkM hg BK437; have n17_ := hkN hg BK441; have n18_ := hkM hg BK441; have n19_ := hkN hg BK477; have n20_ := hkM hg BK477; clear HO_437000; clear HO_438000; clear HO_442000; clear HO472; clear HO475; clear BK436; clear BK437; clear BK441; clear BK477; clear HB; have HO_437000 := n0_; have HO_438000 := n1_; have HO_442000 := n2_; have HO472 := n3_; have HO475 := n4_; have BK436 := n5_; have BK437 := n6_; have BK441 := n7_; have BK477 := n8_; have HB := n9_; have BK478 := n10_; have GW478 := n11_; have GE478 := n12_; have NB436_478 := n13_; have NB478_436 := n14_; have NB437_478 := n15_; have NB478_437 := n16_; have NB441_478 := n17_; have NB478_441 := n18_; have NB477_478 := n19_; have NB478_477 := n20_; clear n0_ n1_ n2_ n3_ n4_ n5_ n6_ n7_ n8_ n9_ n10_ n11_ n12_ n13_ n14_ n15_ n16_ n17_ n18_ n19_ n20_; clear hb hbox hg; obtain ⟨Ao107, co107, eo107⟩ := Kd.R_slice HO472.out; subst eo107; have hnb108 := NB477_436.out; have hnc108 := NB436_477.out; have hnb109 := NB477_437.out; have hnc109 := NB437_477.out; have hnb110 := NB477_441.out; have hnc110 := NB441_477.out; have hnb111 := NB477_478.out; have hnc111 := NB478_477.out; have hcz112_0 : w106.cell? ⟨gb477, 0, none⟩ = some (.slice none 0 0) := (blk_cell BK477.out 0).trans rfl; have hfz112_0 := blk_frozen BK477.out 0; obtain ⟨Ao113, co113, eo113⟩ := Kd.R_slice HO475.out; subst eo113; have hnb114 := NB478_436.out; have hnc114 := NB436_478.out; have hnb115 := NB478_437.out; have hnc115 := NB437_478.out; have hnb116 := NB478_441.out; have hnc116 := NB441_478.out; have hcz117_0 : w106.cell? ⟨gb478, 0, none⟩ = some (.slice none 0 0) := (blk_cell BK478.out 0).trans rfl; have hfz117_0 := blk_frozen BK478.out 0; have hcz118_0 : w106.cell? ⟨gb437, 0, none⟩ = some (.slice Ao11 t433.length co11) := (blk_cell BK437.out 0).trans rfl; have hfz118_0 := blk_frozen BK437.out 0; have hcz119_0 : w106.cell? ⟨gb441, 0, none⟩ = some (.slice Ao15 t438.length co15) := (blk_cell BK441.out 0).trans rfl; have hfz119_0 := blk_frozen BK441.out 0) | ((with_reducible refine gate_callee (f := 23) rfl ?_); refine goesL_ (some 70) rfl rfl Try.func23 (by kernel_rfl) rfl #[.agg #[.slice Ao11 t433.length co11], .agg #[.slice Ao15 t438.length co15]] rfl hkL ?_; (with_reducible refine (impl_NatDiv.calls kj3 _ _ t433 _ _ t438 t479 t482 t485 _ ?side1 ?side2 ?side3 ?side4 A90.out).mono ?_); (case side1 => refine (Kd.R_reads' (e := 3) (base := w.heap.size) (ok := fun k_ => (((some k_ ≠ (.slice Ao8 t430.length co8 : Value).ownBlock ∧ some k_ ≠ (.slice Ao15 t438.length co15 : Value).ownBlock) ∧ some k_ ≠ (.slice Ao107 t470.length co107 : Value).ownBlock) ∧ some k_ ≠ (.slice Ao113 t473.length co113 : Value).ownBlock)) (n := t433.length) (c := co11) ?_).2.2; exact (by (with_reducible repeat (first | apply Kd.R_alloc | apply Kd.R_drewN | apply Kd.R_drew)); exact (Kd.R_mono (Kd.R_mono (Kd.R_far (p := ⟨gb478, 0, none⟩) (Kd.R_far (p := ⟨gb477, 0, none⟩) (Kd.R_types (Kd.R_types HO_438000.out BK477.out (by decide)) BK478.out (by decide)) (fun _ hk => hk.1.2) (.slice Ao107 t470.length co107)) (fun _ hk => hk.2) (.slice Ao113 t473.length co113)) (fun _ h_ => h_.1)) (fun _ h_ => h_.1)))); (case side2 => exact (Kd.R_reads' HO_438000.out).2.1); (case side3 => refine (Kd.R_reads' (e := 3) (base := w.heap.size) (ok := fun k_ => (((some k_ ≠ (.slice Ao8 t430.length co8 : Value).ownBlock ∧ some k_ ≠ (.slice Ao11 t433.length co11 : Value).ownBlock) ∧ some k_ ≠ (.slice Ao107 t470.length co107 : Value).ownBlock) ∧ some k_ ≠ (.slice Ao113 t473.length co113 : Value).ownBlock)) (n := t438.length) (c := co15) ?_).2.2; exact (by (with_reducible repeat (first | apply Kd.R_alloc | apply Kd.R_drewN | apply Kd.R_drew)); exact (Kd.R_mono (Kd.R_mono (Kd.R_far (p := ⟨gb478, 0, none⟩) (Kd.R_far (p := ⟨gb477, 0, none⟩) (Kd.R_types (Kd.R_types HO_442000.out BK477.out (by decide)) BK478.out (by decide)) (fun _ hk => hk.1.2) (.slice Ao107 t470.length co107)) (fun _ hk => hk.2) (.slice Ao113 t473.length co113)) (fun _ h_ => h_.1)) (fun _ h_ => h_.1)))); (case side4 => exact (Kd.R_reads' HO_442000.out).2.1); rintro e w120 ⟨v480, v483, rfl, ho0, ho1, hb⟩; refine ⟨_, rfl, ?_⟩; have n0_ := Aside0.mk (Kd.R_mono (Kd.R_told (Kd.R_told (Kd.R_old (by (with_reducible repeat (first | apply Kd.R_alloc | apply Kd.R_drewN | apply Kd.R_drew)); exact (Kd.R_mono (Kd.R_mono (Kd.R_far (p := ⟨gb478, 0, none⟩) (Kd.R_far (p := ⟨gb477, 0, none⟩) (Kd.R_types (Kd.R_types HO_437000.out BK477.out (by decide)) BK478.out (by decide)) (fun _ hk => hk.1.2) (.slice Ao107 t470.length co107)) (fun _ hk => hk.2) (.slice Ao113 t473.length co113)) (fun _ h_ => h_.1)) (fun _ h_ => h_.1))) hb) (Kd.R_base ho0)) (Kd.R_base ho1)) (fun _ h_ => h_.1)); have n1_ := Aside0.mk (Kd.R_mono (Kd.R_told (Kd.R_told (Kd.R_old (by (with_reducible repeat (first | apply Kd.R_alloc | apply Kd.R_drewN | apply Kd.R_drew)); exact (Kd.R_mono (Kd.R_mono (Kd.R_far (p := ⟨gb478, 0, none⟩) (Kd.R_far (p := ⟨gb477, 0, none⟩) (Kd.R_types (Kd.R_types HO_438000.out BK477.out (by decide)) BK478.out (by decide)) (fun _ hk => hk.1.2) (.slice Ao107 t470.length co107)) (fun _ hk => hk.2) (.slice Ao113 t473.length co113)) (fun _ h_ => h_.1)) (fun _ h_ => h_.1))) hb) (Kd.R_base ho0)) (Kd.R_base ho1)) (fun _ h_ => h_.1)); have n2_ := Aside0.mk (Kd.R_mono (Kd.R_told (Kd.R_told (Kd.R_old (by (with_reducible repeat (first | apply Kd.R_alloc | apply Kd.R_drewN | apply Kd.R_drew)); exact (Kd.R_mono (Kd.R_mono (Kd.R_far (p := ⟨gb478, 0, none⟩) (Kd.R_far (p := ⟨gb477, 0, none⟩) (Kd.R_types (Kd.R_types HO_442000.out BK477.out (by decide)) BK478.out (by decide)) (fun _ hk => hk.1.2) (.slice Ao107 t470.length co107)) (fun _ hk => hk.2) (.slice Ao113 t473.length co113)) (fun _ h_ => h_.1)) (fun _ h_ => h_.1))) hb) (Kd.R_base ho0)) (Kd.R_base ho1)) (fun _ h_ => h_.1)); have n3_ := Aside0.mk (Kd.R_mono (Kd.R_told (Kd.R_told (Kd.R_old (by (with_reducible repeat (first | apply Kd.R_alloc | apply Kd.R_drewN | apply Kd.R_drew)); exact (Kd.R_mono (Kd.R_mono (Kd.R_far (p := ⟨gb478, 0, none⟩) (Kd.R_far (p := ⟨gb477, 0, none⟩) (Kd.R_types (Kd.R_types HO472.out BK477.out (by decide)) BK478.out (by decide)) (fun _ hk => hk.1.2) (.slice Ao107 t470.length co107)) (fun _ hk => hk.2) (.slice Ao113 t473.length co113)) (fun _ h_ => h_.1)) (fun _ h_ => h_.1))) hb) (Kd.R_base ho0)) (Kd.R_base ho1)) (fun _ h_ => h_.1)); have n4_ := Aside0.mk (Kd.R_mono (Kd.R_told (Kd.R_told (Kd.R_old (by (with_reducible repeat (first | apply Kd.R_alloc | apply Kd.R_drewN | apply Kd.R_drew)); exact (Kd.R_mono (Kd.R_mono (Kd.R_far (p := ⟨gb478, 0, none⟩) (Kd.R_far (p := ⟨gb477, 0, none⟩) (Kd.R_types (Kd.R_types HO475.out BK477.out (by decide)) BK478.out (by decide)) (fun _ hk => hk.1.2) (.slice Ao107 t470.length co107)) (fun _ hk => hk.2) (.slice Ao113 t473.length co113)) (fun _ h_ => h_.1)) (fun _ h_ => h_.1))) hb) (Kd.R_base ho0)) (Kd.R_base ho1)) (fun _ h_ => h_.1)); have n5_ := Aside0.mk (Kd.R_lower (Kd.R_new' (Kd.R_new' (Kd.R_new' (Kd.R_new' (Kd.R_new' ho0 (Kd.R_lt (by (with_reducible repeat (first | apply Kd.R_alloc | apply Kd.R_drewN | apply Kd.R_drew)); exact (Kd.R_mono (Kd.R_mono (Kd.R_far (p := ⟨gb478, 0, none⟩) (Kd.R_far (p := ⟨gb477, 0, none⟩) (Kd.R_types (Kd.R_types HO_437000.out BK477.out (by decide)) BK478.out (by decide)) (fun _ hk => hk.1.2) (.slice Ao107 t470.length co107)) (fun _ hk => hk.2) (.slice Ao113 t473.length co113)) (fun _ h_ => h_.1)) (fun _ h_ => h_.1))))) (Kd.R_lt (by (with_reducible repeat (first | apply Kd.R_alloc | apply Kd.R_drewN | apply Kd.R_drew)); exact (Kd.R_mono (Kd.R_mono (Kd.R_far (p := ⟨gb478, 0, none⟩) (Kd.R_far (p := ⟨gb477, 0, none⟩) (Kd.R_types (Kd.R_types HO_438000.out BK477.out (by decide)) BK478.out (by decide)) (fun _ hk => hk.1.2) (.slice Ao107 t470.length co107)) (fun _ hk => hk.2) (.slice Ao113 t473.length co113)) (fun _ h_ => h_.1)) (fun _ h_ => h_.1))))) (Kd.R_lt (by (with_reducible repeat (first | apply Kd.R_alloc | apply Kd.R_drewN | apply Kd.R_drew)); exact (Kd.R_mono (Kd.R_mono (Kd.R_far (p := ⟨gb478, 0, none⟩) (Kd.R_far (p := ⟨gb477, 0, none⟩) (Kd.R_types (Kd.R_types HO_442000.out BK477.out (by decide)) BK478.out (by decide)) (fun _ hk => hk.1.2) (.slice Ao107 t470.length co107)) (fun _ hk => hk.2) (.slice Ao113 t473.length co113)) (fun _ h_ => h_.1)) (fun _ h_ => h_.1))))) (Kd.R_lt (by (with_reducible repeat (first | apply Kd.R_alloc | apply Kd.R_drewN | apply Kd.R_drew)); exact (Kd.R_mono (Kd.R_mono (Kd.R_far (p := ⟨gb478, 0, none⟩) (Kd.R_far (p := ⟨gb477, 0, none⟩) (Kd.R_types (Kd.R_types HO472.out BK477.out (by decide)) BK478.out (by decide)) (fun _ hk => hk.1.2) (.slice Ao107 t470.length co107)) (fun _ hk => hk.2) (.slice Ao113 t473.length co113)) (fun _ h_ => h_.1)) (fun _ h_ => h_.1))))) (Kd.R_lt (by (with_reducible repeat (first | apply Kd.R_alloc | apply Kd.R_drewN | apply Kd.R_drew)); exact (Kd.R_mono (Kd.R_mono (Kd.R_far (p := ⟨gb478, 0, none⟩) (Kd.R_far (p := ⟨gb477, 0, none⟩) (Kd.R_types (Kd.R_types HO475.out BK477.out (by decide)) BK478.out (by decide)) (fun _ hk => hk.1.2) (.slice Ao107 t470.length co107)) (fun _ hk => hk.2) (.slice Ao113 t473.length co113)) (fun _ h_ => h_.1)) (fun _ h_ => h_.1))))) (below_size (hkS HB))); have n6_ := Aside0.mk (Kd.R_lower (Kd.R_new' (Kd.R_new' (Kd.R_new' (Kd.R_new' (Kd.R_new' ho1 (Kd.R_lt (by (with_reducible repeat (first | apply Kd.R_alloc | apply Kd.R_drewN | apply Kd.R_drew)); exact (Kd.R_mono (Kd.R_mono (Kd.R_far (p := ⟨gb478, 0, none⟩) (Kd.R_far (p := ⟨gb477, 0, none⟩) (Kd.R_types (Kd.R_types HO_437000.out BK477.out (by decide)) BK478.out (by decide)) (fun _ hk => hk.1.2) (.slice Ao107 t470.length co107)) (fun _ hk => hk.2) (.slice Ao113 t473.length co113)) (fun _ h_ => h_.1)) (fun _ h_ => h_.1))))) (Kd.R_lt (by (with_reducible repeat (first | apply Kd.R_alloc | apply Kd.R_drewN | apply Kd.R_drew)); exact (Kd.R_mono (Kd.R_mono (Kd.R_far (p := ⟨gb478, 0, none⟩) (Kd.R_far (p := ⟨gb477, 0, none⟩) (Kd.R_types (Kd.R_types HO_438000.out BK477.out (by decide)) BK478.out (by decide)) (fun _ hk => hk.1.2) (.slice Ao107 t470.length co107)) (fun _ hk => hk.2) (.slice Ao113 t473.length co113)) (fun _ h_ => h_.1)) (fun _ h_ => h_.1))))) (Kd.R_lt (by (with_reducible repeat (first | apply Kd.R_alloc | apply Kd.R_drewN | apply Kd.R_drew)); exact (Kd.R_mono (Kd.R_mono (Kd.R_far (p := ⟨gb478, 0, none⟩) (Kd.R_far (p := ⟨gb477, 0, none⟩) (Kd.R_types (Kd.R_types HO_442000.out BK477.out (by decide)) BK478.out (by decide)) (fun _ hk => hk.1.2) (.slice Ao107 t470.length co107)) (fun _ hk => hk.2) (.slice Ao113 t473.length co113)) (fun _ h_ => h_.1)) (fun _ h_ => h_.1))))) (Kd.R_lt (by (with_reducible repeat (first | apply Kd.R_alloc | apply Kd.R_drewN | apply Kd.R_drew)); exact (Kd.R_mono (Kd.R_mono (Kd.R_far (p := ⟨gb478, 0, none⟩) (Kd.R_far (p := ⟨gb477, 0, none⟩) (Kd.R_types (Kd.R_types HO472.out BK477.out (by decide)) BK478.out (by decide)) (fun _ hk => hk.1.2) (.slice Ao107 t470.length co107)) (fun _ hk => hk.2) (.slice Ao113 t473.length co113)) (fun _ h_ => h_.1)) (fun _ h_ => h_.1))))) (Kd.R_lt (by (with_reducible repeat (first | apply Kd.R_alloc | apply Kd.R_drewN | apply Kd.R_drew)); exact (Kd.R_mono (Kd.R_mono (Kd.R_far (p := ⟨gb478, 0, none⟩) (Kd.R_far (p := ⟨gb477, 0, none⟩) (Kd.R_types (Kd.R_types HO475.out BK477.out (by decide)) BK478.out (by decide)) (fun _ hk => hk.1.2) (.slice Ao107 t470.length co107)) (fun _ hk => hk.2) (.slice Ao113 t473.length co113)) (fun _ h_ => h_.1)) (fun _ h_ => h_.1))))) (below_size (hkS HB))); have n7_ := Aside0.mk (blk_below (g := gb436) (o := .cells #[.slice Ao8 t430.length co8] 38 (0, 0)) (by (with_reducible repeat (first | refine blk_drewN ?_ _ | refine blk_drew ?_ | refine blk_alloc ?_ _)); refine blk_far ?_ NB436_478.out _; (with_reducible repeat (first | refine blk_drewN ?_ _ | refine blk_drew ?_ | refine blk_alloc ?_ _)); refine blk_far ?_ NB436_477.out _; (with_reducible repeat (first | refine blk_drewN ?_ _ | refine blk_drew ?_ | refine blk_alloc ?_ _)); exact BK436.out) hb); have n8_ := Aside0.mk (blk_below (g := gb437) (o := .cells #[.slice Ao11 t433.length co11] 38 (0, 0)) (by (with_reducible repeat (first | refine blk_drewN ?_ _ | refine blk_drew ?_ | refine blk_alloc ?_ _)); refine blk_far ?_ NB437_478.out _; (with_reducible repeat (first | refine blk_drewN ?_ _ | refine blk_drew ?_ | refine blk_alloc ?_ _)); refine blk_far ?_ NB437_477.out _; (with_reducible repeat (first | refine blk_drewN ?_ _ | refine blk_drew ?_ | refine blk_alloc ?_ _)); exact BK437.out) hb); have n9_ := Aside0.mk (blk_below (g := gb441) (o := .cells #[.slice Ao15 t438.length co15] 38 (0, 0)) (by (with_reducible repeat (first | refine blk_drewN ?_ _ | refine blk_drew ?_ | refine blk_alloc ?_ _)); refine blk_far ?_ NB441_478.out _; (with_reducible repeat (first | refine blk_drewN ?_ _ | refine blk_drew ?_ | refine blk_alloc ?_ _)); refine blk_far ?_ NB441_477.out _; (with_reducible repeat (first | refine blk_drewN ?_ _ | refine blk_drew ?_ | refine blk_alloc ?_ _)); exact BK441.out) hb); have n10_ := Aside0.mk (blk_below (g := gb477) (o := .cells #[.slice Ao107 t470.length co107] 38 (0, 0)) (by (with_reducible repeat (first | refine blk_drewN ?_ _ | refine blk_drew ?_ | refine blk_alloc ?_ _)); refine blk_far ?_ NB477_478.out _; (with_reducible repeat (first | refine blk_drewN ?_ _ | refine blk_drew ?_ | refine blk_alloc ?_ _)); refine blk_put (cs := #[.slice none 0 0]) ?_ 0 _ rfl; (with_reducible repeat (first | refine blk_drewN ?_ _ | refine blk_drew ?_ | refine blk_alloc ?_ _)); exact BK477.out) hb); have n11_ := Aside0.mk (blk_below (g := gb478) (o := .cells #[.slice Ao113 t473.length co113] 38 (0, 0)) (by (with_reducible repeat (first | refine blk_drewN ?_ _ | refine blk_drew ?_ | refine blk_alloc ?_ _)); refine blk_put (cs := #[.slice none 0 0]) ?_ 0 _ rfl; (with_reducible repeat (first | refine blk_drewN ?_ _ | refine blk_drew ?_ | refine blk_alloc ?_ _)); refine blk_far ?_ NB478_477.out _; (with_reducible repeat (first | refine blk_drewN ?_ _ | refine blk_drew ?_ | refine blk_alloc ?_ _)); exact BK478.out) hb); have n12_ := Aside0.mk (below_step (hkS HB) hb); clear HO_437000; clear HO_438000; clear HO_442000; clear HO472; clear HO475; clear BK436; clear BK437; clear BK441; clear BK477; clear BK478; clear HB; have HO_437000 := n0_; have HO_438000 := n1_; have HO_442000 := n2_; have HO472 := n3_; have HO475 := n4_; have HO481 := n5_; have HO484 := n6_; have BK436 := n7_; have BK437 := n8_; have BK441 := n9_; have BK477 := n10_; have BK478 := n11_; have HB := n12_; clear n0_ n1_ n2_ n3_ n4_ n5_ n6_ n7_ n8_ n9_ n10_ n11_ n12_; (try clear hb); (try clear hb2); (try clear hk); (try clear hi); (try clear ho0); (try clear ho1)) | ((with_reducible refine gate_dst (N := 9) rfl ?_); (try (refine gate_guard (by rfl) ?_; dsimp only)); refine box_event ?hg (N := 9) ?hd (cs := #[.slice none 0 0]) (t := 38) ?hr ?_; (case hd => rfl); (case hg => rfl); (case hr => first | (go_simp; done) | (go_simp; rfl)); intro gb486 hg w121 hbox hb; have n0_ := hkRb HO_437000 hb; have n1_ := hkRb HO_438000 hb; have n2_ := hkRb HO_442000 hb; have n3_ := hkRb HO472 hb; have n4_ := hkRb HO475 hb; have n5_ := hkRb HO481 hb; have n6_ := hkRb HO484 hb; have n7_ := hkBb BK436 hb; have n8_ := hkBb BK437 hb; have n9_ := hkBb BK441 hb; have n10_ := hkBb BK477 hb; have n11_ := hkBb BK478 hb; have n12_ := Aside0.mk (below_step (hkS HB) hb); have n13_ := Aside0.mk (hbox); have n14_ := hkG hg (hkS HB); have n15_ := hkG hg (hkS HB); have n16_ := hkN hg BK436; have n17_ := hkM hg BK436; have n18_ := hkN hg BK437; have n19_ := hkM hg BK437; have n20_ := hkN hg BK441; have n21_ := hkM hg BK441; have n22_ := hkN hg BK477; have n23_ := hkM hg BK477; have n24_ := hkN hg BK478; have n25_ := hkM hg BK478; clear HO_437000; clear HO_438000; clear HO_442000; clear HO472; clear HO475; clear HO481; clear HO484; clear BK436; clear BK437; clear BK441; clear BK477; clear BK478; clear HB; have HO_437000 := n0_; have HO_438000 := n1_; have HO_442000 := n2_; have HO472 := n3_; have HO475 := n4_; have HO481 := n5_; have HO484 := n6_; have BK436 := n7_; have BK437 := n8_; have BK441 := n9_; have BK477 := n10_; have BK478 := n11_; have HB := n12_; have BK486 := n13_; have GW486 := n14_; have GE486 := n15_; have NB436_486 := n16_; have NB486_436 := n17_; have NB437_486 := n18_; have NB486_437 := n19_; have NB441_486 := n20_; have NB486_441 := n21_; have NB477_486 := n22_; have NB486_477 := n23_; have NB478_486 := n24_; have NB486_478 := n25_; clear n0_ n1_ n2_ n3_ n4_ n5_ n6_ n7_ n8_ n9_ n10_ n11_ n12_ n13_ n14_ n15_ n16_ n17_ n18_ n19_ n20_ n21_ n22_ n23_ n24_ n25_; clear hb hbox hg) | ((with_reducible refine gate_dst (N := 10) rfl ?_); (try (refine gate_guard (by rfl) ?_; dsimp only)); refine box_event ?hg (N := 10) ?hd (cs := #[.slice none 0 0]) (t := 38) ?hr ?_; (case hd => rfl); (case hg => rfl); (case hr => first | (go_simp; done) | (go_simp; rfl)); intro gb487 hg w122 hbox hb; have n0_ := hkRb HO_437000 hb; have n1_ := hkRb HO_438000 hb; have n2_ := hkRb HO_442000 hb; have n3_ := hkRb HO472 hb; have n4_ := hkRb HO475 hb; have n5_ := hkRb HO481 hb; have n6_ := hkRb HO484 hb; have n7_ := hkBb BK436 hb; have n8_ := hkBb BK437 hb; have n9_ := hkBb BK441 hb; have n10_ := hkBb BK477 hb; have n11_ := hkBb BK478 hb; have n12_ := hkBb BK486 hb; have n13_ := Aside0.mk (below_step (hkS HB) hb); have n14_ := Aside0.mk (hbox); have n15_ := hkG hg (hkS HB); have n16_ := hkG hg (hkS HB); have n17_ := hkN hg BK436; have n18_ := hkM hg BK436; have n19_ := hkN hg BK437; have n20_ := hkM hg BK437; have n21_ := hkN hg BK441; have n22_ := hkM hg BK441; have n23_ := hkN hg BK477; have n24_ := hkM hg BK477; have n25_ := hkN hg BK478; have n26_ := hkM hg BK478; have n27_ := hkN hg BK486; have n28_ := hkM hg BK486; clear HO_437000; clear HO_438000; clear HO_442000; clear HO472; clear HO475; clear HO481; clear HO484; clear BK436; clear BK437; clear BK441; clear BK477; clear BK478; clear BK486; clear HB; have HO_437000 := n0_; have HO_438000 := n1_; have HO_442000 := n2_; have HO472 := n3_; have HO475 := n4_; have HO481 := n5_; have HO484 := n6_; have BK436 := n7_; have BK437 := n8_; have BK441 := n9_; have BK477 := n10_; have BK478 := n11_; have BK486 := n12_; have HB := n13_; have BK487 := n14_; have GW487 := n15_; have GE487 := n16_; have NB436_487 := n17_; have NB487_436 := n18_; have NB437_487 := n19_; have NB487_437 := n20_; have NB441_487 := n21_; have NB487_441 := n22_; have NB477_487 := n23_; have NB487_477 := n24_; have NB478_487 := n25_; have NB487_478 := n26_; have NB486_487 := n27_; have NB487_486 := n28_; clear n0_ n1_ n2_ n3_ n4_ n5_ n6_ n7_ n8_ n9_ n10_ n11_ n12_ n13_ n14_ n15_ n16_ n17_ n18_ n19_ n20_ n21_ n22_ n23_ n24_ n25_ n26_ n27_ n28_; clear hb hbox hg; obtain ⟨Ao123, co123, eo123⟩ := Kd.R_slice HO481.out; subst eo123; have hnb124 := NB486_436.out; have hnc124 := NB436_486.out; have hnb125 := NB486_437.out; have hnc125 := NB437_486.out; have hnb126 := NB486_441.out; have hnc126 := NB441_486.out; have hnb127 := NB486_477.out; have hnc127 := NB477_486.out; have hnb128 := NB486_478.out; have hnc128 := NB478_486.out; have hnb129 := NB486_487.out; have hnc129 := NB487_486.out; have hcz130_0 : w122.cell? ⟨gb486, 0, none⟩ = some (.slice none 0 0) := (blk_cell BK486.out 0).trans rfl; have hfz130_0 := blk_frozen BK486.out 0; obtain ⟨Ao131, co131, eo131⟩ := Kd.R_slice HO484.out; subst eo131; have hnb132 := NB487_436.out; have hnc132 := NB436_487.out; have hnb133 := NB487_437.out; have hnc133 := NB437_487.out; have hnb134 := NB487_441.out; have hnc134 := NB441_487.out; have hnb135 := NB487_477.out; have hnc135 := NB477_487.out; have hnb136 := NB487_478.out; have hnc136 := NB478_487.out; have hcz137_0 : w122.cell? ⟨gb487, 0, none⟩ = some (.slice none 0 0) := (blk_cell BK487.out 0).trans rfl; have hfz137_0 := blk_frozen BK487.out 0))
                have n0_ : Aside0 (Kd.R (Kd.int .i64) 3 ((w122.setCell ⟨gb486, 0, none⟩ (.slice Ao123 t479.length co123)).setCell ⟨gb487, 0, none⟩ (.slice Ao131 t482.length co131)) w.heap.size (fun k_ => some k_ ≠ (.slice Ao11 t433.length co11 : Value).ownBlock ∧ some k_ ≠ (.slice Ao15 t438.length co15 : Value).ownBlock ∧ some k_ ≠ (.slice Ao107 t470.length co107 : Value).ownBlock ∧ some k_ ≠ (.slice Ao113 t473.length co113 : Value).ownBlock ∧ some k_ ≠ (.slice Ao123 t479.length co123 : Value).ownBlock ∧ some k_ ≠ (.slice Ao131 t482.length co131 : Value).ownBlock) (.slice Ao8 t430.length co8) t430) := ⟨by (with_reducible repeat (first | apply Kd.R_alloc | apply Kd.R_drewN | apply Kd.R_drew)); exact Kd.R_mono (Kd.R_far (p := ⟨gb487, 0, none⟩) (Kd.R_far (p := ⟨gb486, 0, none⟩) (Kd.R_types (Kd.R_types HO_437000.out BK486.out (by decide)) BK487.out (by decide)) (fun _ hk => hk.1.2) (.slice Ao123 t479.length co123)) (fun _ hk => hk.2) (.slice Ao131 t482.length co131)) (fun _ hk => ⟨hk.1.1.1.1.1.1.1, ⟨hk.1.1.1.1.1.1.2, ⟨hk.1.1.1.1.1.2, ⟨hk.1.1.1.1.2, ⟨hk.1.1.1.2, hk.1.1.2⟩⟩⟩⟩⟩)⟩
                have n1_ : Aside0 (Kd.R (Kd.int .i64) 3 ((w122.setCell ⟨gb486, 0, none⟩ (.slice Ao123 t479.length co123)).setCell ⟨gb487, 0, none⟩ (.slice Ao131 t482.length co131)) w.heap.size (fun k_ => some k_ ≠ (.slice Ao8 t430.length co8 : Value).ownBlock ∧ some k_ ≠ (.slice Ao15 t438.length co15 : Value).ownBlock ∧ some k_ ≠ (.slice Ao107 t470.length co107 : Value).ownBlock ∧ some k_ ≠ (.slice Ao113 t473.length co113 : Value).ownBlock ∧ some k_ ≠ (.slice Ao123 t479.length co123 : Value).ownBlock ∧ some k_ ≠ (.slice Ao131 t482.length co131 : Value).ownBlock) (.slice Ao11 t433.length co11) t433) := ⟨by (with_reducible repeat (first | apply Kd.R_alloc | apply Kd.R_drewN | apply Kd.R_drew)); exact Kd.R_mono (Kd.R_far (p := ⟨gb487, 0, none⟩) (Kd.R_far (p := ⟨gb486, 0, none⟩) (Kd.R_types (Kd.R_types HO_438000.out BK486.out (by decide)) BK487.out (by decide)) (fun _ hk => hk.1.2) (.slice Ao123 t479.length co123)) (fun _ hk => hk.2) (.slice Ao131 t482.length co131)) (fun _ hk => ⟨hk.1.1.1.1.1.1.1, ⟨hk.1.1.1.1.1.1.2, ⟨hk.1.1.1.1.1.2, ⟨hk.1.1.1.1.2, ⟨hk.1.1.1.2, hk.1.1.2⟩⟩⟩⟩⟩)⟩
                have n2_ : Aside0 (Kd.R (Kd.int .i64) 3 ((w122.setCell ⟨gb486, 0, none⟩ (.slice Ao123 t479.length co123)).setCell ⟨gb487, 0, none⟩ (.slice Ao131 t482.length co131)) w.heap.size (fun k_ => some k_ ≠ (.slice Ao8 t430.length co8 : Value).ownBlock ∧ some k_ ≠ (.slice Ao11 t433.length co11 : Value).ownBlock ∧ some k_ ≠ (.slice Ao107 t470.length co107 : Value).ownBlock ∧ some k_ ≠ (.slice Ao113 t473.length co113 : Value).ownBlock ∧ some k_ ≠ (.slice Ao123 t479.length co123 : Value).ownBlock ∧ some k_ ≠ (.slice Ao131 t482.length co131 : Value).ownBlock) (.slice Ao15 t438.length co15) t438) := ⟨by (with_reducible repeat (first | apply Kd.R_alloc | apply Kd.R_drewN | apply Kd.R_drew)); exact Kd.R_mono (Kd.R_far (p := ⟨gb487, 0, none⟩) (Kd.R_far (p := ⟨gb486, 0, none⟩) (Kd.R_types (Kd.R_types HO_442000.out BK486.out (by decide)) BK487.out (by decide)) (fun _ hk => hk.1.2) (.slice Ao123 t479.length co123)) (fun _ hk => hk.2) (.slice Ao131 t482.length co131)) (fun _ hk => ⟨hk.1.1.1.1.1.1.1, ⟨hk.1.1.1.1.1.1.2, ⟨hk.1.1.1.1.1.2, ⟨hk.1.1.1.1.2, ⟨hk.1.1.1.2, hk.1.1.2⟩⟩⟩⟩⟩)⟩
                have n3_ : Aside0 (Kd.R (Kd.int .i64) 3 ((w122.setCell ⟨gb486, 0, none⟩ (.slice Ao123 t479.length co123)).setCell ⟨gb487, 0, none⟩ (.slice Ao131 t482.length co131)) w.heap.size (fun k_ => some k_ ≠ (.slice Ao8 t430.length co8 : Value).ownBlock ∧ some k_ ≠ (.slice Ao11 t433.length co11 : Value).ownBlock ∧ some k_ ≠ (.slice Ao15 t438.length co15 : Value).ownBlock ∧ some k_ ≠ (.slice Ao113 t473.length co113 : Value).ownBlock ∧ some k_ ≠ (.slice Ao123 t479.length co123 : Value).ownBlock ∧ some k_ ≠ (.slice Ao131 t482.length co131 : Value).ownBlock) (.slice Ao107 t470.length co107) t470) := ⟨by (with_reducible repeat (first | apply Kd.R_alloc | apply Kd.R_drewN | apply Kd.R_drew)); exact Kd.R_mono (Kd.R_far (p := ⟨gb487, 0, none⟩) (Kd.R_far (p := ⟨gb486, 0, none⟩) (Kd.R_types (Kd.R_types HO472.out BK486.out (by decide)) BK487.out (by decide)) (fun _ hk => hk.1.2) (.slice Ao123 t479.length co123)) (fun _ hk => hk.2) (.slice Ao131 t482.length co131)) (fun _ hk => ⟨hk.1.1.1.1.1.1.2, ⟨hk.1.1.1.1.1.2, ⟨hk.1.1.1.1.2, ⟨hk.1.1.1.1.1.1.1, ⟨hk.1.1.1.2, hk.1.1.2⟩⟩⟩⟩⟩)⟩
                have n4_ : Aside0 (Kd.R (Kd.int .i64) 3 ((w122.setCell ⟨gb486, 0, none⟩ (.slice Ao123 t479.length co123)).setCell ⟨gb487, 0, none⟩ (.slice Ao131 t482.length co131)) w.heap.size (fun k_ => some k_ ≠ (.slice Ao8 t430.length co8 : Value).ownBlock ∧ some k_ ≠ (.slice Ao11 t433.length co11 : Value).ownBlock ∧ some k_ ≠ (.slice Ao15 t438.length co15 : Value).ownBlock ∧ some k_ ≠ (.slice Ao107 t470.length co107 : Value).ownBlock ∧ some k_ ≠ (.slice Ao123 t479.length co123 : Value).ownBlock ∧ some k_ ≠ (.slice Ao131 t482.length co131 : Value).ownBlock) (.slice Ao113 t473.length co113) t473) := ⟨by (with_reducible repeat (first | apply Kd.R_alloc | apply Kd.R_drewN | apply Kd.R_drew)); exact Kd.R_mono (Kd.R_far (p := ⟨gb487, 0, none⟩) (Kd.R_far (p := ⟨gb486, 0, none⟩) (Kd.R_types (Kd.R_types HO475.out BK486.out (by decide)) BK487.out (by decide)) (fun _ hk => hk.1.2) (.slice Ao123 t479.length co123)) (fun _ hk => hk.2) (.slice Ao131 t482.length co131)) (fun _ hk => ⟨hk.1.1.1.1.1.1.2, ⟨hk.1.1.1.1.1.2, ⟨hk.1.1.1.1.2, ⟨hk.1.1.1.1.1.1.1, ⟨hk.1.1.1.2, hk.1.1.2⟩⟩⟩⟩⟩)⟩
                have n5_ : Aside0 (Kd.R (Kd.int .i64) 3 ((w122.setCell ⟨gb486, 0, none⟩ (.slice Ao123 t479.length co123)).setCell ⟨gb487, 0, none⟩ (.slice Ao131 t482.length co131)) w.heap.size (fun k_ => some k_ ≠ (.slice Ao8 t430.length co8 : Value).ownBlock ∧ some k_ ≠ (.slice Ao11 t433.length co11 : Value).ownBlock ∧ some k_ ≠ (.slice Ao15 t438.length co15 : Value).ownBlock ∧ some k_ ≠ (.slice Ao107 t470.length co107 : Value).ownBlock ∧ some k_ ≠ (.slice Ao113 t473.length co113 : Value).ownBlock ∧ some k_ ≠ (.slice Ao131 t482.length co131 : Value).ownBlock) (.slice Ao123 t479.length co123) t479) := ⟨by (with_reducible repeat (first | apply Kd.R_alloc | apply Kd.R_drewN | apply Kd.R_drew)); exact Kd.R_mono (Kd.R_far (p := ⟨gb487, 0, none⟩) (Kd.R_far (p := ⟨gb486, 0, none⟩) (Kd.R_types (Kd.R_types HO481.out BK486.out (by decide)) BK487.out (by decide)) (fun _ hk => hk.1.2) (.slice Ao123 t479.length co123)) (fun _ hk => hk.2) (.slice Ao131 t482.length co131)) (fun _ hk => ⟨hk.1.1.1.1.1.1.2, ⟨hk.1.1.1.1.1.2, ⟨hk.1.1.1.1.2, ⟨hk.1.1.1.2, ⟨hk.1.1.2, hk.1.1.1.1.1.1.1⟩⟩⟩⟩⟩)⟩
                have n6_ : Aside0 (Kd.R (Kd.int .i64) 3 ((w122.setCell ⟨gb486, 0, none⟩ (.slice Ao123 t479.length co123)).setCell ⟨gb487, 0, none⟩ (.slice Ao131 t482.length co131)) w.heap.size (fun k_ => some k_ ≠ (.slice Ao8 t430.length co8 : Value).ownBlock ∧ some k_ ≠ (.slice Ao11 t433.length co11 : Value).ownBlock ∧ some k_ ≠ (.slice Ao15 t438.length co15 : Value).ownBlock ∧ some k_ ≠ (.slice Ao107 t470.length co107 : Value).ownBlock ∧ some k_ ≠ (.slice Ao113 t473.length co113 : Value).ownBlock ∧ some k_ ≠ (.slice Ao123 t479.length co123 : Value).ownBlock) (.slice Ao131 t482.length co131) t482) := ⟨by (with_reducible repeat (first | apply Kd.R_alloc | apply Kd.R_drewN | apply Kd.R_drew)); exact Kd.R_mono (Kd.R_far (p := ⟨gb487, 0, none⟩) (Kd.R_far (p := ⟨gb486, 0, none⟩) (Kd.R_types (Kd.R_types HO484.out BK486.out (by decide)) BK487.out (by decide)) (fun _ hk => hk.1.2) (.slice Ao123 t479.length co123)) (fun _ hk => hk.2) (.slice Ao131 t482.length co131)) (fun _ hk => ⟨hk.1.1.1.1.1.1.2, ⟨hk.1.1.1.1.1.2, ⟨hk.1.1.1.1.2, ⟨hk.1.1.1.2, ⟨hk.1.1.2, hk.1.1.1.1.1.1.1⟩⟩⟩⟩⟩)⟩
                have n7_ : Aside0 (((w122.setCell ⟨gb486, 0, none⟩ (.slice Ao123 t479.length co123)).setCell ⟨gb487, 0, none⟩ (.slice Ao131 t482.length co131)).heap[gb436]? = some (.cells #[.slice Ao8 t430.length co8] 38 (0, 0))) := ⟨by (with_reducible repeat (first | refine blk_drewN ?_ _ | refine blk_drew ?_ | refine blk_alloc ?_ _)); refine blk_far ?_ NB436_487.out _; (with_reducible repeat (first | refine blk_drewN ?_ _ | refine blk_drew ?_ | refine blk_alloc ?_ _)); refine blk_far ?_ NB436_486.out _; (with_reducible repeat (first | refine blk_drewN ?_ _ | refine blk_drew ?_ | refine blk_alloc ?_ _)); exact BK436.out⟩
                have n8_ : Aside0 (((w122.setCell ⟨gb486, 0, none⟩ (.slice Ao123 t479.length co123)).setCell ⟨gb487, 0, none⟩ (.slice Ao131 t482.length co131)).heap[gb437]? = some (.cells #[.slice Ao11 t433.length co11] 38 (0, 0))) := ⟨by (with_reducible repeat (first | refine blk_drewN ?_ _ | refine blk_drew ?_ | refine blk_alloc ?_ _)); refine blk_far ?_ NB437_487.out _; (with_reducible repeat (first | refine blk_drewN ?_ _ | refine blk_drew ?_ | refine blk_alloc ?_ _)); refine blk_far ?_ NB437_486.out _; (with_reducible repeat (first | refine blk_drewN ?_ _ | refine blk_drew ?_ | refine blk_alloc ?_ _)); exact BK437.out⟩
                have n9_ : Aside0 (((w122.setCell ⟨gb486, 0, none⟩ (.slice Ao123 t479.length co123)).setCell ⟨gb487, 0, none⟩ (.slice Ao131 t482.length co131)).heap[gb441]? = some (.cells #[.slice Ao15 t438.length co15] 38 (0, 0))) := ⟨by (with_reducible repeat (first | refine blk_drewN ?_ _ | refine blk_drew ?_ | refine blk_alloc ?_ _)); refine blk_far ?_ NB441_487.out _; (with_reducible repeat (first | refine blk_drewN ?_ _ | refine blk_drew ?_ | refine blk_alloc ?_ _)); refine blk_far ?_ NB441_486.out _; (with_reducible repeat (first | refine blk_drewN ?_ _ | refine blk_drew ?_ | refine blk_alloc ?_ _)); exact BK441.out⟩
                have n10_ : Aside0 (((w122.setCell ⟨gb486, 0, none⟩ (.slice Ao123 t479.length co123)).setCell ⟨gb487, 0, none⟩ (.slice Ao131 t482.length co131)).heap[gb477]? = some (.cells #[.slice Ao107 t470.length co107] 38 (0, 0))) := ⟨by (with_reducible repeat (first | refine blk_drewN ?_ _ | refine blk_drew ?_ | refine blk_alloc ?_ _)); refine blk_far ?_ NB477_487.out _; (with_reducible repeat (first | refine blk_drewN ?_ _ | refine blk_drew ?_ | refine blk_alloc ?_ _)); refine blk_far ?_ NB477_486.out _; (with_reducible repeat (first | refine blk_drewN ?_ _ | refine blk_drew ?_ | refine blk_alloc ?_ _)); exact BK477.out⟩
                have n11_ : Aside0 (((w122.setCell ⟨gb486, 0, none⟩ (.slice Ao123 t479.length co123)).setCell ⟨gb487, 0, none⟩ (.slice Ao131 t482.length co131)).heap[gb478]? = some (.cells #[.slice Ao113 t473.length co113] 38 (0, 0))) := ⟨by (with_reducible repeat (first | refine blk_drewN ?_ _ | refine blk_drew ?_ | refine blk_alloc ?_ _)); refine blk_far ?_ NB478_487.out _; (with_reducible repeat (first | refine blk_drewN ?_ _ | refine blk_drew ?_ | refine blk_alloc ?_ _)); refine blk_far ?_ NB478_486.out _; (with_reducible repeat (first | refine blk_drewN ?_ _ | refine blk_drew ?_ | refine blk_alloc ?_ _)); exact BK478.out⟩
                have n12_ : Aside0 (((w122.setCell ⟨gb486, 0, none⟩ (.slice Ao123 t479.length co123)).setCell ⟨gb487, 0, none⟩ (.slice Ao131 t482.length co131)).heap[gb486]? = some (.cells #[.slice Ao123 t479.length co123] 38 (0, 0))) := ⟨by (with_reducible repeat (first | refine blk_drewN ?_ _ | refine blk_drew ?_ | refine blk_alloc ?_ _)); refine blk_far ?_ NB486_487.out _; (with_reducible repeat (first | refine blk_drewN ?_ _ | refine blk_drew ?_ | refine blk_alloc ?_ _)); refine blk_put (cs := #[.slice none 0 0]) ?_ 0 _ rfl; (with_reducible repeat (first | refine blk_drewN ?_ _ | refine blk_drew ?_ | refine blk_alloc ?_ _)); exact BK486.out⟩
                have n13_ : Aside0 (((w122.setCell ⟨gb486, 0, none⟩ (.slice Ao123 t479.length co123)).setCell ⟨gb487, 0, none⟩ (.slice Ao131 t482.length co131)).heap[gb487]? = some (.cells #[.slice Ao131 t482.length co131] 38 (0, 0))) := ⟨by (with_reducible repeat (first | refine blk_drewN ?_ _ | refine blk_drew ?_ | refine blk_alloc ?_ _)); refine blk_put (cs := #[.slice none 0 0]) ?_ 0 _ rfl; (with_reducible repeat (first | refine blk_drewN ?_ _ | refine blk_drew ?_ | refine blk_alloc ?_ _)); refine blk_far ?_ NB487_486.out _; (with_reducible repeat (first | refine blk_drewN ?_ _ | refine blk_drew ?_ | refine blk_alloc ?_ _)); exact BK487.out⟩
                have n14_ : Aside0 (Below w.heap.size w ((w122.setCell ⟨gb486, 0, none⟩ (.slice Ao123 t479.length co123)).setCell ⟨gb487, 0, none⟩ (.slice Ao131 t482.length co131))) := ⟨by repeat (first | (with_reducible first | exact HB.out | apply below_alloc | apply pw_below_drewN | apply below_drew1 | refine below_set ?_ GE436.out | refine below_set ?_ GE437.out | refine below_set ?_ GE441.out | refine below_set ?_ GE477.out | refine below_set ?_ GE478.out | refine below_set ?_ GE486.out | refine below_set ?_ GE487.out) | exact HB.out)⟩
                (try clear HO_437000)
                (try clear HO_438000)
                (try clear HO_442000)
                (try clear HO472)
                (try clear HO475)
                (try clear HO481)
                (try clear HO484)
                (try clear BK436)
                (try clear BK437)
                (try clear BK441)
                (try clear BK477)
                (try clear BK478)
                (try clear BK486)
                (try clear BK487)
                (try clear HB)
                generalize ((w122.setCell ⟨gb486, 0, none⟩ (.slice Ao123 t479.length co123)).setCell ⟨gb487, 0, none⟩ (.slice Ao131 t482.length co131)) = w138 at n0_ n1_ n2_ n3_ n4_ n5_ n6_ n7_ n8_ n9_ n10_ n11_ n12_ n13_ n14_ ⊢
                have HO_437000 := n0_
                have HO_438000 := n1_
                have HO_442000 := n2_
                have HO472 := n3_
                have HO475 := n4_
                have HO481 := n5_
                have HO484 := n6_
                have BK436 := n7_
                have BK437 := n8_
                have BK441 := n9_
                have BK477 := n10_
                have BK478 := n11_
                have BK486 := n12_
                have BK487 := n13_
                have HB := n14_
                clear n0_ n1_ n2_ n3_ n4_ n5_ n6_ n7_ n8_ n9_ n10_ n11_ n12_ n13_ n14_
                have n0_ := Aside0.mk (Kd.R_drew HO_437000.out)
                have n1_ := Aside0.mk (Kd.R_drew HO_438000.out)
                have n2_ := Aside0.mk (Kd.R_drew HO_442000.out)
                have n3_ := Aside0.mk (Kd.R_drew HO472.out)
                have n4_ := Aside0.mk (Kd.R_drew HO475.out)
                have n5_ := Aside0.mk (Kd.R_drew HO481.out)
                have n6_ := Aside0.mk (Kd.R_drew HO484.out)
                have n7_ := Aside0.mk (blk_drew BK436.out)
                have n8_ := Aside0.mk (blk_drew BK437.out)
                have n9_ := Aside0.mk (blk_drew BK441.out)
                have n10_ := Aside0.mk (blk_drew BK477.out)
                have n11_ := Aside0.mk (blk_drew BK478.out)
                have n12_ := Aside0.mk (blk_drew BK486.out)
                have n13_ := Aside0.mk (blk_drew BK487.out)
                have n14_ := Aside0.mk (below_drew1 HB.out)
                clear HO_437000
                clear HO_438000
                clear HO_442000
                clear HO472
                clear HO475
                clear HO481
                clear HO484
                clear BK436
                clear BK437
                clear BK441
                clear BK477
                clear BK478
                clear BK486
                clear BK487
                clear HB
                have HO_437000 := n0_
                have HO_438000 := n1_
                have HO_442000 := n2_
                have HO472 := n3_
                have HO475 := n4_
                have HO481 := n5_
                have HO484 := n6_
                have BK436 := n7_
                have BK437 := n8_
                have BK441 := n9_
                have BK477 := n10_
                have BK478 := n11_
                have BK486 := n12_
                have BK487 := n13_
                have HB := n14_
                clear n0_ n1_ n2_ n3_ n4_ n5_ n6_ n7_ n8_ n9_ n10_ n11_ n12_ n13_ n14_
                refine start_ (n := 25) (S := fun w' => w'.cell? ⟨gb478, 0, none⟩ = some (.slice Ao113 t473.length co113) ∧ w'.cell? ⟨gb487, 0, none⟩ = some (.slice Ao131 t482.length co131) ∧ w'.cell? ⟨gb477, 0, none⟩ = some (.slice Ao107 t470.length co107) ∧ w'.cell? ⟨gb486, 0, none⟩ = some (.slice Ao123 t479.length co123) ∧ w'.cell? ⟨gb437, 0, none⟩ = some (.slice Ao11 t433.length co11) ∧ w'.cell? ⟨gb436, 0, none⟩ = some (.slice Ao8 t430.length co8) ∧ w'.cell? ⟨gb441, 0, none⟩ = some (.slice Ao15 t438.length co15)) (ds := []) #[false, false, false, false, false, false, false, false, false, false, false, false, false, false, false, false, false, false, false, false, false, false, false, false, false] (by kernel_rfl) rfl rfl ⟨(blk_cell BK478.out 0).trans rfl, (blk_cell BK487.out 0).trans rfl, (blk_cell BK477.out 0).trans rfl, (blk_cell BK486.out 0).trans rfl, (blk_cell BK437.out 0).trans rfl, (blk_cell BK436.out 0).trans rfl, (blk_cell BK441.out 0).trans rfl⟩ (fun hHeld => ?_); refine with_tabW laws_FnNatGcds.tab9 laws_FnNatGcds.bits9 (fun HT_ HW_ => ?_)
                generalize w138.drew = w139 at HO_437000 HO_438000 HO_442000 HO472 HO475 HO481 HO484 BK436 BK437 BK441 BK477 BK478 BK486 BK487 HB hHeld ⊢
                refine pure_ (i := 0) (N := some 74) (v := ?_) (a' := ?_) #[true, false, false, false, false, false, false, false, false, false, false, false, false, false, false, false, false, false, false, false, false, false, false, false, false] rfl rfl (any_of HT_.out (by kernel_rfl)) (fun _ _ _ h => h) (Or.inl ⟨by rfl, ?_⟩) ?_ ?_
                rotate_left
                · intro w'
                  go_simp
                  with_reducible rfl
                rotate_left
                · simp only [Act.put, List.setIfInBounds_toArray, List.set_cons_zero, List.set_cons_succ, i64_w, i32_w]
                  rfl
                refine take_ (i := 1) (N := some 75) (v := ?_) (a' := ?_) #[true, true, false, false, false, false, false, false, false, false, false, false, false, false, false, false, false, false, false, false, false, false, false, false, false] rfl rfl (take_ofW HT_.out HW_.out (by kernel_rfl)) (fun _ _ _ h => h) (Or.inl ⟨by rfl, ?_⟩) hHeld ?_ ?_
                rotate_left
                · rintro w' ⟨s0, s1, s2, s3, s4, s5, s6⟩
                  go_simp
                  with_reducible rfl
                rotate_left
                · simp only [Act.put, List.setIfInBounds_toArray, List.set_cons_zero, List.set_cons_succ, i64_w, i32_w]
                  rfl
                refine pure_ (i := 2) (N := some 76) (v := ?_) (a' := ?_) #[true, true, true, false, false, false, false, false, false, false, false, false, false, false, false, false, false, false, false, false, false, false, false, false, false] rfl rfl (any_of HT_.out (by kernel_rfl)) (fun _ _ _ h => h) (Or.inl ⟨by rfl, ?_⟩) ?_ ?_
                rotate_left
                · intro w'
                  go_simp
                  with_reducible rfl
                rotate_left
                · simp only [Act.put, List.setIfInBounds_toArray, List.set_cons_zero, List.set_cons_succ, i64_w, i32_w]
                  rfl
                refine pure_ (i := 3) (N := some 77) (v := ?_) (a' := ?_) #[true, true, true, true, false, false, false, false, false, false, false, false, false, false, false, false, false, false, false, false, false, false, false, false, false] rfl rfl (any_of HT_.out (by kernel_rfl)) (fun _ _ _ h => h) (Or.inl ⟨by rfl, ?_⟩) ?_ ?_
                rotate_left
                · intro w'
                  go_simp
                  with_reducible rfl
                rotate_left
                · simp only [Act.put, List.setIfInBounds_toArray, List.set_cons_zero, List.set_cons_succ, i64_w, i32_w]
                  rfl
                refine pure_ (i := 4) (N := some 78) (v := ?_) (a' := ?_) #[true, true, true, true, true, false, false, false, false, false, false, false, false, false, false, false, false, false, false, false, false, false, false, false, false] rfl rfl (any_of HT_.out (by kernel_rfl)) (fun _ _ _ h => h) (Or.inl ⟨by rfl, ?_⟩) ?_ ?_
                rotate_left
                · intro w'
                  go_simp
                  with_reducible rfl
                rotate_left
                · simp only [Act.put, List.setIfInBounds_toArray, List.set_cons_zero, List.set_cons_succ, i64_w, i32_w]
                  rfl
                refine pure_ (i := 5) (N := some 79) (v := ?_) (a' := ?_) #[true, true, true, true, true, true, false, false, false, false, false, false, false, false, false, false, false, false, false, false, false, false, false, false, false] rfl rfl (any_of HT_.out (by kernel_rfl)) (fun _ _ _ h => h) (Or.inl ⟨by rfl, ?_⟩) ?_ ?_
                rotate_left
                · intro w'
                  go_simp
                  with_reducible rfl
                rotate_left
                · simp only [Act.put, List.setIfInBounds_toArray, List.set_cons_zero, List.set_cons_succ, i64_w, i32_w]
                  rfl
                refine take_ (i := 6) (N := some 80) (v := ?_) (a' := ?_) #[true, true, true, true, true, true, true, false, false, false, false, false, false, false, false, false, false, false, false, false, false, false, false, false, false] rfl rfl (take_ofW HT_.out HW_.out (by kernel_rfl)) (fun _ _ _ h => h) (Or.inl ⟨by rfl, ?_⟩) hHeld ?_ ?_
                rotate_left
                · rintro w' ⟨s0, s1, s2, s3, s4, s5, s6⟩
                  go_simp
                  with_reducible rfl
                rotate_left
                · simp only [Act.put, List.setIfInBounds_toArray, List.set_cons_zero, List.set_cons_succ, i64_w, i32_w]
                  rfl
                refine pure_ (i := 7) (N := some 81) (v := ?_) (a' := ?_) #[true, true, true, true, true, true, true, true, false, false, false, false, false, false, false, false, false, false, false, false, false, false, false, false, false] rfl rfl (any_of HT_.out (by kernel_rfl)) (fun _ _ _ h => h) (Or.inl ⟨by rfl, ?_⟩) ?_ ?_
                rotate_left
                · intro w'
                  go_simp
                  with_reducible rfl
                rotate_left
                · simp only [Act.put, List.setIfInBounds_toArray, List.set_cons_zero, List.set_cons_succ, i64_w, i32_w]
                  rfl
                refine pure_ (i := 8) (N := some 82) (v := ?_) (a' := ?_) #[true, true, true, true, true, true, true, true, true, false, false, false, false, false, false, false, false, false, false, false, false, false, false, false, false] rfl rfl (any_of HT_.out (by kernel_rfl)) (fun _ _ _ h => h) (Or.inl ⟨by rfl, ?_⟩) ?_ ?_
                rotate_left
                · intro w'
                  go_simp
                  with_reducible rfl
                rotate_left
                · simp only [Act.put, List.setIfInBounds_toArray, List.set_cons_zero, List.set_cons_succ, i64_w, i32_w]
                  rfl
                refine pure_ (i := 9) (N := some 83) (v := ?_) (a' := ?_) #[true, true, true, true, true, true, true, true, true, true, false, false, false, false, false, false, false, false, false, false, false, false, false, false, false] rfl rfl (any_of HT_.out (by kernel_rfl)) (fun _ _ _ h => h) (Or.inl ⟨by rfl, ?_⟩) ?_ ?_
                rotate_left
                · intro w'
                  go_simp
                  with_reducible rfl
                rotate_left
                · simp only [Act.put, List.setIfInBounds_toArray, List.set_cons_zero, List.set_cons_succ, i64_w, i32_w]
                  rfl
                refine pure_ (i := 10) (N := some 84) (v := ?_) (a' := ?_) #[true, true, true, true, true, true, true, true, true, true, true, false, false, false, false, false, false, false, false, false, false, false, false, false, false] rfl rfl (any_of HT_.out (by kernel_rfl)) (fun _ _ _ h => h) (Or.inl ⟨by rfl, ?_⟩) ?_ ?_
                rotate_left
                · intro w'
                  go_simp
                  with_reducible rfl
                rotate_left
                · simp only [Act.put, List.setIfInBounds_toArray, List.set_cons_zero, List.set_cons_succ, i64_w, i32_w]
                  rfl
                refine take_ (i := 11) (N := some 85) (v := ?_) (a' := ?_) #[true, true, true, true, true, true, true, true, true, true, true, true, false, false, false, false, false, false, false, false, false, false, false, false, false] rfl rfl (take_ofW HT_.out HW_.out (by kernel_rfl)) (fun _ _ _ h => h) (Or.inl ⟨by rfl, ?_⟩) hHeld ?_ ?_
                rotate_left
                · rintro w' ⟨s0, s1, s2, s3, s4, s5, s6⟩
                  go_simp
                  with_reducible rfl
                rotate_left
                · simp only [Act.put, List.setIfInBounds_toArray, List.set_cons_zero, List.set_cons_succ, i64_w, i32_w]
                  rfl
                refine take_ (i := 12) (N := some 86) (v := ?_) (a' := ?_) #[true, true, true, true, true, true, true, true, true, true, true, true, true, false, false, false, false, false, false, false, false, false, false, false, false] rfl rfl (take_ofW HT_.out HW_.out (by kernel_rfl)) (fun _ _ _ h => h) (Or.inl ⟨by rfl, ?_⟩) hHeld ?_ ?_
                rotate_left
                · rintro w' ⟨s0, s1, s2, s3, s4, s5, s6⟩
                  go_simp
                  with_reducible rfl
                rotate_left
                · simp only [Act.put, List.setIfInBounds_toArray, List.set_cons_zero, List.set_cons_succ, i64_w, i32_w]
                  rfl
                refine one_ (i := 13) (N := some 87) #[true, true, true, true, true, true, true, true, true, true, true, true, true, true, false, false, false, false, false, false, false, false, false, false, false] rfl rfl (one_of HT_.out (by kernel_rfl)) (by decide) (fun K hK => ?_)
                refine goes_ Try.func19 (by kernel_rfl) rfl #[.agg #[.slice Ao107 t470.length co107], .agg #[.slice Ao123 t479.length co123]] (by rfl) rfl rfl hkL ?_
                with_reducible refine (impl_NatGcd.calls kj3 _ _ t470 _ _ t479 t488 _ ?side1 ?side2 ?side3 ?side4 A93.out).mono ?_
                (case side1 => repeat (first | exact (Kd.R_reads' HO472.out).2.2 | (with_reducible refine Kd.C_alloc ?_ _) | (with_reducible refine Kd.C_drewN ?_ _) | (with_reducible refine Kd.C_drew ?_)))
                (case side2 => exact (Kd.R_reads' HO472.out).2.1)
                (case side3 => repeat (first | exact (Kd.R_reads' HO481.out).2.2 | (with_reducible refine Kd.C_alloc ?_ _) | (with_reducible refine Kd.C_drewN ?_ _) | (with_reducible refine Kd.C_drew ?_)))
                (case side4 => exact (Kd.R_reads' HO481.out).2.1)
                rintro e w140 ⟨v489, rfl, ho0, hb⟩
                refine ⟨_, rfl, ?_⟩
                have n0_ := Aside0.mk (Kd.R_elder' (hkR HO_437000) (Kd.R_base ho0) hb)
                have n1_ := Aside0.mk (Kd.R_elder' (hkR HO_438000) (Kd.R_base ho0) hb)
                have n2_ := Aside0.mk (Kd.R_elder' (hkR HO_442000) (Kd.R_base ho0) hb)
                have n3_ := Aside0.mk (Kd.R_elder' (hkR HO472) (Kd.R_base ho0) hb)
                have n4_ := Aside0.mk (Kd.R_elder' (hkR HO475) (Kd.R_base ho0) hb)
                have n5_ := Aside0.mk (Kd.R_elder' (hkR HO481) (Kd.R_base ho0) hb)
                have n6_ := Aside0.mk (Kd.R_elder' (hkR HO484) (Kd.R_base ho0) hb)
                have n7_ := Aside0.mk (Kd.R_lower (Kd.R_new' (Kd.R_new' (Kd.R_new' (Kd.R_new' (Kd.R_new' (Kd.R_new' (Kd.R_new' ho0 (Kd.R_lt (hkR HO_437000))) (Kd.R_lt (hkR HO_438000))) (Kd.R_lt (hkR HO_442000))) (Kd.R_lt (hkR HO472))) (Kd.R_lt (hkR HO475))) (Kd.R_lt (hkR HO481))) (Kd.R_lt (hkR HO484))) (below_size (hkS HB)))
                have n8_ := hkBb BK436 hb
                have n9_ := hkBb BK437 hb
                have n10_ := hkBb BK441 hb
                have n11_ := hkBb BK477 hb
                have n12_ := hkBb BK478 hb
                have n13_ := hkBb BK486 hb
                have n14_ := hkBb BK487 hb
                have n15_ := Aside0.mk (below_step (hkS HB) hb)
                clear HO_437000
                clear HO_438000
                clear HO_442000
                clear HO472
                clear HO475
                clear HO481
                clear HO484
                clear BK436
                clear BK437
                clear BK441
                clear BK477
                clear BK478
                clear BK486
                clear BK487
                clear HB
                have HO_437000 := n0_
                have HO_438000 := n1_
                have HO_442000 := n2_
                have HO472 := n3_
                have HO475 := n4_
                have HO481 := n5_
                have HO484 := n6_
                have HO490 := n7_
                have BK436 := n8_
                have BK437 := n9_
                have BK441 := n10_
                have BK477 := n11_
                have BK478 := n12_
                have BK486 := n13_
                have BK487 := n14_
                have HB := n15_
                clear n0_ n1_ n2_ n3_ n4_ n5_ n6_ n7_ n8_ n9_ n10_ n11_ n12_ n13_ n14_ n15_
                (try clear hb)
                (try clear hb2)
                (try clear hk)
                (try clear hi)
                (try clear ho0)
                refine hK.out _ _ ⟨(blk_cell BK478.out 0).trans rfl, (blk_cell BK487.out 0).trans rfl, (blk_cell BK477.out 0).trans rfl, (blk_cell BK486.out 0).trans rfl, (blk_cell BK437.out 0).trans rfl, (blk_cell BK436.out 0).trans rfl, (blk_cell BK441.out 0).trans rfl⟩ (fun hHeld => ?_)
                clear hK K
                refine norm_ (a' := ?_) ?_ ?_
                rotate_left
                · show Act.put _ (some 87) _ = _
                  simp only [Act.put, List.setIfInBounds_toArray, List.set_cons_zero, List.set_cons_succ, i64_w, i32_w]
                  rfl
                refine one_ (i := 14) (N := some 88) #[true, true, true, true, true, true, true, true, true, true, true, true, true, true, true, false, false, false, false, false, false, false, false, false, false] rfl rfl (one_of HT_.out (by kernel_rfl)) (by decide) (fun K hK => ?_)
                refine goes_ Try.func22 (by kernel_rfl) rfl #[.int .i64 1] (by rfl) rfl rfl hkL ?_
                with_reducible refine (laws_nat.calls kj3 1 t491 _ A94.out).mono ?_
                rintro e w141 ⟨v492, rfl, ho0, hb⟩
                refine ⟨_, rfl, ?_⟩
                have n0_ := Aside0.mk (Kd.R_elder' (hkR HO_437000) (Kd.R_base ho0) hb)
                have n1_ := Aside0.mk (Kd.R_elder' (hkR HO_438000) (Kd.R_base ho0) hb)
                have n2_ := Aside0.mk (Kd.R_elder' (hkR HO_442000) (Kd.R_base ho0) hb)
                have n3_ := Aside0.mk (Kd.R_elder' (hkR HO472) (Kd.R_base ho0) hb)
                have n4_ := Aside0.mk (Kd.R_elder' (hkR HO475) (Kd.R_base ho0) hb)
                have n5_ := Aside0.mk (Kd.R_elder' (hkR HO481) (Kd.R_base ho0) hb)
                have n6_ := Aside0.mk (Kd.R_elder' (hkR HO484) (Kd.R_base ho0) hb)
                have n7_ := Aside0.mk (Kd.R_elder' (hkR HO490) (Kd.R_base ho0) hb)
                have n8_ := Aside0.mk (Kd.R_lower (Kd.R_new' (Kd.R_new' (Kd.R_new' (Kd.R_new' (Kd.R_new' (Kd.R_new' (Kd.R_new' (Kd.R_new' ho0 (Kd.R_lt (hkR HO_437000))) (Kd.R_lt (hkR HO_438000))) (Kd.R_lt (hkR HO_442000))) (Kd.R_lt (hkR HO472))) (Kd.R_lt (hkR HO475))) (Kd.R_lt (hkR HO481))) (Kd.R_lt (hkR HO484))) (Kd.R_lt (hkR HO490))) (below_size (hkS HB)))
                have n9_ := hkBb BK436 hb
                have n10_ := hkBb BK437 hb
                have n11_ := hkBb BK441 hb
                have n12_ := hkBb BK477 hb
                have n13_ := hkBb BK478 hb
                have n14_ := hkBb BK486 hb
                have n15_ := hkBb BK487 hb
                have n16_ := Aside0.mk (below_step (hkS HB) hb)
                clear HO_437000
                clear HO_438000
                clear HO_442000
                clear HO472
                clear HO475
                clear HO481
                clear HO484
                clear HO490
                clear BK436
                clear BK437
                clear BK441
                clear BK477
                clear BK478
                clear BK486
                clear BK487
                clear HB
                have HO_437000 := n0_
                have HO_438000 := n1_
                have HO_442000 := n2_
                have HO472 := n3_
                have HO475 := n4_
                have HO481 := n5_
                have HO484 := n6_
                have HO490 := n7_
                have HO493 := n8_
                have BK436 := n9_
                have BK437 := n10_
                have BK441 := n11_
                have BK477 := n12_
                have BK478 := n13_
                have BK486 := n14_
                have BK487 := n15_
                have HB := n16_
                clear n0_ n1_ n2_ n3_ n4_ n5_ n6_ n7_ n8_ n9_ n10_ n11_ n12_ n13_ n14_ n15_ n16_
                (try clear hb)
                (try clear hb2)
                (try clear hk)
                (try clear hi)
                (try clear ho0)
                obtain ⟨Ao142, co142, eo142⟩ := Kd.R_slice HO490.out
                (first | subst eo142 | (injection eo142 with f1_ f2_ f3_; have f4_ := f1_.symm; have f5_ := f3_.symm; clear f1_ f2_ f3_; subst f4_; subst f5_))
                obtain ⟨Ao143, co143, eo143⟩ := Kd.R_slice HO493.out
                (first | subst eo143 | (injection eo143 with f1_ f2_ f3_; have f4_ := f1_.symm; have f5_ := f3_.symm; clear f1_ f2_ f3_; subst f4_; subst f5_))
                refine hK.out _ _ ⟨(blk_cell BK478.out 0).trans rfl, (blk_cell BK487.out 0).trans rfl, (blk_cell BK477.out 0).trans rfl, (blk_cell BK486.out 0).trans rfl, (blk_cell BK437.out 0).trans rfl, (blk_cell BK436.out 0).trans rfl, (blk_cell BK441.out 0).trans rfl⟩ (fun hHeld => ?_)
                clear hK K
                refine norm_ (a' := ?_) ?_ ?_
                rotate_left
                · show Act.put _ (some 88) _ = _
                  simp only [Act.put, List.setIfInBounds_toArray, List.set_cons_zero, List.set_cons_succ, i64_w, i32_w]
                  rfl
                refine one_ (i := 15) (N := some 89) #[true, true, true, true, true, true, true, true, true, true, true, true, true, true, true, true, false, false, false, false, false, false, false, false, false] rfl rfl (one_of HT_.out (by kernel_rfl)) (by decide) (fun K hK => ?_)
                refine goes_ Try.func21 (by kernel_rfl) rfl #[.agg #[.slice Ao142 t488.length co142], .agg #[.slice Ao143 t491.length co143]] (by rfl) rfl rfl hkL ?_
                with_reducible refine (laws_sameNat.calls kj3 _ _ t488 _ _ t491 true _ ?side1 ?side2 ?side3 ?side4 A95.out).mono ?_
                (case side1 => repeat (first | exact (Kd.R_reads' HO490.out).2.2 | (with_reducible refine Kd.C_alloc ?_ _) | (with_reducible refine Kd.C_drewN ?_ _) | (with_reducible refine Kd.C_drew ?_)))
                (case side2 => exact (Kd.R_reads' HO490.out).2.1)
                (case side3 => repeat (first | exact (Kd.R_reads' HO493.out).2.2 | (with_reducible refine Kd.C_alloc ?_ _) | (with_reducible refine Kd.C_drewN ?_ _) | (with_reducible refine Kd.C_drew ?_)))
                (case side4 => exact (Kd.R_reads' HO493.out).2.1)
                rintro e w144 ⟨rfl, hb⟩
                refine ⟨_, rfl, ?_⟩
                have n0_ := hkRb HO_437000 hb
                have n1_ := hkRb HO_438000 hb
                have n2_ := hkRb HO_442000 hb
                have n3_ := hkRb HO472 hb
                have n4_ := hkRb HO475 hb
                have n5_ := hkRb HO481 hb
                have n6_ := hkRb HO484 hb
                have n7_ := hkRb HO490 hb
                have n8_ := hkRb HO493 hb
                have n9_ := hkBb BK436 hb
                have n10_ := hkBb BK437 hb
                have n11_ := hkBb BK441 hb
                have n12_ := hkBb BK477 hb
                have n13_ := hkBb BK478 hb
                have n14_ := hkBb BK486 hb
                have n15_ := hkBb BK487 hb
                have n16_ := Aside0.mk (below_step (hkS HB) hb)
                clear HO_437000
                clear HO_438000
                clear HO_442000
                clear HO472
                clear HO475
                clear HO481
                clear HO484
                clear HO490
                clear HO493
                clear BK436
                clear BK437
                clear BK441
                clear BK477
                clear BK478
                clear BK486
                clear BK487
                clear HB
                have HO_437000 := n0_
                have HO_438000 := n1_
                have HO_442000 := n2_
                have HO472 := n3_
                have HO475 := n4_
                have HO481 := n5_
                have HO484 := n6_
                have HO490 := n7_
                have HO493 := n8_
                have BK436 := n9_
                have BK437 := n10_
                have BK441 := n11_
                have BK477 := n12_
                have BK478 := n13_
                have BK486 := n14_
                have BK487 := n15_
                have HB := n16_
                clear n0_ n1_ n2_ n3_ n4_ n5_ n6_ n7_ n8_ n9_ n10_ n11_ n12_ n13_ n14_ n15_ n16_
                (try clear hb)
                (try clear hb2)
                (try clear hk)
                (try clear hi)
                refine hK.out _ _ ⟨(blk_cell BK478.out 0).trans rfl, (blk_cell BK487.out 0).trans rfl, (blk_cell BK477.out 0).trans rfl, (blk_cell BK486.out 0).trans rfl, (blk_cell BK437.out 0).trans rfl, (blk_cell BK436.out 0).trans rfl, (blk_cell BK441.out 0).trans rfl⟩ (fun hHeld => ?_)
                clear hK K
                refine norm_ (a' := ?_) ?_ ?_
                rotate_left
                · show Act.put _ (some 89) _ = _
                  simp only [Act.put, List.setIfInBounds_toArray, List.set_cons_zero, List.set_cons_succ, i64_w, i32_w]
                  rfl
                refine pure_ (i := 16) (N := some 90) (v := ?_) (a' := ?_) #[true, true, true, true, true, true, true, true, true, true, true, true, true, true, true, true, true, false, false, false, false, false, false, false, false] rfl rfl (any_of HT_.out (by kernel_rfl)) (fun _ _ _ h => h) (Or.inl ⟨by rfl, ?_⟩) ?_ ?_
                rotate_left
                · intro w'
                  go_simp
                  with_reducible rfl
                rotate_left
                · simp only [Act.put, List.setIfInBounds_toArray, List.set_cons_zero, List.set_cons_succ, i64_w, i32_w]
                  rfl
                refine pure_ (i := 17) (N := some 91) (v := ?_) (a' := ?_) #[true, true, true, true, true, true, true, true, true, true, true, true, true, true, true, true, true, true, false, false, false, false, false, false, false] rfl rfl (any_of HT_.out (by kernel_rfl)) (fun _ _ _ h => h) (Or.inl ⟨by rfl, ?_⟩) ?_ ?_
                rotate_left
                · intro w'
                  go_simp
                  with_reducible rfl
                rotate_left
                · simp only [Act.put, List.setIfInBounds_toArray, List.set_cons_zero, List.set_cons_succ, i64_w, i32_w]
                  rfl
                refine take_ (i := 18) (N := some 92) (v := ?_) (a' := ?_) #[true, true, true, true, true, true, true, true, true, true, true, true, true, true, true, true, true, true, true, false, false, false, false, false, false] rfl rfl (take_ofW HT_.out HW_.out (by kernel_rfl)) (fun _ _ _ h => h) (Or.inl ⟨by rfl, ?_⟩) hHeld ?_ ?_
                rotate_left
                · rintro w' ⟨s0, s1, s2, s3, s4, s5, s6⟩
                  go_simp
                  with_reducible rfl
                rotate_left
                · simp only [Act.put, List.setIfInBounds_toArray, List.set_cons_zero, List.set_cons_succ, i64_w, i32_w]
                  rfl
                refine take_ (i := 19) (N := some 93) (v := ?_) (a' := ?_) #[true, true, true, true, true, true, true, true, true, true, true, true, true, true, true, true, true, true, true, true, false, false, false, false, false] rfl rfl (take_ofW HT_.out HW_.out (by kernel_rfl)) (fun _ _ _ h => h) (Or.inl ⟨by rfl, ?_⟩) hHeld ?_ ?_
                rotate_left
                · rintro w' ⟨s0, s1, s2, s3, s4, s5, s6⟩
                  go_simp
                  with_reducible rfl
                rotate_left
                · simp only [Act.put, List.setIfInBounds_toArray, List.set_cons_zero, List.set_cons_succ, i64_w, i32_w]
                  rfl
                refine take_ (i := 21) (N := some 95) (v := ?_) (a' := ?_) #[true, true, true, true, true, true, true, true, true, true, true, true, true, true, true, true, true, true, true, true, false, true, false, false, false] rfl rfl (take_ofW HT_.out HW_.out (by kernel_rfl)) (fun _ _ _ h => h) (Or.inl ⟨by rfl, ?_⟩) hHeld ?_ ?_
                rotate_left
                · rintro w' ⟨s0, s1, s2, s3, s4, s5, s6⟩
                  go_simp
                  with_reducible rfl
                rotate_left
                · simp only [Act.put, List.setIfInBounds_toArray, List.set_cons_zero, List.set_cons_succ, i64_w, i32_w]
                  rfl
                refine one_ (i := 20) (N := some 94) #[true, true, true, true, true, true, true, true, true, true, true, true, true, true, true, true, true, true, true, true, true, true, false, false, false] rfl rfl (one_of HT_.out (by kernel_rfl)) (by decide) (fun K hK => ?_)
                refine goes_ Try.func19 (by kernel_rfl) rfl #[.agg #[.slice Ao11 t433.length co11], .agg #[.slice Ao8 t430.length co8]] (by rfl) rfl rfl hkL ?_
                with_reducible refine (impl_NatGcd.calls kj3 _ _ t433 _ _ t430 t495 _ ?side1 ?side2 ?side3 ?side4 A97.out).mono ?_
                (case side1 => repeat (first | exact (Kd.R_reads' HO_438000.out).2.2 | (with_reducible refine Kd.C_alloc ?_ _) | (with_reducible refine Kd.C_drewN ?_ _) | (with_reducible refine Kd.C_drew ?_)))
                (case side2 => exact (Kd.R_reads' HO_438000.out).2.1)
                (case side3 => repeat (first | exact (Kd.R_reads' HO_437000.out).2.2 | (with_reducible refine Kd.C_alloc ?_ _) | (with_reducible refine Kd.C_drewN ?_ _) | (with_reducible refine Kd.C_drew ?_)))
                (case side4 => exact (Kd.R_reads' HO_437000.out).2.1)
                rintro e w145 ⟨v496, rfl, ho0, hb⟩
                refine ⟨_, rfl, ?_⟩
                have n0_ := Aside0.mk (Kd.R_elder' (hkR HO_437000) (Kd.R_base ho0) hb)
                have n1_ := Aside0.mk (Kd.R_elder' (hkR HO_438000) (Kd.R_base ho0) hb)
                have n2_ := Aside0.mk (Kd.R_elder' (hkR HO_442000) (Kd.R_base ho0) hb)
                have n3_ := Aside0.mk (Kd.R_elder' (hkR HO472) (Kd.R_base ho0) hb)
                have n4_ := Aside0.mk (Kd.R_elder' (hkR HO475) (Kd.R_base ho0) hb)
                have n5_ := Aside0.mk (Kd.R_elder' (hkR HO481) (Kd.R_base ho0) hb)
                have n6_ := Aside0.mk (Kd.R_elder' (hkR HO484) (Kd.R_base ho0) hb)
                have n7_ := Aside0.mk (Kd.R_elder' (hkR HO490) (Kd.R_base ho0) hb)
                have n8_ := Aside0.mk (Kd.R_elder' (hkR HO493) (Kd.R_base ho0) hb)
                have n9_ := Aside0.mk (Kd.R_lower (Kd.R_new' (Kd.R_new' (Kd.R_new' (Kd.R_new' (Kd.R_new' (Kd.R_new' (Kd.R_new' (Kd.R_new' (Kd.R_new' ho0 (Kd.R_lt (hkR HO_437000))) (Kd.R_lt (hkR HO_438000))) (Kd.R_lt (hkR HO_442000))) (Kd.R_lt (hkR HO472))) (Kd.R_lt (hkR HO475))) (Kd.R_lt (hkR HO481))) (Kd.R_lt (hkR HO484))) (Kd.R_lt (hkR HO490))) (Kd.R_lt (hkR HO493))) (below_size (hkS HB)))
                have n10_ := hkBb BK436 hb
                have n11_ := hkBb BK437 hb
                have n12_ := hkBb BK441 hb
                have n13_ := hkBb BK477 hb
                have n14_ := hkBb BK478 hb
                have n15_ := hkBb BK486 hb
                have n16_ := hkBb BK487 hb
                have n17_ := Aside0.mk (below_step (hkS HB) hb)
                clear HO_437000
                clear HO_438000
                clear HO_442000
                clear HO472
                clear HO475
                clear HO481
                clear HO484
                clear HO490
                clear HO493
                clear BK436
                clear BK437
                clear BK441
                clear BK477
                clear BK478
                clear BK486
                clear BK487
                clear HB
                have HO_437000 := n0_
                have HO_438000 := n1_
                have HO_442000 := n2_
                have HO472 := n3_
                have HO475 := n4_
                have HO481 := n5_
                have HO484 := n6_
                have HO490 := n7_
                have HO493 := n8_
                have HO497 := n9_
                have BK436 := n10_
                have BK437 := n11_
                have BK441 := n12_
                have BK477 := n13_
                have BK478 := n14_
                have BK486 := n15_
                have BK487 := n16_
                have HB := n17_
                clear n0_ n1_ n2_ n3_ n4_ n5_ n6_ n7_ n8_ n9_ n10_ n11_ n12_ n13_ n14_ n15_ n16_ n17_
                (try clear hb)
                (try clear hb2)
                (try clear hk)
                (try clear hi)
                (try clear ho0)
                obtain ⟨Ao146, co146, eo146⟩ := Kd.R_slice HO497.out
                (first | subst eo146 | (injection eo146 with f1_ f2_ f3_; have f4_ := f1_.symm; have f5_ := f3_.symm; clear f1_ f2_ f3_; subst f4_; subst f5_))
                refine hK.out _ _ ⟨(blk_cell BK478.out 0).trans rfl, (blk_cell BK487.out 0).trans rfl, (blk_cell BK477.out 0).trans rfl, (blk_cell BK486.out 0).trans rfl, (blk_cell BK437.out 0).trans rfl, (blk_cell BK436.out 0).trans rfl, (blk_cell BK441.out 0).trans rfl⟩ (fun hHeld => ?_)
                clear hK K
                refine norm_ (a' := ?_) ?_ ?_
                rotate_left
                · show Act.put _ (some 94) _ = _
                  simp only [Act.put, List.setIfInBounds_toArray, List.set_cons_zero, List.set_cons_succ, i64_w, i32_w]
                  rfl
                refine one_ (i := 22) (N := some 96) #[true, true, true, true, true, true, true, true, true, true, true, true, true, true, true, true, true, true, true, true, true, true, true, false, false] rfl rfl (one_of HT_.out (by kernel_rfl)) (by decide) (fun K hK => ?_)
                refine goes_ Try.func21 (by kernel_rfl) rfl #[.agg #[.slice Ao146 t495.length co146], .agg #[.slice Ao15 t438.length co15]] (by rfl) rfl rfl hkL ?_
                with_reducible refine (laws_sameNat.calls kj3 _ _ t495 _ _ t438 t498 _ ?side1 ?side2 ?side3 ?side4 A98.out).mono ?_
                (case side1 => repeat (first | exact (Kd.R_reads' HO497.out).2.2 | (with_reducible refine Kd.C_alloc ?_ _) | (with_reducible refine Kd.C_drewN ?_ _) | (with_reducible refine Kd.C_drew ?_)))
                (case side2 => exact (Kd.R_reads' HO497.out).2.1)
                (case side3 => repeat (first | exact (Kd.R_reads' HO_442000.out).2.2 | (with_reducible refine Kd.C_alloc ?_ _) | (with_reducible refine Kd.C_drewN ?_ _) | (with_reducible refine Kd.C_drew ?_)))
                (case side4 => exact (Kd.R_reads' HO_442000.out).2.1)
                rintro e w147 ⟨rfl, hb⟩
                refine ⟨_, rfl, ?_⟩
                have n0_ := hkRb HO_437000 hb
                have n1_ := hkRb HO_438000 hb
                have n2_ := hkRb HO_442000 hb
                have n3_ := hkRb HO472 hb
                have n4_ := hkRb HO475 hb
                have n5_ := hkRb HO481 hb
                have n6_ := hkRb HO484 hb
                have n7_ := hkRb HO490 hb
                have n8_ := hkRb HO493 hb
                have n9_ := hkRb HO497 hb
                have n10_ := hkBb BK436 hb
                have n11_ := hkBb BK437 hb
                have n12_ := hkBb BK441 hb
                have n13_ := hkBb BK477 hb
                have n14_ := hkBb BK478 hb
                have n15_ := hkBb BK486 hb
                have n16_ := hkBb BK487 hb
                have n17_ := Aside0.mk (below_step (hkS HB) hb)
                clear HO_437000
                clear HO_438000
                clear HO_442000
                clear HO472
                clear HO475
                clear HO481
                clear HO484
                clear HO490
                clear HO493
                clear HO497
                clear BK436
                clear BK437
                clear BK441
                clear BK477
                clear BK478
                clear BK486
                clear BK487
                clear HB
                have HO_437000 := n0_
                have HO_438000 := n1_
                have HO_442000 := n2_
                have HO472 := n3_
                have HO475 := n4_
                have HO481 := n5_
                have HO484 := n6_
                have HO490 := n7_
                have HO493 := n8_
                have HO497 := n9_
                have BK436 := n10_
                have BK437 := n11_
                have BK441 := n12_
                have BK477 := n13_
                have BK478 := n14_
                have BK486 := n15_
                have BK487 := n16_
                have HB := n17_
                clear n0_ n1_ n2_ n3_ n4_ n5_ n6_ n7_ n8_ n9_ n10_ n11_ n12_ n13_ n14_ n15_ n16_ n17_
                (try clear hb)
                (try clear hb2)
                (try clear hk)
                (try clear hi)
                refine hK.out _ _ ⟨(blk_cell BK478.out 0).trans rfl, (blk_cell BK487.out 0).trans rfl, (blk_cell BK477.out 0).trans rfl, (blk_cell BK486.out 0).trans rfl, (blk_cell BK437.out 0).trans rfl, (blk_cell BK436.out 0).trans rfl, (blk_cell BK441.out 0).trans rfl⟩ (fun hHeld => ?_)
                clear hK K
                refine norm_ (a' := ?_) ?_ ?_
                rotate_left
                · show Act.put _ (some 96) _ = _
                  simp only [Act.put, List.setIfInBounds_toArray, List.set_cons_zero, List.set_cons_succ, i64_w, i32_w]
                  rfl
                refine pure_ (i := 23) (N := some 97) (v := ?_) (a' := ?_) #[true, true, true, true, true, true, true, true, true, true, true, true, true, true, true, true, true, true, true, true, true, true, true, true, false] rfl rfl (any_of HT_.out (by kernel_rfl)) (fun _ _ _ h => h) (Or.inl ⟨by rfl, ?_⟩) ?_ ?_
                rotate_left
                · intro w'
                  go_simp
                  with_reducible rfl
                rotate_left
                · simp only [Act.put, List.setIfInBounds_toArray, List.set_cons_zero, List.set_cons_succ, i64_w, i32_w]
                  rfl
                refine pure_ (i := 24) (N := some 2) (v := ?_) (a' := ?_) #[true, true, true, true, true, true, true, true, true, true, true, true, true, true, true, true, true, true, true, true, true, true, true, true, true] rfl rfl (any_of HT_.out (by kernel_rfl)) (fun _ _ _ h => h) (Or.inl ⟨by rfl, ?_⟩) ?_ ?_
                rotate_left
                · intro w'
                  go_simp
                  with_reducible rfl
                rotate_left
                · simp only [Act.put, List.setIfInBounds_toArray, List.set_cons_zero, List.set_cons_succ, i64_w, i32_w]
                  rfl
                refine done_ (done_of HT_.out (by kernel_rfl)) ?_
                try go_wp2
                go_ret
                exact ⟨by first | rfl | (rw [hr_]; done) | (simp [errW_none, errW_some] <;> rfl) | (simp [*, errW_none, errW_some] <;> rfl), by repeat (first | (with_reducible first | exact HB.out | apply below_alloc | apply pw_below_drewN | apply below_drew1 | refine below_set ?_ GE436.out | refine below_set ?_ GE437.out | refine below_set ?_ GE441.out | refine below_set ?_ GE477.out | refine below_set ?_ GE478.out | refine below_set ?_ GE486.out | refine below_set ?_ GE487.out) | exact HB.out)⟩
              · replace c96 := Bool.eq_false_iff.mpr c96
                subst c96
                have H1 : (some false) = some true := by rw [if_neg (show ¬ (false = true) by decide)] at H; exact H
                clear H
                have H := H1
                clear H1
                exact absurd (Option.some.inj H) (by decide)
            · rw [if_neg c92] at H
              have c92b0 : ((t482.length : Int) == 0) = false := beq_eq_false_iff_ne.mpr c92
              have c92b1 : ((t482.length : Int) != 0) = true := bne_iff_ne.mpr c92
              have c92b2 : ¬ (t482 = []) := fun h_ => c92 (by rw [h_]; rfl)
              exact absurd (Option.some.inj H) (by decide)
          · rw [if_neg c91] at H
            have c91b0 : ((t473.length : Int) == 0) = false := beq_eq_false_iff_ne.mpr c91
            have c91b1 : ((t473.length : Int) != 0) = true := bne_iff_ne.mpr c91
            have c91b2 : ¬ (t473 = []) := fun h_ => c91 (by rw [h_]; rfl)
            exact absurd (Option.some.inj H) (by decide)
/-- THE ONE PURE STATEMENT of laws_FnNatGcds. -/
def laws_FnNatGcds.Pure : Prop := ∀ (l0 : List Int), l0.length ≤ maxLen → l0.length * 1 ≤ 140737488351232 → (∀ x ∈ l0, (Lit.int .u8 x).wf = true) → ∃ k, laws_FnNatGcds.f k l0 = some true
theorem laws_FnNatGcds.walk (P : laws_FnNatGcds.Pure) (a0 : Option Addr) (len0 cap0 : Nat) (z0 : List Int) (w : World) (w0 : ((a0 = none ∧ len0 = 0 ∧ cap0 = 0 ∧ z0 = []) ∨ ∃ x, a0 = some x ∧ len0 ≤ cap0 ∧ cap0 ≤ maxLen ∧ z0.length = cap0 ∧ (∀ i, i < z0.length → w.cell? (x.add i) = some (.int .u8 (z0.getD i 0))) ∧ ∀ n ∈ z0, (Lit.int .u8 n).wf = true)) (y0 : len0 * 1 ≤ 140737488351232) :
    Calls Try.prog 5 #[.slice a0 len0 cap0] w fun e w' => e = .returned (.bool true) ∧ Below w.heap.size w w' := by
  obtain ⟨l0, rfl, hr0, hm0, hw0, hc0⟩ := ReadsInt.ofRowC w0
  obtain ⟨k, h⟩ := P l0 hm0 y0 hw0
  refine (laws_FnNatGcds.calls k _ _ l0 w (Kd.C_of_reads (d := (0 : Int)) (h1 := fun _ => rfl) hr0) hc0 h).mono ?_
  rintro e w' ⟨rfl, hd⟩
  exact ⟨rfl, hd⟩

end Go.Proofs.Ytgjpahofopoflaa.PFnNatGcds
