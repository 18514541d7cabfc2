-- Written by our own driver (wip/hand/hprint.py) over the seat's translation.
import Derived.Test.YtgjpahofopoflaaPFnNatGcdsx0
import Derived.Test.YtgjpahofopoflaaPFnNatGcdsx1
import Derived.Test.YtgjpahofopoflaaPFnNatGcdsx2
import Derived.Test.YtgjpahofopoflaaPFnNatGcdsx3
namespace Go.Proofs.Ytgjpahofopoflaa.PFnNatGcds
open Go.RowKit Go.Proofs.YtgjpahofopoflaaW.PrintWords Go.Proofs.YtgjpahofopoflaaW.PrintLast Go.Proofs.YtgjpahofopoflaaW.PrintMore
attribute [local go_sem] max2_int min2_int max_two min_two max_three min_three max_four min_four   -- for this text's walks alone
set_option linter.unusedVariables false
set_option linter.unusedSimpArgs false

/-! ### spec_DrawNatGcd: function 18 -/
def spec_DrawNatGcd.j0 : Nat → Bool → List Int → Int → Int → List Int → List Int → Option (List Int × List Int)
  | 0, _, _, _, _, _, _ => none
  | k + 1, x31, x243000, x243001, x243002, x249000, x255000 => if x31 = true then ((spec_l1Below.f x243000 x243001 x243002 999).bind fun bt257 => ((spec_l2of.f k (wrap64 (1 + bt257.1))).bind fun t260 => ((spec_l2mul.f k x249000 t260).bind fun t264 => ((spec_l2mul.f k x255000 t260).bind fun t267 => (some (t264, t267)))))) else (some (x249000, x255000))
def spec_DrawNatGcd.f (k : Nat) (l0 : List Int) : Option (List Int × List Int) := (spec_l1New.f k l0).bind fun bt239 => ((spec_l2bent.f k bt239.1 bt239.2.1 bt239.2.2).bind fun bt243 => ((spec_l2bent.f k bt239.1 bt243.2.1 bt243.2.2).bind fun bt249 => ((spec_NatOk.f k bt243.1).bind fun t255 => (if t255 = true then ((spec_NatOk.f k bt249.1).bind fun t256 => (if t256 = true then (if (bt243.1.length : Int) < 6 then (spec_DrawNatGcd.j0 k (decide ((bt249.1.length : Int) < 6)) bt239.1 bt249.2.1 bt249.2.2 bt243.1 bt249.1) else (spec_DrawNatGcd.j0 k false bt239.1 bt249.2.1 bt249.2.2 bt243.1 bt249.1)) else (spec_DrawNatGcd.j0 k false bt239.1 bt249.2.1 bt249.2.2 bt243.1 bt249.1))) else (spec_DrawNatGcd.j0 k false bt239.1 bt249.2.1 bt249.2.2 bt243.1 bt249.1)))))
theorem spec_DrawNatGcd.mono_l : ∀ k, (∀ y0 y1 y2 y3 y4 y5, LeO (spec_DrawNatGcd.j0 k y0 y1 y2 y3 y4 y5) (spec_DrawNatGcd.j0 (k + 1) y0 y1 y2 y3 y4 y5))
  | 0 => fun _ _ _ _ _ _ r h => by simp [spec_DrawNatGcd.j0] at h
  | k + 1 => by
    have ih0 := spec_DrawNatGcd.mono_l k
    · intro y0 y1 y2 y3 y4 y5
      unfold spec_DrawNatGcd.j0
      repeat' first
      | (with_reducible exact ih0 _ _ _ _ _ _)
      | (with_reducible exact spec_NatOk.mono _ _)
      | (with_reducible exact spec_l1New.mono _ _)
      | (with_reducible exact spec_l2bent.mono _ _ _ _)
      | (with_reducible exact spec_l2mul.mono _ _ _)
      | (with_reducible exact spec_l2of.mono _ _)
      | (with_reducible exact LeO.refl _)
      | (with_reducible exact LeO.none _)
      | (with_reducible refine LeO.ite ?_ ?_)
      | (with_reducible refine LeO.bind ?_ (fun _ => ?_))
      | exact ih0 _ _ _ _ _ _
      | exact spec_NatOk.mono _ _
      | exact spec_l1New.mono _ _
      | exact spec_l2bent.mono _ _ _ _
      | exact spec_l2mul.mono _ _ _
      | exact spec_l2of.mono _ _
      | exact LeO.none _
      | refine LeO.ite ?_ ?_
      | refine LeO.bind ?_ (fun _ => ?_)
theorem spec_DrawNatGcd.mono : ∀ a0 k, LeO (spec_DrawNatGcd.f k a0) (spec_DrawNatGcd.f (k + 1) a0) := by
  intro a0 k
  have ih0 := spec_DrawNatGcd.mono_l k
  unfold spec_DrawNatGcd.f
  repeat' first
      | (with_reducible exact ih0 _ _ _ _ _ _)
      | (with_reducible exact spec_NatOk.mono _ _)
      | (with_reducible exact spec_l1New.mono _ _)
      | (with_reducible exact spec_l2bent.mono _ _ _ _)
      | (with_reducible exact spec_l2mul.mono _ _ _)
      | (with_reducible exact spec_l2of.mono _ _)
      | (with_reducible exact LeO.refl _)
      | (with_reducible exact LeO.none _)
      | (with_reducible refine LeO.ite ?_ ?_)
      | (with_reducible refine LeO.bind ?_ (fun _ => ?_))
      | exact ih0 _ _ _ _ _ _
      | exact spec_NatOk.mono _ _
      | exact spec_l1New.mono _ _
      | exact spec_l2bent.mono _ _ _ _
      | exact spec_l2mul.mono _ _ _
      | exact spec_l2of.mono _ _
      | exact LeO.none _
      | refine LeO.ite ?_ ?_
      | refine LeO.bind ?_ (fun _ => ?_)
def spec_DrawNatGcd.T6 : Bool × List (List Nat × List Nat) := (true, [([], []), ([], []), ([0, 1], [0, 1]), ([], []), ([], []), ([3, 4, 2], [3, 4]), ([2, 5, 0, 1, 2], [2]), ([5, 6, 0, 1, 2, 3, 4, 5, 6], [5])])
def spec_DrawNatGcd.B6 : List Nat := [0, 0, 3, 0, 0, 31, 63, 127]
theorem spec_DrawNatGcd.tab6 : rtab .any (opsOf Try.f18 6) = spec_DrawNatGcd.T6 := by kernel_rfl
theorem spec_DrawNatGcd.bits6 : waitsOk spec_DrawNatGcd.T6.2 spec_DrawNatGcd.B6 = true := by kernel_rfl
set_option maxHeartbeats 8000000 in
set_option maxRecDepth 100000 in
theorem spec_DrawNatGcd.calls (k : Nat) (A0 : Option Addr) (c0 : Nat) (l0 : List Int) (r1 : List Int) (r2 : List Int) (w : World) (hr0 : Kd.C (Kd.int .u8) w A0 l0.length l0) (hc0 : l0.length ≤ c0) (h : spec_DrawNatGcd.f k l0 = some (r1, r2)) :
    Calls Try.prog 18 #[.slice A0 l0.length c0] w fun e w' => ∃ v0_ v1_ : Value, e = .returned (.tuple #[.agg #[v0_], .agg #[v1_]]) ∧ Kd.R (Kd.int .i64) 3 w' w.heap.size (fun k_ => some k_ ≠ (v1_ : Value).ownBlock) v0_ r1 ∧ Kd.R (Kd.int .i64) 3 w' w.heap.size (fun k_ => some k_ ≠ (v0_ : Value).ownBlock) v1_ r2 ∧ Below w.heap.size w w' := by
  have hu38 := Try.underlying38
  have HR0 := Aside0.mk hr0
  have HC0 := Aside0.mk hc0
  clear hr0 hc0
  have HB := Aside0.mk (Below.refl w.heap.size w)
  have H : ((spec_l1New.f k l0).bind fun bt239 => ((spec_l2bent.f k bt239.1 bt239.2.1 bt239.2.2).bind fun bt243 => ((spec_l2bent.f k bt239.1 bt243.2.1 bt243.2.2).bind fun bt249 => ((spec_NatOk.f k bt243.1).bind fun t255 => (if t255 = true then ((spec_NatOk.f k bt249.1).bind fun t256 => (if t256 = true then (if (bt243.1.length : Int) < 6 then (spec_DrawNatGcd.j0 k (decide ((bt249.1.length : Int) < 6)) bt239.1 bt249.2.1 bt249.2.2 bt243.1 bt249.1) else (spec_DrawNatGcd.j0 k false bt239.1 bt249.2.1 bt249.2.2 bt243.1 bt249.1)) else (spec_DrawNatGcd.j0 k false bt239.1 bt249.2.1 bt249.2.2 bt243.1 bt249.1))) else (spec_DrawNatGcd.j0 k false bt239.1 bt249.2.1 bt249.2.2 bt243.1 bt249.1)))))) = some (r1, r2) := h
  clear h
  replace H := Option.bind_eq_some_iff.mp H
  obtain ⟨⟨t239, t240, t241⟩, A20, H⟩ := H
  replace H : ((spec_l2bent.f k t239 t240 t241).bind fun bt243 => ((spec_l2bent.f k t239 bt243.2.1 bt243.2.2).bind fun bt249 => ((spec_NatOk.f k bt243.1).bind fun t255 => (if t255 = true then ((spec_NatOk.f k bt249.1).bind fun t256 => (if t256 = true then (if (bt243.1.length : Int) < 6 then (spec_DrawNatGcd.j0 k (decide ((bt249.1.length : Int) < 6)) t239 bt249.2.1 bt249.2.2 bt243.1 bt249.1) else (spec_DrawNatGcd.j0 k false t239 bt249.2.1 bt249.2.2 bt243.1 bt249.1)) else (spec_DrawNatGcd.j0 k false t239 bt249.2.1 bt249.2.2 bt243.1 bt249.1))) else (spec_DrawNatGcd.j0 k false t239 bt249.2.1 bt249.2.2 bt243.1 bt249.1))))) = some (r1, r2) := H
  have A2 := Aside0.mk A20
  clear A20
  replace H := Option.bind_eq_some_iff.mp H
  obtain ⟨⟨t243, t246, t247⟩, A30, H⟩ := H
  replace H : ((spec_l2bent.f k t239 t246 t247).bind fun bt249 => ((spec_NatOk.f k t243).bind fun t255 => (if t255 = true then ((spec_NatOk.f k bt249.1).bind fun t256 => (if t256 = true then (if (t243.length : Int) < 6 then (spec_DrawNatGcd.j0 k (decide ((bt249.1.length : Int) < 6)) t239 bt249.2.1 bt249.2.2 t243 bt249.1) else (spec_DrawNatGcd.j0 k false t239 bt249.2.1 bt249.2.2 t243 bt249.1)) else (spec_DrawNatGcd.j0 k false t239 bt249.2.1 bt249.2.2 t243 bt249.1))) else (spec_DrawNatGcd.j0 k false t239 bt249.2.1 bt249.2.2 t243 bt249.1)))) = some (r1, r2) := H
  have A3 := Aside0.mk A30
  clear A30
  replace H := Option.bind_eq_some_iff.mp H
  obtain ⟨⟨t249, t252, t253⟩, A40, H⟩ := H
  replace H : ((spec_NatOk.f k t243).bind fun t255 => (if t255 = true then ((spec_NatOk.f k t249).bind fun t256 => (if t256 = true then (if (t243.length : Int) < 6 then (spec_DrawNatGcd.j0 k (decide ((t249.length : Int) < 6)) t239 t252 t253 t243 t249) else (spec_DrawNatGcd.j0 k false t239 t252 t253 t243 t249)) else (spec_DrawNatGcd.j0 k false t239 t252 t253 t243 t249))) else (spec_DrawNatGcd.j0 k false t239 t252 t253 t243 t249))) = some (r1, r2) := H
  have A4 := Aside0.mk A40
  clear A40
  have HC5 := Aside0.mk H
  clear H
  go_enter Try.func18, Try.ntmps18
  go_upto_region 4 with (first | ((with_reducible refine gate_dst (N := 2) rfl ?_); (try (refine gate_guard (by rfl) ?_; dsimp only)); refine box_event ?hg (N := 2) ?hd (cs := #[.slice none 0 0]) (t := 38) ?hr ?_; (case hd => rfl); (case hg => rfl); (case hr => first | (go_simp; done) | (go_simp; rfl)); intro gb237 hg w6 hbox hb; have n0_ := Aside0.mk (below_step (hkS HB) hb); have n1_ := Aside0.mk (hbox); have n2_ := hkG hg (hkS HB); have n3_ := hkG hg (hkS HB); clear HB; have HB := n0_; have BK237 := n1_; have GW237 := n2_; have GE237 := n3_; clear n0_ n1_ n2_ n3_; clear hb hbox hg) | ((with_reducible refine gate_dst (N := 3) rfl ?_); (try (refine gate_guard (by rfl) ?_; dsimp only)); refine box_event ?hg (N := 3) ?hd (cs := #[.slice none 0 0]) (t := 38) ?hr ?_; (case hd => rfl); (case hg => rfl); (case hr => first | (go_simp; done) | (go_simp; rfl)); intro gb238 hg w7 hbox hb; have n0_ := hkBb BK237 hb; have n1_ := Aside0.mk (below_step (hkS HB) hb); have n2_ := Aside0.mk (hbox); have n3_ := hkG hg (hkS HB); have n4_ := hkG hg (hkS HB); have n5_ := hkN hg BK237; have n6_ := hkM hg BK237; clear BK237; clear HB; have BK237 := n0_; have HB := n1_; have BK238 := n2_; have GW238 := n3_; have GE238 := n4_; have NB237_238 := n5_; have NB238_237 := n6_; clear n0_ n1_ n2_ n3_ n4_ n5_ n6_; clear hb hbox hg) | ((with_reducible refine gate_callee (f := 54) rfl ?_); refine goesL_ (some 9) rfl rfl Try.func54 (by kernel_rfl) rfl #[.slice A0 l0.length c0] rfl hkL ?_; (with_reducible refine (spec_l1New.calls k _ _ l0 t239 t240 t241 w _ ?side1 ?side2 ?side3 A2.out).mono ?_); (case side1 => repeat (first | (with_reducible first | exact HB.out | apply below_alloc | apply pw_below_drewN | apply below_drew1 | refine below_set ?_ GE237.out | refine below_set ?_ GE238.out) | exact HB.out)); (case side2 => exact HR0.out); (case side3 => exact HC0.out); rintro e w8 ⟨g242, rfl, hi, hb, hb2⟩; refine ⟨_, rfl, ?_⟩; have n0_ := Aside0.mk (blk_below (g := gb237) (o := .cells #[.slice none 0 0] 38 (0, 0)) (hkB BK237) hb2); have n1_ := Aside0.mk (blk_below (g := gb238) (o := .cells #[.slice none 0 0] 38 (0, 0)) (hkB BK238) hb2); have n2_ := Aside0.mk (hb); have n3_ := Aside0.mk (hi); have n4_ := Aside0.mk (IsS125.ne_blk hi (blk_below (g := gb237) (o := .cells #[.slice none 0 0] 38 (0, 0)) (hkB BK237) hb2) (by decide)); have n5_ := Aside0.mk (Ne.symm (IsS125.ne_blk hi (blk_below (g := gb237) (o := .cells #[.slice none 0 0] 38 (0, 0)) (hkB BK237) hb2) (by decide))); have n6_ := Aside0.mk (IsS125.ne_blk hi (blk_below (g := gb238) (o := .cells #[.slice none 0 0] 38 (0, 0)) (hkB BK238) hb2) (by decide)); have n7_ := Aside0.mk (Ne.symm (IsS125.ne_blk hi (blk_below (g := gb238) (o := .cells #[.slice none 0 0] 38 (0, 0)) (hkB BK238) hb2) (by decide))); clear BK237; clear BK238; clear HB; have BK237 := n0_; have BK238 := n1_; have HB := n2_; have HI242 := n3_; have NB242_237 := n4_; have NB237_242 := n5_; have NB242_238 := n6_; have NB238_242 := n7_; clear n0_ n1_ n2_ n3_ n4_ n5_ n6_ n7_; (try clear hb); (try clear hb2); (try clear hk); (try clear hi)) | ((with_reducible refine gate_callee (f := 55) rfl ?_); refine goesL_ (some 11) rfl rfl Try.func55 (by kernel_rfl) rfl #[.pointer (some ⟨g242, 0, none⟩)] rfl hkL ?_; (with_reducible refine (spec_l2bent.calls k g242 t239 t240 t241 t243 t246 t247 w _ ?side1 ?side2 A3.out).mono ?_); (case side1 => repeat (first | (with_reducible first | exact HI242.out | apply IsS125.alloc | apply IsS125.drewN | apply IsS125.drew | apply IsS125.set_1 | apply IsS125.set_2 | refine IsS125.far ?_ NB242_237.out _ | refine IsS125.far ?_ NB242_238.out _) | exact HI242.out)); (case side2 => repeat (first | (with_reducible first | exact HB.out | apply below_alloc | apply pw_below_drewN | apply below_drew1 | refine below_set ?_ (IsS125.ge HI242.out) | refine below_set ?_ GE237.out | refine below_set ?_ GE238.out) | exact HB.out)); rintro e w9 ⟨v244, rfl, ho0, hi, hb, hk⟩; refine ⟨_, rfl, ?_⟩; have n0_ := Aside0.mk (KeepBut.blk hk (g' := gb237) (o := .cells #[.slice none 0 0] 38 (0, 0)) (hkB BK237) NB237_242.out (by simp)); have n1_ := Aside0.mk (KeepBut.blk hk (g' := gb238) (o := .cells #[.slice none 0 0] 38 (0, 0)) (hkB BK238) NB238_242.out (by simp)); have n2_ := Aside0.mk (Kd.R_lower ho0 (below_size (by repeat (first | (with_reducible first | exact HB.out | apply below_alloc | apply pw_below_drewN | apply below_drew1 | refine below_set ?_ (IsS125.ge HI242.out) | refine below_set ?_ GE237.out | refine below_set ?_ GE238.out) | exact HB.out)))); have n3_ := Aside0.mk (hb); have n4_ := Aside0.mk (hi); clear BK237; clear BK238; clear HB; clear HI242; have BK237 := n0_; have BK238 := n1_; have HO245 := n2_; have HB := n3_; have HI242 := n4_; clear n0_ n1_ n2_ n3_ n4_; (try clear hb); (try clear hb2); (try clear hk); (try clear hi); (try clear ho0)) | ((with_reducible refine gate_dst (N := 5) rfl ?_); (try (refine gate_guard (by rfl) ?_; dsimp only)); refine box_event ?hg (N := 5) ?hd (cs := #[.slice none 0 0]) (t := 38) ?hr ?_; (case hd => rfl); (case hg => rfl); (case hr => first | (go_simp; done) | (go_simp; rfl)); intro gb248 hg w10 hbox hb; have n0_ := hkRb HO245 hb; have n1_ := hkBb BK237 hb; have n2_ := hkBb BK238 hb; have n3_ := Aside0.mk (IsS125.below (by repeat (first | (with_reducible first | exact HI242.out | apply IsS125.alloc | apply IsS125.drewN | apply IsS125.drew | apply IsS125.set_1 | apply IsS125.set_2 | refine IsS125.far ?_ NB242_237.out _ | refine IsS125.far ?_ NB242_238.out _) | exact HI242.out)) hb); have n4_ := Aside0.mk (below_step (by repeat (first | (with_reducible first | exact HB.out | apply below_alloc | apply pw_below_drewN | apply below_drew1 | refine below_set ?_ (IsS125.ge HI242.out) | refine below_set ?_ GE237.out | refine below_set ?_ GE238.out) | exact HB.out)) hb); have n5_ := Aside0.mk (hbox); have n6_ := Aside0.mk ((by rw [hg]; exact (below_size (by repeat (first | (with_reducible first | exact HB.out | apply below_alloc | apply pw_below_drewN | apply below_drew1 | refine below_set ?_ (IsS125.ge HI242.out) | refine below_set ?_ GE237.out | refine below_set ?_ GE238.out) | exact HB.out))) : w.heap.size ≤ gb248)); have n7_ := Aside0.mk ((by rw [hg]; exact (below_size (by repeat (first | (with_reducible first | exact HB.out | apply below_alloc | apply pw_below_drewN | apply below_drew1 | refine below_set ?_ (IsS125.ge HI242.out) | refine below_set ?_ GE237.out | refine below_set ?_ GE238.out) | exact HB.out))) : w.heap.size ≤ gb248)); have n8_ := hkN hg BK237; have n9_ := hkM hg BK237; have n10_ := hkN hg BK238; have n11_ := hkM hg BK238; have n12_ := Aside0.mk ((by rw [hg]; exact Nat.ne_of_lt (IsS125.lt (show IsS125 w _ g242 t239 t246 t247 from by repeat (first | (with_reducible first | exact HI242.out | apply IsS125.alloc | apply IsS125.drewN | apply IsS125.drew | apply IsS125.set_1 | apply IsS125.set_2 | refine IsS125.far ?_ NB242_237.out _ | refine IsS125.far ?_ NB242_238.out _) | exact HI242.out))) : g242 ≠ gb248)); have n13_ := Aside0.mk ((by rw [hg]; exact Nat.ne_of_gt (IsS125.lt (show IsS125 w _ g242 t239 t246 t247 from by repeat (first | (with_reducible first | exact HI242.out | apply IsS125.alloc | apply IsS125.drewN | apply IsS125.drew | apply IsS125.set_1 | apply IsS125.set_2 | refine IsS125.far ?_ NB242_237.out _ | refine IsS125.far ?_ NB242_238.out _) | exact HI242.out))) : gb248 ≠ g242)); clear HO245; clear BK237; clear BK238; clear HI242; clear HB; have HO245 := n0_; have BK237 := n1_; have BK238 := n2_; have HI242 := n3_; have HB := n4_; have BK248 := n5_; have GW248 := n6_; have GE248 := n7_; have NB237_248 := n8_; have NB248_237 := n9_; have NB238_248 := n10_; have NB248_238 := n11_; have NB242_248 := n12_; have NB248_242 := n13_; clear n0_ n1_ n2_ n3_ n4_ n5_ n6_ n7_ n8_ n9_ n10_ n11_ n12_ n13_; clear hb hbox hg; obtain ⟨Ao11, co11, eo11⟩ := Kd.R_slice HO245.out; subst eo11; have hnb12 := NB248_237.out; have hnc12 := NB237_248.out; have hnb13 := NB248_238.out; have hnc13 := NB238_248.out; have hnb14 := NB248_242.out; have hnc14 := NB242_248.out; have hcz15_0 : w10.cell? ⟨gb248, 0, none⟩ = some (.slice none 0 0) := (blk_cell BK248.out 0).trans rfl; have hfz15_0 := blk_frozen BK248.out 0) | ((with_reducible refine gate_callee (f := 55) rfl ?_); refine goesL_ (some 13) rfl rfl Try.func55 (by kernel_rfl) rfl #[.pointer (some ⟨g242, 0, none⟩)] rfl hkL ?_; (with_reducible refine (spec_l2bent.calls k g242 t239 t246 t247 t249 t252 t253 w _ ?side1 ?side2 A4.out).mono ?_); (case side1 => repeat (first | (with_reducible first | exact HI242.out | apply IsS125.alloc | apply IsS125.drewN | apply IsS125.drew | apply IsS125.set_1 | apply IsS125.set_2 | refine IsS125.far ?_ NB242_237.out _ | refine IsS125.far ?_ NB242_238.out _ | refine IsS125.far ?_ NB242_248.out _) | exact HI242.out)); (case side2 => repeat (first | (with_reducible first | exact HB.out | apply below_alloc | apply pw_below_drewN | apply below_drew1 | refine below_set ?_ (IsS125.ge HI242.out) | refine below_set ?_ GE237.out | refine below_set ?_ GE238.out | refine below_set ?_ GE248.out) | exact HB.out)); rintro e w16 ⟨v250, rfl, ho0, hi, hb, hk⟩; refine ⟨_, rfl, ?_⟩; have n0_ := Aside0.mk (KeepBut.blk hk (g' := gb237) (o := .cells #[.slice none 0 0] 38 (0, 0)) (by (with_reducible repeat (first | refine blk_drewN ?_ _ | refine blk_drew ?_ | refine blk_alloc ?_ _)); refine blk_far ?_ NB237_248.out _; (with_reducible repeat (first | refine blk_drewN ?_ _ | refine blk_drew ?_ | refine blk_alloc ?_ _)); exact BK237.out) NB237_242.out (by simp)); have n1_ := Aside0.mk (KeepBut.blk hk (g' := gb238) (o := .cells #[.slice none 0 0] 38 (0, 0)) (by (with_reducible repeat (first | refine blk_drewN ?_ _ | refine blk_drew ?_ | refine blk_alloc ?_ _)); refine blk_far ?_ NB238_248.out _; (with_reducible repeat (first | refine blk_drewN ?_ _ | refine blk_drew ?_ | refine blk_alloc ?_ _)); exact BK238.out) NB238_242.out (by simp)); have n2_ := Aside0.mk (Kd.R_mono (Kd.R_told (Kd.R_oldK (IsS125.apart (show IsS125 w _ g242 t239 t246 t247 from by repeat (first | (with_reducible first | exact HI242.out | apply IsS125.alloc | apply IsS125.drewN | apply IsS125.drew | apply IsS125.set_1 | apply IsS125.set_2 | refine IsS125.far ?_ NB242_237.out _ | refine IsS125.far ?_ NB242_238.out _ | refine IsS125.far ?_ NB242_248.out _) | exact HI242.out)) (by (with_reducible repeat (first | apply Kd.R_alloc | apply Kd.R_drewN | apply Kd.R_drew)); exact (Kd.R_mono (Kd.R_far (p := ⟨gb248, 0, none⟩) (Kd.R_types HO245.out BK248.out (by decide)) (fun _ hk => hk.2) (.slice Ao11 t243.length co11)) (fun _ h_ => h_.1))) (by decide)) hk) (Kd.R_base ho0)) (fun _ h_ => h_.1)); have n3_ := Aside0.mk (KeepBut.blk hk (g' := gb248) (o := .cells #[.slice Ao11 t243.length co11] 38 (0, 0)) (by (with_reducible repeat (first | refine blk_drewN ?_ _ | refine blk_drew ?_ | refine blk_alloc ?_ _)); refine blk_put (cs := #[.slice none 0 0]) ?_ 0 _ rfl; (with_reducible repeat (first | refine blk_drewN ?_ _ | refine blk_drew ?_ | refine blk_alloc ?_ _)); exact BK248.out) NB248_242.out (by simp)); have n4_ := Aside0.mk (Kd.R_lower (Kd.R_new' ho0 (Kd.R_lt (by (with_reducible repeat (first | apply Kd.R_alloc | apply Kd.R_drewN | apply Kd.R_drew)); exact (Kd.R_mono (Kd.R_far (p := ⟨gb248, 0, none⟩) (Kd.R_types HO245.out BK248.out (by decide)) (fun _ hk => hk.2) (.slice Ao11 t243.length co11)) (fun _ h_ => h_.1))))) (below_size (by repeat (first | (with_reducible first | exact HB.out | apply below_alloc | apply pw_below_drewN | apply below_drew1 | refine below_set ?_ (IsS125.ge HI242.out) | refine below_set ?_ GE237.out | refine below_set ?_ GE238.out | refine below_set ?_ GE248.out) | exact HB.out)))); have n5_ := Aside0.mk (hb); have n6_ := Aside0.mk (hi); clear BK237; clear BK238; clear HO245; clear BK248; clear HB; clear HI242; have BK237 := n0_; have BK238 := n1_; have HO245 := n2_; have BK248 := n3_; have HO251 := n4_; have HB := n5_; have HI242 := n6_; clear n0_ n1_ n2_ n3_ n4_ n5_ n6_; (try clear hb); (try clear hb2); (try clear hk); (try clear hi); (try clear ho0)) | ((with_reducible refine gate_dst (N := 6) rfl ?_); (try (refine gate_guard (by rfl) ?_; dsimp only)); refine box_event ?hg (N := 6) ?hd (cs := #[.slice none 0 0]) (t := 38) ?hr ?_; (case hd => rfl); (case hg => rfl); (case hr => first | (go_simp; done) | (go_simp; rfl)); intro gb254 hg w17 hbox hb; have n0_ := hkRb HO245 hb; have n1_ := hkRb HO251 hb; have n2_ := hkBb BK237 hb; have n3_ := hkBb BK238 hb; have n4_ := Aside0.mk (IsS125.below (by repeat (first | (with_reducible first | exact HI242.out | apply IsS125.alloc | apply IsS125.drewN | apply IsS125.drew | apply IsS125.set_1 | apply IsS125.set_2 | refine IsS125.far ?_ NB242_237.out _ | refine IsS125.far ?_ NB242_238.out _ | refine IsS125.far ?_ NB242_248.out _) | exact HI242.out)) hb); have n5_ := hkBb BK248 hb; have n6_ := Aside0.mk (below_step (by repeat (first | (with_reducible first | exact HB.out | apply below_alloc | apply pw_below_drewN | apply below_drew1 | refine below_set ?_ (IsS125.ge HI242.out) | refine below_set ?_ GE237.out | refine below_set ?_ GE238.out | refine below_set ?_ GE248.out) | exact HB.out)) hb); have n7_ := Aside0.mk (hbox); have n8_ := Aside0.mk ((by rw [hg]; exact (below_size (by repeat (first | (with_reducible first | exact HB.out | apply below_alloc | apply pw_below_drewN | apply below_drew1 | refine below_set ?_ (IsS125.ge HI242.out) | refine below_set ?_ GE237.out | refine below_set ?_ GE238.out | refine below_set ?_ GE248.out) | exact HB.out))) : w.heap.size ≤ gb254)); have n9_ := Aside0.mk ((by rw [hg]; exact (below_size (by repeat (first | (with_reducible first | exact HB.out | apply below_alloc | apply pw_below_drewN | apply below_drew1 | refine below_set ?_ (IsS125.ge HI242.out) | refine below_set ?_ GE237.out | refine below_set ?_ GE238.out | refine below_set ?_ GE248.out) | exact HB.out))) : w.heap.size ≤ gb254)); have n10_ := hkN hg BK237; have n11_ := hkM hg BK237; have n12_ := hkN hg BK238; have n13_ := hkM hg BK238; have n14_ := hkN hg BK248; have n15_ := hkM hg BK248; have n16_ := Aside0.mk ((by rw [hg]; exact Nat.ne_of_lt (IsS125.lt (show IsS125 w _ g242 t239 t252 t253 from by repeat (first | (with_reducible first | exact HI242.out | apply IsS125.alloc | apply IsS125.drewN | apply IsS125.drew | apply IsS125.set_1 | apply IsS125.set_2 | refine IsS125.far ?_ NB242_237.out _ | refine IsS125.far ?_ NB242_238.out _ | refine IsS125.far ?_ NB242_248.out _) | exact HI242.out))) : g242 ≠ gb254)); have n17_ := Aside0.mk ((by rw [hg]; exact Nat.ne_of_gt (IsS125.lt (show IsS125 w _ g242 t239 t252 t253 from by repeat (first | (with_reducible first | exact HI242.out | apply IsS125.alloc | apply IsS125.drewN | apply IsS125.drew | apply IsS125.set_1 | apply IsS125.set_2 | refine IsS125.far ?_ NB242_237.out _ | refine IsS125.far ?_ NB242_238.out _ | refine IsS125.far ?_ NB242_248.out _) | exact HI242.out))) : gb254 ≠ g242)); clear HO245; clear HO251; clear BK237; clear BK238; clear HI242; clear BK248; clear HB; have HO245 := n0_; have HO251 := n1_; have BK237 := n2_; have BK238 := n3_; have HI242 := n4_; have BK248 := n5_; have HB := n6_; have BK254 := n7_; have GW254 := n8_; have GE254 := n9_; have NB237_254 := n10_; have NB254_237 := n11_; have NB238_254 := n12_; have NB254_238 := n13_; have NB248_254 := n14_; have NB254_248 := n15_; have NB242_254 := n16_; have NB254_242 := n17_; clear n0_ n1_ n2_ n3_ n4_ n5_ n6_ n7_ n8_ n9_ n10_ n11_ n12_ n13_ n14_ n15_ n16_ n17_; clear hb hbox hg; obtain ⟨Ao18, co18, eo18⟩ := Kd.R_slice HO251.out; subst eo18; have hnb19 := NB254_237.out; have hnc19 := NB237_254.out; have hnb20 := NB254_238.out; have hnc20 := NB238_254.out; have hnb21 := NB254_248.out; have hnc21 := NB248_254.out; have hnb22 := NB254_242.out; have hnc22 := NB242_254.out; have hcz23_0 : w17.cell? ⟨gb254, 0, none⟩ = some (.slice none 0 0) := (blk_cell BK254.out 0).trans rfl; have hfz23_0 := blk_frozen BK254.out 0))
  (try simp only [Act.put, List.setIfInBounds_toArray, List.set_cons_zero, List.set_cons_succ])
  go_cut [31] (fun v31 wc => ∃ (kq : Nat) (x31_4 : Bool), v31 = .bool x31_4 ∧ Aside0 (spec_DrawNatGcd.j0 kq x31_4 t239 t252 t253 t243 t249 = some (r1, r2)) ∧ Aside0 (kq ≤ k) ∧ Aside0 (Kd.R (Kd.int .i64) 3 wc w.heap.size (fun k_ => some k_ ≠ ((.slice Ao18 t249.length co18) : Value).ownBlock) (.slice Ao11 t243.length co11) t243) ∧ Aside0 (Kd.R (Kd.int .i64) 3 wc w.heap.size (fun k_ => some k_ ≠ ((.slice Ao11 t243.length co11) : Value).ownBlock) (.slice Ao18 t249.length co18) t249) ∧ Aside0 (wc.heap[gb237]? = some (.cells #[(.slice none 0 0)] 38 (0, 0))) ∧ Aside0 (wc.heap[gb238]? = some (.cells #[(.slice none 0 0)] 38 (0, 0))) ∧ Aside0 (wc.heap[gb248]? = some (.cells #[(.slice Ao11 t243.length co11)] 38 (0, 0))) ∧ Aside0 (wc.heap[gb254]? = some (.cells #[(.slice Ao18 t249.length co18)] 38 (0, 0))) ∧ Aside0 (IsS125 w wc g242 t239 t252 t253) ∧ Aside0 (Below w.heap.size w wc))
  case first =>
    have H := HC5.out
    clear HC5
    replace H := Option.bind_eq_some_iff.mp H
    obtain ⟨t255, A240, H⟩ := H
    replace H : (if t255 = true then ((spec_NatOk.f k t249).bind fun t256 => (if t256 = true then (if (t243.length : Int) < 6 then (spec_DrawNatGcd.j0 k (decide ((t249.length : Int) < 6)) t239 t252 t253 t243 t249) else (spec_DrawNatGcd.j0 k false t239 t252 t253 t243 t249)) else (spec_DrawNatGcd.j0 k false t239 t252 t253 t243 t249))) else (spec_DrawNatGcd.j0 k false t239 t252 t253 t243 t249)) = some (r1, r2) := H
    have A24 := Aside0.mk A240
    clear A240
    by_cases c25 : t255 = true
    · subst c25
      have H1 : ((spec_NatOk.f k t249).bind fun t256 => (if t256 = true then (if (t243.length : Int) < 6 then (spec_DrawNatGcd.j0 k (decide ((t249.length : Int) < 6)) t239 t252 t253 t243 t249) else (spec_DrawNatGcd.j0 k false t239 t252 t253 t243 t249)) else (spec_DrawNatGcd.j0 k false t239 t252 t253 t243 t249))) = some (r1, r2) := by rw [if_pos rfl] at H; exact H
      clear H
      have H := H1
      clear H1
      replace H := Option.bind_eq_some_iff.mp H
      obtain ⟨t256, A260, H⟩ := H
      replace H : (if t256 = true then (if (t243.length : Int) < 6 then (spec_DrawNatGcd.j0 k (decide ((t249.length : Int) < 6)) t239 t252 t253 t243 t249) else (spec_DrawNatGcd.j0 k false t239 t252 t253 t243 t249)) else (spec_DrawNatGcd.j0 k false t239 t252 t253 t243 t249)) = some (r1, r2) := H
      have A26 := Aside0.mk A260
      clear A260
      by_cases c27 : t256 = true
      · subst c27
        have H1 : (if (t243.length : Int) < 6 then (spec_DrawNatGcd.j0 k (decide ((t249.length : Int) < 6)) t239 t252 t253 t243 t249) else (spec_DrawNatGcd.j0 k false t239 t252 t253 t243 t249)) = some (r1, r2) := by rw [if_pos rfl] at H; exact H
        clear H
        have H := H1
        clear H1
        by_cases c28 : (t243.length : Int) < 6
        · rw [if_pos c28] at H
          have c28b0 : decide ((t243.length : Int) < 6) = true := decide_eq_true c28
          have c28b1 : decide (t243.length < 6) = true := decide_eq_true (by omega)
          clear c28
          (first | rw [c28b0] | (simp only [i64_w, i32_w]; rw [c28b0]) | skip)
          have H' := Aside0.mk H
          clear H
          have hnb29 := NB248_237.out
          have hnc29 := NB237_248.out
          have hnb30 := NB248_238.out
          have hnc30 := NB238_248.out
          have hnb31 := NB248_254.out
          have hnc31 := NB254_248.out
          have hnb32 := NB248_242.out
          have hnc32 := NB242_248.out
          have hcz33_0 : w17.cell? ⟨gb248, 0, none⟩ = some (.slice Ao11 t243.length co11) := (blk_cell BK248.out 0).trans rfl
          have hfz33_0 := blk_frozen BK248.out 0
          go_wp2_with (first | ((with_reducible refine gate_callee (f := 20) rfl ?_); refine goesL_ (some 15) rfl rfl Try.func20 (by kernel_rfl) rfl #[.agg #[.slice Ao11 t243.length co11]] rfl hkL ?_; (with_reducible refine (spec_NatOk.calls k _ _ t243 true _ ?side1 ?side2 A24.out).mono ?_); (case side1 => refine (Kd.R_reads' (e := 3) (base := w.heap.size) (ok := fun k_ => (True ∧ some k_ ≠ (.slice Ao18 t249.length co18 : Value).ownBlock)) (n := t243.length) (c := co11) ?_).2.2; exact (by (with_reducible repeat (first | apply Kd.R_alloc | apply Kd.R_drewN | apply Kd.R_drew)); exact (Kd.R_mono (Kd.R_far (p := ⟨gb254, 0, none⟩) (Kd.R_types HO245.out BK254.out (by decide)) (fun _ hk => hk.2) (.slice Ao18 t249.length co18)) (fun _ h_ => h_.1)))); (case side2 => exact (Kd.R_reads' HO245.out).2.1); rintro e w34 ⟨rfl, hb⟩; refine ⟨_, rfl, ?_⟩; have n0_ := Aside0.mk (Kd.R_below (by (with_reducible repeat (first | apply Kd.R_alloc | apply Kd.R_drewN | apply Kd.R_drew)); exact (Kd.R_mono (Kd.R_far (p := ⟨gb254, 0, none⟩) (Kd.R_types HO245.out BK254.out (by decide)) (fun _ hk => hk.2) (.slice Ao18 t249.length co18)) (fun _ h_ => h_.1))) hb); have n1_ := Aside0.mk (Kd.R_below (by (with_reducible repeat (first | apply Kd.R_alloc | apply Kd.R_drewN | apply Kd.R_drew)); exact (Kd.R_mono (Kd.R_far (p := ⟨gb254, 0, none⟩) (Kd.R_types HO251.out BK254.out (by decide)) (fun _ hk => hk.2) (.slice Ao18 t249.length co18)) (fun _ h_ => h_.1))) hb); have n2_ := Aside0.mk (blk_below (g := gb237) (o := .cells #[.slice none 0 0] 38 (0, 0)) (by (with_reducible repeat (first | refine blk_drewN ?_ _ | refine blk_drew ?_ | refine blk_alloc ?_ _)); refine blk_far ?_ NB237_254.out _; (with_reducible repeat (first | refine blk_drewN ?_ _ | refine blk_drew ?_ | refine blk_alloc ?_ _)); exact BK237.out) hb); have n3_ := Aside0.mk (blk_below (g := gb238) (o := .cells #[.slice none 0 0] 38 (0, 0)) (by (with_reducible repeat (first | refine blk_drewN ?_ _ | refine blk_drew ?_ | refine blk_alloc ?_ _)); refine blk_far ?_ NB238_254.out _; (with_reducible repeat (first | refine blk_drewN ?_ _ | refine blk_drew ?_ | refine blk_alloc ?_ _)); exact BK238.out) hb); have n4_ := Aside0.mk (IsS125.below (show IsS125 w (w17.setCell ⟨gb254, 0, none⟩ (.slice Ao18 t249.length co18)) g242 t239 t252 t253 from by repeat (first | (with_reducible first | exact HI242.out | apply IsS125.alloc | apply IsS125.drewN | apply IsS125.drew | apply IsS125.set_1 | apply IsS125.set_2 | refine IsS125.far ?_ NB242_237.out _ | refine IsS125.far ?_ NB242_238.out _ | refine IsS125.far ?_ NB242_248.out _ | refine IsS125.far ?_ NB242_254.out _) | exact HI242.out)) hb); have n5_ := Aside0.mk (blk_below (g := gb248) (o := .cells #[.slice Ao11 t243.length co11] 38 (0, 0)) (by (with_reducible repeat (first | refine blk_drewN ?_ _ | refine blk_drew ?_ | refine blk_alloc ?_ _)); refine blk_far ?_ NB248_254.out _; (with_reducible repeat (first | refine blk_drewN ?_ _ | refine blk_drew ?_ | refine blk_alloc ?_ _)); exact BK248.out) hb); have n6_ := Aside0.mk (blk_below (g := gb254) (o := .cells #[.slice Ao18 t249.length co18] 38 (0, 0)) (by (with_reducible repeat (first | refine blk_drewN ?_ _ | refine blk_drew ?_ | refine blk_alloc ?_ _)); refine blk_put (cs := #[.slice none 0 0]) ?_ 0 _ rfl; (with_reducible repeat (first | refine blk_drewN ?_ _ | refine blk_drew ?_ | refine blk_alloc ?_ _)); exact BK254.out) hb); have n7_ := Aside0.mk (below_step (by repeat (first | (with_reducible first | exact HB.out | apply below_alloc | apply pw_below_drewN | apply below_drew1 | refine below_set ?_ (IsS125.ge HI242.out) | refine below_set ?_ GE237.out | refine below_set ?_ GE238.out | refine below_set ?_ GE248.out | refine below_set ?_ GE254.out) | exact HB.out)) hb); clear HO245; clear HO251; clear BK237; clear BK238; clear HI242; clear BK248; clear BK254; clear HB; have HO245 := n0_; have HO251 := n1_; have BK237 := n2_; have BK238 := n3_; have HI242 := n4_; have BK248 := n5_; have BK254 := n6_; have HB := n7_; clear n0_ n1_ n2_ n3_ n4_ n5_ n6_ n7_; (try clear hb); (try clear hb2); (try clear hk); (try clear hi); have hnb35 := NB254_237.out; have hnc35 := NB237_254.out; have hnb36 := NB254_238.out; have hnc36 := NB238_254.out; have hnb37 := NB254_242.out; have hnc37 := NB242_254.out; have hcz38_0 : w34.cell? ⟨gb254, 0, none⟩ = some (.slice Ao18 t249.length co18) := (blk_cell BK254.out 0).trans rfl; have hfz38_0 := blk_frozen BK254.out 0) | (go_at_call 20; (with_reducible refine (spec_NatOk.calls k _ _ t249 true _ ?side1 ?side2 A26.out).mono ?_); (case side1 => repeat (first | exact (Kd.R_reads' HO251.out).2.2 | (with_reducible refine Kd.C_alloc ?_ _) | (with_reducible refine Kd.C_drewN ?_ _) | (with_reducible refine Kd.C_drew ?_))); (case side2 => exact (Kd.R_reads' HO251.out).2.1); rintro e w39 ⟨rfl, hb⟩; have n0_ := hkRb HO245 hb; have n1_ := hkRb HO251 hb; have n2_ := hkBb BK237 hb; have n3_ := hkBb BK238 hb; have n4_ := Aside0.mk (IsS125.below (by repeat (first | (with_reducible first | exact HI242.out | apply IsS125.alloc | apply IsS125.drewN | apply IsS125.drew | apply IsS125.set_1 | apply IsS125.set_2 | refine IsS125.far ?_ NB242_237.out _ | refine IsS125.far ?_ NB242_238.out _ | refine IsS125.far ?_ NB242_248.out _ | refine IsS125.far ?_ NB242_254.out _) | exact HI242.out)) hb); have n5_ := hkBb BK248 hb; have n6_ := hkBb BK254 hb; have n7_ := Aside0.mk (below_step (by repeat (first | (with_reducible first | exact HB.out | apply below_alloc | apply pw_below_drewN | apply below_drew1 | refine below_set ?_ (IsS125.ge HI242.out) | refine below_set ?_ GE237.out | refine below_set ?_ GE238.out | refine below_set ?_ GE248.out | refine below_set ?_ GE254.out) | exact HB.out)) hb); clear HO245; clear HO251; clear BK237; clear BK238; clear HI242; clear BK248; clear BK254; clear HB; have HO245 := n0_; have HO251 := n1_; have BK237 := n2_; have BK238 := n3_; have HI242 := n4_; have BK248 := n5_; have BK254 := n6_; have HB := n7_; clear n0_ n1_ n2_ n3_ n4_ n5_ n6_ n7_; (try clear hb); (try clear hb2); (try clear hk); (try clear hi); have hcz40_0 : w39.cell? ⟨gb248, 0, none⟩ = some (.slice Ao11 t243.length co11) := (blk_cell BK248.out 0).trans rfl; have hfz40_0 := blk_frozen BK248.out 0; have hcz41_0 : w39.cell? ⟨gb254, 0, none⟩ = some (.slice Ao18 t249.length co18) := (blk_cell BK254.out 0).trans rfl; have hfz41_0 := blk_frozen BK254.out 0))
          go_meet
          case rel => exact ⟨_, (decide ((t249.length : Int) < 6)), (by first | rfl | (simp; done) | (simp [*]; done)), H', ⟨by first | omega | exact Nat.le_refl _⟩, ⟨by (with_reducible repeat (first | apply Kd.R_alloc | apply Kd.R_drewN | apply Kd.R_drew)); exact Kd.R_mono HO245.out (fun _ hk => hk.2)⟩, ⟨by (with_reducible repeat (first | apply Kd.R_alloc | apply Kd.R_drewN | apply Kd.R_drew)); exact Kd.R_mono HO251.out (fun _ hk => hk.2)⟩, ⟨by (with_reducible repeat (first | refine blk_drewN ?_ _ | refine blk_drew ?_ | refine blk_alloc ?_ _)); exact BK237.out⟩, ⟨by (with_reducible repeat (first | refine blk_drewN ?_ _ | refine blk_drew ?_ | refine blk_alloc ?_ _)); exact BK238.out⟩, ⟨by (with_reducible repeat (first | refine blk_drewN ?_ _ | refine blk_drew ?_ | refine blk_alloc ?_ _)); exact BK248.out⟩, ⟨by (with_reducible repeat (first | refine blk_drewN ?_ _ | refine blk_drew ?_ | refine blk_alloc ?_ _)); exact BK254.out⟩, ⟨by repeat (first | (with_reducible first | exact HI242.out | apply IsS125.alloc | apply IsS125.drewN | apply IsS125.drew | apply IsS125.set_1 | apply IsS125.set_2 | refine IsS125.far ?_ NB242_237.out _ | refine IsS125.far ?_ NB242_238.out _ | refine IsS125.far ?_ NB242_248.out _ | refine IsS125.far ?_ NB242_254.out _) | exact HI242.out)⟩, ⟨by repeat (first | (with_reducible first | exact HB.out | apply below_alloc | apply pw_below_drewN | apply below_drew1 | refine below_set ?_ (IsS125.ge HI242.out) | refine below_set ?_ GE237.out | refine below_set ?_ GE238.out | refine below_set ?_ GE248.out | refine below_set ?_ GE254.out) | exact HB.out)⟩⟩
        · rw [if_neg c28] at H
          have c28b0 : decide ((t243.length : Int) < 6) = false := decide_eq_false c28
          have c28b1 : decide (t243.length < 6) = false := decide_eq_false (by omega)
          clear c28
          (first | rw [c28b0] | (simp only [i64_w, i32_w]; rw [c28b0]) | skip)
          have H' := Aside0.mk H
          clear H
          have hnb42 := NB248_237.out
          have hnc42 := NB237_248.out
          have hnb43 := NB248_238.out
          have hnc43 := NB238_248.out
          have hnb44 := NB248_254.out
          have hnc44 := NB254_248.out
          have hnb45 := NB248_242.out
          have hnc45 := NB242_248.out
          have hcz46_0 : w17.cell? ⟨gb248, 0, none⟩ = some (.slice Ao11 t243.length co11) := (blk_cell BK248.out 0).trans rfl
          have hfz46_0 := blk_frozen BK248.out 0
          go_wp2_with (first | ((with_reducible refine gate_callee (f := 20) rfl ?_); refine goesL_ (some 15) rfl rfl Try.func20 (by kernel_rfl) rfl #[.agg #[.slice Ao11 t243.length co11]] rfl hkL ?_; (with_reducible refine (spec_NatOk.calls k _ _ t243 true _ ?side1 ?side2 A24.out).mono ?_); (case side1 => refine (Kd.R_reads' (e := 3) (base := w.heap.size) (ok := fun k_ => (True ∧ some k_ ≠ (.slice Ao18 t249.length co18 : Value).ownBlock)) (n := t243.length) (c := co11) ?_).2.2; exact (by (with_reducible repeat (first | apply Kd.R_alloc | apply Kd.R_drewN | apply Kd.R_drew)); exact (Kd.R_mono (Kd.R_far (p := ⟨gb254, 0, none⟩) (Kd.R_types HO245.out BK254.out (by decide)) (fun _ hk => hk.2) (.slice Ao18 t249.length co18)) (fun _ h_ => h_.1)))); (case side2 => exact (Kd.R_reads' HO245.out).2.1); rintro e w47 ⟨rfl, hb⟩; refine ⟨_, rfl, ?_⟩; have n0_ := Aside0.mk (Kd.R_below (by (with_reducible repeat (first | apply Kd.R_alloc | apply Kd.R_drewN | apply Kd.R_drew)); exact (Kd.R_mono (Kd.R_far (p := ⟨gb254, 0, none⟩) (Kd.R_types HO245.out BK254.out (by decide)) (fun _ hk => hk.2) (.slice Ao18 t249.length co18)) (fun _ h_ => h_.1))) hb); have n1_ := Aside0.mk (Kd.R_below (by (with_reducible repeat (first | apply Kd.R_alloc | apply Kd.R_drewN | apply Kd.R_drew)); exact (Kd.R_mono (Kd.R_far (p := ⟨gb254, 0, none⟩) (Kd.R_types HO251.out BK254.out (by decide)) (fun _ hk => hk.2) (.slice Ao18 t249.length co18)) (fun _ h_ => h_.1))) hb); have n2_ := Aside0.mk (blk_below (g := gb237) (o := .cells #[.slice none 0 0] 38 (0, 0)) (by (with_reducible repeat (first | refine blk_drewN ?_ _ | refine blk_drew ?_ | refine blk_alloc ?_ _)); refine blk_far ?_ NB237_254.out _; (with_reducible repeat (first | refine blk_drewN ?_ _ | refine blk_drew ?_ | refine blk_alloc ?_ _)); exact BK237.out) hb); have n3_ := Aside0.mk (blk_below (g := gb238) (o := .cells #[.slice none 0 0] 38 (0, 0)) (by (with_reducible repeat (first | refine blk_drewN ?_ _ | refine blk_drew ?_ | refine blk_alloc ?_ _)); refine blk_far ?_ NB238_254.out _; (with_reducible repeat (first | refine blk_drewN ?_ _ | refine blk_drew ?_ | refine blk_alloc ?_ _)); exact BK238.out) hb); have n4_ := Aside0.mk (IsS125.below (show IsS125 w (w17.setCell ⟨gb254, 0, none⟩ (.slice Ao18 t249.length co18)) g242 t239 t252 t253 from by repeat (first | (with_reducible first | exact HI242.out | apply IsS125.alloc | apply IsS125.drewN | apply IsS125.drew | apply IsS125.set_1 | apply IsS125.set_2 | refine IsS125.far ?_ NB242_237.out _ | refine IsS125.far ?_ NB242_238.out _ | refine IsS125.far ?_ NB242_248.out _ | refine IsS125.far ?_ NB242_254.out _) | exact HI242.out)) hb); have n5_ := Aside0.mk (blk_below (g := gb248) (o := .cells #[.slice Ao11 t243.length co11] 38 (0, 0)) (by (with_reducible repeat (first | refine blk_drewN ?_ _ | refine blk_drew ?_ | refine blk_alloc ?_ _)); refine blk_far ?_ NB248_254.out _; (with_reducible repeat (first | refine blk_drewN ?_ _ | refine blk_drew ?_ | refine blk_alloc ?_ _)); exact BK248.out) hb); have n6_ := Aside0.mk (blk_below (g := gb254) (o := .cells #[.slice Ao18 t249.length co18] 38 (0, 0)) (by (with_reducible repeat (first | refine blk_drewN ?_ _ | refine blk_drew ?_ | refine blk_alloc ?_ _)); refine blk_put (cs := #[.slice none 0 0]) ?_ 0 _ rfl; (with_reducible repeat (first | refine blk_drewN ?_ _ | refine blk_drew ?_ | refine blk_alloc ?_ _)); exact BK254.out) hb); have n7_ := Aside0.mk (below_step (by repeat (first | (with_reducible first | exact HB.out | apply below_alloc | apply pw_below_drewN | apply below_drew1 | refine below_set ?_ (IsS125.ge HI242.out) | refine below_set ?_ GE237.out | refine below_set ?_ GE238.out | refine below_set ?_ GE248.out | refine below_set ?_ GE254.out) | exact HB.out)) hb); clear HO245; clear HO251; clear BK237; clear BK238; clear HI242; clear BK248; clear BK254; clear HB; have HO245 := n0_; have HO251 := n1_; have BK237 := n2_; have BK238 := n3_; have HI242 := n4_; have BK248 := n5_; have BK254 := n6_; have HB := n7_; clear n0_ n1_ n2_ n3_ n4_ n5_ n6_ n7_; (try clear hb); (try clear hb2); (try clear hk); (try clear hi); have hnb48 := NB254_237.out; have hnc48 := NB237_254.out; have hnb49 := NB254_238.out; have hnc49 := NB238_254.out; have hnb50 := NB254_242.out; have hnc50 := NB242_254.out; have hcz51_0 : w47.cell? ⟨gb254, 0, none⟩ = some (.slice Ao18 t249.length co18) := (blk_cell BK254.out 0).trans rfl; have hfz51_0 := blk_frozen BK254.out 0) | (go_at_call 20; (with_reducible refine (spec_NatOk.calls k _ _ t249 true _ ?side1 ?side2 A26.out).mono ?_); (case side1 => repeat (first | exact (Kd.R_reads' HO251.out).2.2 | (with_reducible refine Kd.C_alloc ?_ _) | (with_reducible refine Kd.C_drewN ?_ _) | (with_reducible refine Kd.C_drew ?_))); (case side2 => exact (Kd.R_reads' HO251.out).2.1); rintro e w52 ⟨rfl, hb⟩; have n0_ := hkRb HO245 hb; have n1_ := hkRb HO251 hb; have n2_ := hkBb BK237 hb; have n3_ := hkBb BK238 hb; have n4_ := Aside0.mk (IsS125.below (by repeat (first | (with_reducible first | exact HI242.out | apply IsS125.alloc | apply IsS125.drewN | apply IsS125.drew | apply IsS125.set_1 | apply IsS125.set_2 | refine IsS125.far ?_ NB242_237.out _ | refine IsS125.far ?_ NB242_238.out _ | refine IsS125.far ?_ NB242_248.out _ | refine IsS125.far ?_ NB242_254.out _) | exact HI242.out)) hb); have n5_ := hkBb BK248 hb; have n6_ := hkBb BK254 hb; have n7_ := Aside0.mk (below_step (by repeat (first | (with_reducible first | exact HB.out | apply below_alloc | apply pw_below_drewN | apply below_drew1 | refine below_set ?_ (IsS125.ge HI242.out) | refine below_set ?_ GE237.out | refine below_set ?_ GE238.out | refine below_set ?_ GE248.out | refine below_set ?_ GE254.out) | exact HB.out)) hb); clear HO245; clear HO251; clear BK237; clear BK238; clear HI242; clear BK248; clear BK254; clear HB; have HO245 := n0_; have HO251 := n1_; have BK237 := n2_; have BK238 := n3_; have HI242 := n4_; have BK248 := n5_; have BK254 := n6_; have HB := n7_; clear n0_ n1_ n2_ n3_ n4_ n5_ n6_ n7_; (try clear hb); (try clear hb2); (try clear hk); (try clear hi); have hcz53_0 : w52.cell? ⟨gb248, 0, none⟩ = some (.slice Ao11 t243.length co11) := (blk_cell BK248.out 0).trans rfl; have hfz53_0 := blk_frozen BK248.out 0))
          go_meet
          case rel => exact ⟨_, (false), (by first | rfl | (simp; done) | (simp [*]; done)), H', ⟨by first | omega | exact Nat.le_refl _⟩, ⟨by (with_reducible repeat (first | apply Kd.R_alloc | apply Kd.R_drewN | apply Kd.R_drew)); exact Kd.R_mono HO245.out (fun _ hk => hk.2)⟩, ⟨by (with_reducible repeat (first | apply Kd.R_alloc | apply Kd.R_drewN | apply Kd.R_drew)); exact Kd.R_mono HO251.out (fun _ hk => hk.2)⟩, ⟨by (with_reducible repeat (first | refine blk_drewN ?_ _ | refine blk_drew ?_ | refine blk_alloc ?_ _)); exact BK237.out⟩, ⟨by (with_reducible repeat (first | refine blk_drewN ?_ _ | refine blk_drew ?_ | refine blk_alloc ?_ _)); exact BK238.out⟩, ⟨by (with_reducible repeat (first | refine blk_drewN ?_ _ | refine blk_drew ?_ | refine blk_alloc ?_ _)); exact BK248.out⟩, ⟨by (with_reducible repeat (first | refine blk_drewN ?_ _ | refine blk_drew ?_ | refine blk_alloc ?_ _)); exact BK254.out⟩, ⟨by repeat (first | (with_reducible first | exact HI242.out | apply IsS125.alloc | apply IsS125.drewN | apply IsS125.drew | apply IsS125.set_1 | apply IsS125.set_2 | refine IsS125.far ?_ NB242_237.out _ | refine IsS125.far ?_ NB242_238.out _ | refine IsS125.far ?_ NB242_248.out _ | refine IsS125.far ?_ NB242_254.out _) | exact HI242.out)⟩, ⟨by repeat (first | (with_reducible first | exact HB.out | apply below_alloc | apply pw_below_drewN | apply below_drew1 | refine below_set ?_ (IsS125.ge HI242.out) | refine below_set ?_ GE237.out | refine below_set ?_ GE238.out | refine below_set ?_ GE248.out | refine below_set ?_ GE254.out) | exact HB.out)⟩⟩
      · replace c27 := Bool.eq_false_iff.mpr c27
        subst c27
        have H1 : (spec_DrawNatGcd.j0 k false t239 t252 t253 t243 t249) = some (r1, r2) := by rw [if_neg (show ¬ (false = true) by decide)] at H; exact H
        clear H
        have H := H1
        clear H1
        have H' := Aside0.mk H
        clear H
        have hnb54 := NB248_237.out
        have hnc54 := NB237_248.out
        have hnb55 := NB248_238.out
        have hnc55 := NB238_248.out
        have hnb56 := NB248_254.out
        have hnc56 := NB254_248.out
        have hnb57 := NB248_242.out
        have hnc57 := NB242_248.out
        have hcz58_0 : w17.cell? ⟨gb248, 0, none⟩ = some (.slice Ao11 t243.length co11) := (blk_cell BK248.out 0).trans rfl
        have hfz58_0 := blk_frozen BK248.out 0
        go_wp2_with (first | ((with_reducible refine gate_callee (f := 20) rfl ?_); refine goesL_ (some 15) rfl rfl Try.func20 (by kernel_rfl) rfl #[.agg #[.slice Ao11 t243.length co11]] rfl hkL ?_; (with_reducible refine (spec_NatOk.calls k _ _ t243 true _ ?side1 ?side2 A24.out).mono ?_); (case side1 => refine (Kd.R_reads' (e := 3) (base := w.heap.size) (ok := fun k_ => (True ∧ some k_ ≠ (.slice Ao18 t249.length co18 : Value).ownBlock)) (n := t243.length) (c := co11) ?_).2.2; exact (by (with_reducible repeat (first | apply Kd.R_alloc | apply Kd.R_drewN | apply Kd.R_drew)); exact (Kd.R_mono (Kd.R_far (p := ⟨gb254, 0, none⟩) (Kd.R_types HO245.out BK254.out (by decide)) (fun _ hk => hk.2) (.slice Ao18 t249.length co18)) (fun _ h_ => h_.1)))); (case side2 => exact (Kd.R_reads' HO245.out).2.1); rintro e w59 ⟨rfl, hb⟩; refine ⟨_, rfl, ?_⟩; have n0_ := Aside0.mk (Kd.R_below (by (with_reducible repeat (first | apply Kd.R_alloc | apply Kd.R_drewN | apply Kd.R_drew)); exact (Kd.R_mono (Kd.R_far (p := ⟨gb254, 0, none⟩) (Kd.R_types HO245.out BK254.out (by decide)) (fun _ hk => hk.2) (.slice Ao18 t249.length co18)) (fun _ h_ => h_.1))) hb); have n1_ := Aside0.mk (Kd.R_below (by (with_reducible repeat (first | apply Kd.R_alloc | apply Kd.R_drewN | apply Kd.R_drew)); exact (Kd.R_mono (Kd.R_far (p := ⟨gb254, 0, none⟩) (Kd.R_types HO251.out BK254.out (by decide)) (fun _ hk => hk.2) (.slice Ao18 t249.length co18)) (fun _ h_ => h_.1))) hb); have n2_ := Aside0.mk (blk_below (g := gb237) (o := .cells #[.slice none 0 0] 38 (0, 0)) (by (with_reducible repeat (first | refine blk_drewN ?_ _ | refine blk_drew ?_ | refine blk_alloc ?_ _)); refine blk_far ?_ NB237_254.out _; (with_reducible repeat (first | refine blk_drewN ?_ _ | refine blk_drew ?_ | refine blk_alloc ?_ _)); exact BK237.out) hb); have n3_ := Aside0.mk (blk_below (g := gb238) (o := .cells #[.slice none 0 0] 38 (0, 0)) (by (with_reducible repeat (first | refine blk_drewN ?_ _ | refine blk_drew ?_ | refine blk_alloc ?_ _)); refine blk_far ?_ NB238_254.out _; (with_reducible repeat (first | refine blk_drewN ?_ _ | refine blk_drew ?_ | refine blk_alloc ?_ _)); exact BK238.out) hb); have n4_ := Aside0.mk (IsS125.below (show IsS125 w (w17.setCell ⟨gb254, 0, none⟩ (.slice Ao18 t249.length co18)) g242 t239 t252 t253 from by repeat (first | (with_reducible first | exact HI242.out | apply IsS125.alloc | apply IsS125.drewN | apply IsS125.drew | apply IsS125.set_1 | apply IsS125.set_2 | refine IsS125.far ?_ NB242_237.out _ | refine IsS125.far ?_ NB242_238.out _ | refine IsS125.far ?_ NB242_248.out _ | refine IsS125.far ?_ NB242_254.out _) | exact HI242.out)) hb); have n5_ := Aside0.mk (blk_below (g := gb248) (o := .cells #[.slice Ao11 t243.length co11] 38 (0, 0)) (by (with_reducible repeat (first | refine blk_drewN ?_ _ | refine blk_drew ?_ | refine blk_alloc ?_ _)); refine blk_far ?_ NB248_254.out _; (with_reducible repeat (first | refine blk_drewN ?_ _ | refine blk_drew ?_ | refine blk_alloc ?_ _)); exact BK248.out) hb); have n6_ := Aside0.mk (blk_below (g := gb254) (o := .cells #[.slice Ao18 t249.length co18] 38 (0, 0)) (by (with_reducible repeat (first | refine blk_drewN ?_ _ | refine blk_drew ?_ | refine blk_alloc ?_ _)); refine blk_put (cs := #[.slice none 0 0]) ?_ 0 _ rfl; (with_reducible repeat (first | refine blk_drewN ?_ _ | refine blk_drew ?_ | refine blk_alloc ?_ _)); exact BK254.out) hb); have n7_ := Aside0.mk (below_step (by repeat (first | (with_reducible first | exact HB.out | apply below_alloc | apply pw_below_drewN | apply below_drew1 | refine below_set ?_ (IsS125.ge HI242.out) | refine below_set ?_ GE237.out | refine below_set ?_ GE238.out | refine below_set ?_ GE248.out | refine below_set ?_ GE254.out) | exact HB.out)) hb); clear HO245; clear HO251; clear BK237; clear BK238; clear HI242; clear BK248; clear BK254; clear HB; have HO245 := n0_; have HO251 := n1_; have BK237 := n2_; have BK238 := n3_; have HI242 := n4_; have BK248 := n5_; have BK254 := n6_; have HB := n7_; clear n0_ n1_ n2_ n3_ n4_ n5_ n6_ n7_; (try clear hb); (try clear hb2); (try clear hk); (try clear hi); have hnb60 := NB254_237.out; have hnc60 := NB237_254.out; have hnb61 := NB254_238.out; have hnc61 := NB238_254.out; have hnb62 := NB254_242.out; have hnc62 := NB242_254.out; have hcz63_0 : w59.cell? ⟨gb254, 0, none⟩ = some (.slice Ao18 t249.length co18) := (blk_cell BK254.out 0).trans rfl; have hfz63_0 := blk_frozen BK254.out 0) | (go_at_call 20; (with_reducible refine (spec_NatOk.calls k _ _ t249 false _ ?side1 ?side2 A26.out).mono ?_); (case side1 => repeat (first | exact (Kd.R_reads' HO251.out).2.2 | (with_reducible refine Kd.C_alloc ?_ _) | (with_reducible refine Kd.C_drewN ?_ _) | (with_reducible refine Kd.C_drew ?_))); (case side2 => exact (Kd.R_reads' HO251.out).2.1); rintro e w64 ⟨rfl, hb⟩; have n0_ := hkRb HO245 hb; have n1_ := hkRb HO251 hb; have n2_ := hkBb BK237 hb; have n3_ := hkBb BK238 hb; have n4_ := Aside0.mk (IsS125.below (by repeat (first | (with_reducible first | exact HI242.out | apply IsS125.alloc | apply IsS125.drewN | apply IsS125.drew | apply IsS125.set_1 | apply IsS125.set_2 | refine IsS125.far ?_ NB242_237.out _ | refine IsS125.far ?_ NB242_238.out _ | refine IsS125.far ?_ NB242_248.out _ | refine IsS125.far ?_ NB242_254.out _) | exact HI242.out)) hb); have n5_ := hkBb BK248 hb; have n6_ := hkBb BK254 hb; have n7_ := Aside0.mk (below_step (by repeat (first | (with_reducible first | exact HB.out | apply below_alloc | apply pw_below_drewN | apply below_drew1 | refine below_set ?_ (IsS125.ge HI242.out) | refine below_set ?_ GE237.out | refine below_set ?_ GE238.out | refine below_set ?_ GE248.out | refine below_set ?_ GE254.out) | exact HB.out)) hb); clear HO245; clear HO251; clear BK237; clear BK238; clear HI242; clear BK248; clear BK254; clear HB; have HO245 := n0_; have HO251 := n1_; have BK237 := n2_; have BK238 := n3_; have HI242 := n4_; have BK248 := n5_; have BK254 := n6_; have HB := n7_; clear n0_ n1_ n2_ n3_ n4_ n5_ n6_ n7_; (try clear hb); (try clear hb2); (try clear hk); (try clear hi)))
        go_meet
        case rel => exact ⟨_, (false), (by first | rfl | (simp; done) | (simp [*]; done)), H', ⟨by first | omega | exact Nat.le_refl _⟩, ⟨by (with_reducible repeat (first | apply Kd.R_alloc | apply Kd.R_drewN | apply Kd.R_drew)); exact Kd.R_mono HO245.out (fun _ hk => hk.2)⟩, ⟨by (with_reducible repeat (first | apply Kd.R_alloc | apply Kd.R_drewN | apply Kd.R_drew)); exact Kd.R_mono HO251.out (fun _ hk => hk.2)⟩, ⟨by (with_reducible repeat (first | refine blk_drewN ?_ _ | refine blk_drew ?_ | refine blk_alloc ?_ _)); exact BK237.out⟩, ⟨by (with_reducible repeat (first | refine blk_drewN ?_ _ | refine blk_drew ?_ | refine blk_alloc ?_ _)); exact BK238.out⟩, ⟨by (with_reducible repeat (first | refine blk_drewN ?_ _ | refine blk_drew ?_ | refine blk_alloc ?_ _)); exact BK248.out⟩, ⟨by (with_reducible repeat (first | refine blk_drewN ?_ _ | refine blk_drew ?_ | refine blk_alloc ?_ _)); exact BK254.out⟩, ⟨by repeat (first | (with_reducible first | exact HI242.out | apply IsS125.alloc | apply IsS125.drewN | apply IsS125.drew | apply IsS125.set_1 | apply IsS125.set_2 | refine IsS125.far ?_ NB242_237.out _ | refine IsS125.far ?_ NB242_238.out _ | refine IsS125.far ?_ NB242_248.out _ | refine IsS125.far ?_ NB242_254.out _) | exact HI242.out)⟩, ⟨by repeat (first | (with_reducible first | exact HB.out | apply below_alloc | apply pw_below_drewN | apply below_drew1 | refine below_set ?_ (IsS125.ge HI242.out) | refine below_set ?_ GE237.out | refine below_set ?_ GE238.out | refine below_set ?_ GE248.out | refine below_set ?_ GE254.out) | exact HB.out)⟩⟩
    · replace c25 := Bool.eq_false_iff.mpr c25
      subst c25
      have H1 : (spec_DrawNatGcd.j0 k false t239 t252 t253 t243 t249) = some (r1, r2) := by rw [if_neg (show ¬ (false = true) by decide)] at H; exact H
      clear H
      have H := H1
      clear H1
      have H' := Aside0.mk H
      clear H
      have hnb65 := NB248_237.out
      have hnc65 := NB237_248.out
      have hnb66 := NB248_238.out
      have hnc66 := NB238_248.out
      have hnb67 := NB248_254.out
      have hnc67 := NB254_248.out
      have hnb68 := NB248_242.out
      have hnc68 := NB242_248.out
      have hcz69_0 : w17.cell? ⟨gb248, 0, none⟩ = some (.slice Ao11 t243.length co11) := (blk_cell BK248.out 0).trans rfl
      have hfz69_0 := blk_frozen BK248.out 0
      go_wp2_with (first | ((with_reducible refine gate_callee (f := 20) rfl ?_); refine goesL_ (some 15) rfl rfl Try.func20 (by kernel_rfl) rfl #[.agg #[.slice Ao11 t243.length co11]] rfl hkL ?_; (with_reducible refine (spec_NatOk.calls k _ _ t243 false _ ?side1 ?side2 A24.out).mono ?_); (case side1 => refine (Kd.R_reads' (e := 3) (base := w.heap.size) (ok := fun k_ => (True ∧ some k_ ≠ (.slice Ao18 t249.length co18 : Value).ownBlock)) (n := t243.length) (c := co11) ?_).2.2; exact (by (with_reducible repeat (first | apply Kd.R_alloc | apply Kd.R_drewN | apply Kd.R_drew)); exact (Kd.R_mono (Kd.R_far (p := ⟨gb254, 0, none⟩) (Kd.R_types HO245.out BK254.out (by decide)) (fun _ hk => hk.2) (.slice Ao18 t249.length co18)) (fun _ h_ => h_.1)))); (case side2 => exact (Kd.R_reads' HO245.out).2.1); rintro e w70 ⟨rfl, hb⟩; refine ⟨_, rfl, ?_⟩; have n0_ := Aside0.mk (Kd.R_below (by (with_reducible repeat (first | apply Kd.R_alloc | apply Kd.R_drewN | apply Kd.R_drew)); exact (Kd.R_mono (Kd.R_far (p := ⟨gb254, 0, none⟩) (Kd.R_types HO245.out BK254.out (by decide)) (fun _ hk => hk.2) (.slice Ao18 t249.length co18)) (fun _ h_ => h_.1))) hb); have n1_ := Aside0.mk (Kd.R_below (by (with_reducible repeat (first | apply Kd.R_alloc | apply Kd.R_drewN | apply Kd.R_drew)); exact (Kd.R_mono (Kd.R_far (p := ⟨gb254, 0, none⟩) (Kd.R_types HO251.out BK254.out (by decide)) (fun _ hk => hk.2) (.slice Ao18 t249.length co18)) (fun _ h_ => h_.1))) hb); have n2_ := Aside0.mk (blk_below (g := gb237) (o := .cells #[.slice none 0 0] 38 (0, 0)) (by (with_reducible repeat (first | refine blk_drewN ?_ _ | refine blk_drew ?_ | refine blk_alloc ?_ _)); refine blk_far ?_ NB237_254.out _; (with_reducible repeat (first | refine blk_drewN ?_ _ | refine blk_drew ?_ | refine blk_alloc ?_ _)); exact BK237.out) hb); have n3_ := Aside0.mk (blk_below (g := gb238) (o := .cells #[.slice none 0 0] 38 (0, 0)) (by (with_reducible repeat (first | refine blk_drewN ?_ _ | refine blk_drew ?_ | refine blk_alloc ?_ _)); refine blk_far ?_ NB238_254.out _; (with_reducible repeat (first | refine blk_drewN ?_ _ | refine blk_drew ?_ | refine blk_alloc ?_ _)); exact BK238.out) hb); have n4_ := Aside0.mk (IsS125.below (show IsS125 w (w17.setCell ⟨gb254, 0, none⟩ (.slice Ao18 t249.length co18)) g242 t239 t252 t253 from by repeat (first | (with_reducible first | exact HI242.out | apply IsS125.alloc | apply IsS125.drewN | apply IsS125.drew | apply IsS125.set_1 | apply IsS125.set_2 | refine IsS125.far ?_ NB242_237.out _ | refine IsS125.far ?_ NB242_238.out _ | refine IsS125.far ?_ NB242_248.out _ | refine IsS125.far ?_ NB242_254.out _) | exact HI242.out)) hb); have n5_ := Aside0.mk (blk_below (g := gb248) (o := .cells #[.slice Ao11 t243.length co11] 38 (0, 0)) (by (with_reducible repeat (first | refine blk_drewN ?_ _ | refine blk_drew ?_ | refine blk_alloc ?_ _)); refine blk_far ?_ NB248_254.out _; (with_reducible repeat (first | refine blk_drewN ?_ _ | refine blk_drew ?_ | refine blk_alloc ?_ _)); exact BK248.out) hb); have n6_ := Aside0.mk (blk_below (g := gb254) (o := .cells #[.slice Ao18 t249.length co18] 38 (0, 0)) (by (with_reducible repeat (first | refine blk_drewN ?_ _ | refine blk_drew ?_ | refine blk_alloc ?_ _)); refine blk_put (cs := #[.slice none 0 0]) ?_ 0 _ rfl; (with_reducible repeat (first | refine blk_drewN ?_ _ | refine blk_drew ?_ | refine blk_alloc ?_ _)); exact BK254.out) hb); have n7_ := Aside0.mk (below_step (by repeat (first | (with_reducible first | exact HB.out | apply below_alloc | apply pw_below_drewN | apply below_drew1 | refine below_set ?_ (IsS125.ge HI242.out) | refine below_set ?_ GE237.out | refine below_set ?_ GE238.out | refine below_set ?_ GE248.out | refine below_set ?_ GE254.out) | exact HB.out)) hb); clear HO245; clear HO251; clear BK237; clear BK238; clear HI242; clear BK248; clear BK254; clear HB; have HO245 := n0_; have HO251 := n1_; have BK237 := n2_; have BK238 := n3_; have HI242 := n4_; have BK248 := n5_; have BK254 := n6_; have HB := n7_; clear n0_ n1_ n2_ n3_ n4_ n5_ n6_ n7_; (try clear hb); (try clear hb2); (try clear hk); (try clear hi)))
      go_meet
      case rel => exact ⟨_, (false), (by first | rfl | (simp; done) | (simp [*]; done)), H', ⟨by first | omega | exact Nat.le_refl _⟩, ⟨by (with_reducible repeat (first | apply Kd.R_alloc | apply Kd.R_drewN | apply Kd.R_drew)); exact Kd.R_mono HO245.out (fun _ hk => hk.2)⟩, ⟨by (with_reducible repeat (first | apply Kd.R_alloc | apply Kd.R_drewN | apply Kd.R_drew)); exact Kd.R_mono HO251.out (fun _ hk => hk.2)⟩, ⟨by (with_reducible repeat (first | refine blk_drewN ?_ _ | refine blk_drew ?_ | refine blk_alloc ?_ _)); exact BK237.out⟩, ⟨by (with_reducible repeat (first | refine blk_drewN ?_ _ | refine blk_drew ?_ | refine blk_alloc ?_ _)); exact BK238.out⟩, ⟨by (with_reducible repeat (first | refine blk_drewN ?_ _ | refine blk_drew ?_ | refine blk_alloc ?_ _)); exact BK248.out⟩, ⟨by (with_reducible repeat (first | refine blk_drewN ?_ _ | refine blk_drew ?_ | refine blk_alloc ?_ _)); exact BK254.out⟩, ⟨by repeat (first | (with_reducible first | exact HI242.out | apply IsS125.alloc | apply IsS125.drewN | apply IsS125.drew | apply IsS125.set_1 | apply IsS125.set_2 | refine IsS125.far ?_ NB242_237.out _ | refine IsS125.far ?_ NB242_238.out _ | refine IsS125.far ?_ NB242_248.out _ | refine IsS125.far ?_ NB242_254.out _) | exact HI242.out)⟩, ⟨by repeat (first | (with_reducible first | exact HB.out | apply below_alloc | apply pw_below_drewN | apply below_drew1 | refine below_set ?_ (IsS125.ge HI242.out) | refine below_set ?_ GE237.out | refine below_set ?_ GE238.out | refine below_set ?_ GE248.out | refine below_set ?_ GE254.out) | exact HB.out)⟩⟩
  case rest =>
    clear HC5
    try clear c1
    try clear c2
    try clear p2
    try clear c3
    try clear c4
    try clear c5
    try clear c6
    try clear c12
    try clear c13
    try clear c14
    try clear c18
    try clear c19
    try clear c20
    try clear c21
    try clear c22
    try clear c25
    try clear c27
    try clear c28
    try clear c28b0
    try clear c28b1
    try clear c29
    try clear c30
    try clear c31
    try clear c32
    try clear c35
    try clear c36
    try clear c37
    try clear c42
    try clear c43
    try clear c44
    try clear c45
    try clear c48
    try clear c49
    try clear c50
    try clear c54
    try clear c55
    try clear c56
    try clear c57
    try clear c60
    try clear c61
    try clear c62
    try clear c65
    try clear c66
    try clear c67
    try clear c68
    try clear hcz15_0
    try clear hcz23_0
    try clear hcz33_0
    try clear hcz38_0
    try clear hcz40_0
    try clear hcz41_0
    try clear hcz46_0
    try clear hcz51_0
    try clear hcz53_0
    try clear hcz58_0
    try clear hcz63_0
    try clear hcz69_0
    try clear hfz15_0
    try clear hfz23_0
    try clear hfz33_0
    try clear hfz38_0
    try clear hfz40_0
    try clear hfz41_0
    try clear hfz46_0
    try clear hfz51_0
    try clear hfz53_0
    try clear hfz58_0
    try clear hfz63_0
    try clear hfz69_0
    obtain ⟨kq, x31_4, rfl, HA, HJ4, HO_249000, HO_255000, BK237, BK238, BK248, BK254, HI242, HB⟩ := hcut
    cases kq with
    | zero => exact absurd HA.out (by simp [spec_DrawNatGcd.j0])
    | succ kj4 =>
      have H := HA.out
      clear HA
      simp only [spec_DrawNatGcd.j0] at H
      by_cases c71 : x31_4 = true
      · subst c71
        have H1 : ((spec_l1Below.f t239 t252 t253 999).bind fun bt257 => ((spec_l2of.f kj4 (wrap64 (1 + bt257.1))).bind fun t260 => ((spec_l2mul.f kj4 t243 t260).bind fun t264 => ((spec_l2mul.f kj4 t249 t260).bind fun t267 => (some (t264, t267)))))) = some (r1, r2) := by rw [if_pos rfl] at H; exact H
        clear H
        have H := H1
        clear H1
        replace H := Option.bind_eq_some_iff.mp H
        obtain ⟨⟨t257, t258, t259⟩, A720, H⟩ := H
        replace H : ((spec_l2of.f kj4 (wrap64 (1 + t257))).bind fun t260 => ((spec_l2mul.f kj4 t243 t260).bind fun t264 => ((spec_l2mul.f kj4 t249 t260).bind fun t267 => (some (t264, t267))))) = some (r1, r2) := H
        have A72 := Aside0.mk A720
        clear A720
        replace H := Option.bind_eq_some_iff.mp H
        obtain ⟨t260, A730, H⟩ := H
        replace H : ((spec_l2mul.f kj4 t243 t260).bind fun t264 => ((spec_l2mul.f kj4 t249 t260).bind fun t267 => (some (t264, t267)))) = some (r1, r2) := H
        have A73 := Aside0.mk A730
        clear A730
        replace H := Option.bind_eq_some_iff.mp H
        obtain ⟨t264, A740, H⟩ := H
        replace H : ((spec_l2mul.f kj4 t249 t260).bind fun t267 => (some (t264, t267))) = some (r1, r2) := H
        have A74 := Aside0.mk A740
        clear A740
        replace H := Option.bind_eq_some_iff.mp H
        obtain ⟨t267, A750, H⟩ := H
        replace H : (some (t264, t267)) = some (r1, r2) := H
        have A75 := Aside0.mk A750
        clear A750
        simp only [Option.some.injEq, Prod.mk.injEq] at H
        obtain ⟨rfl, rfl⟩ := H
        try go_wp2_with (first | ((with_reducible refine gate_callee (f := 57) rfl ?_); refine goesL_ (some 33) rfl rfl Try.func57 (by kernel_rfl) rfl #[.pointer (some ⟨g242, 0, none⟩), .int .i64 999] rfl hkL ?_; (with_reducible refine (spec_l1Below.calls g242 t239 t252 t253 999 t257 t258 t259 w _ ?side1 ?side2 A72.out).mono ?_); (case side1 => repeat (first | (with_reducible first | exact HI242.out | apply IsS125.alloc | apply IsS125.drewN | apply IsS125.drew | apply IsS125.set_1 | apply IsS125.set_2 | refine IsS125.far ?_ NB242_237.out _ | refine IsS125.far ?_ NB242_238.out _ | refine IsS125.far ?_ NB242_248.out _ | refine IsS125.far ?_ NB242_254.out _) | exact HI242.out)); (case side2 => repeat (first | (with_reducible first | exact HB.out | apply below_alloc | apply pw_below_drewN | apply below_drew1 | refine below_set ?_ (IsS125.ge HI242.out) | refine below_set ?_ GE237.out | refine below_set ?_ GE238.out | refine below_set ?_ GE248.out | refine below_set ?_ GE254.out) | exact HB.out)); rintro e w76 ⟨rfl, hi, hb, hk⟩; refine ⟨_, rfl, ?_⟩; have n0_ := Aside0.mk (Kd.R_mono (Kd.R_keep (IsS125.apart (show IsS125 w _ g242 t239 t252 t253 from by repeat (first | (with_reducible first | exact HI242.out | apply IsS125.alloc | apply IsS125.drewN | apply IsS125.drew | apply IsS125.set_1 | apply IsS125.set_2 | refine IsS125.far ?_ NB242_237.out _ | refine IsS125.far ?_ NB242_238.out _ | refine IsS125.far ?_ NB242_248.out _ | refine IsS125.far ?_ NB242_254.out _) | exact HI242.out)) (hkR HO_249000) (by decide)) hk (fun _ h => h.2)) (fun _ h => h.1)); have n1_ := Aside0.mk (Kd.R_mono (Kd.R_keep (IsS125.apart (show IsS125 w _ g242 t239 t252 t253 from by repeat (first | (with_reducible first | exact HI242.out | apply IsS125.alloc | apply IsS125.drewN | apply IsS125.drew | apply IsS125.set_1 | apply IsS125.set_2 | refine IsS125.far ?_ NB242_237.out _ | refine IsS125.far ?_ NB242_238.out _ | refine IsS125.far ?_ NB242_248.out _ | refine IsS125.far ?_ NB242_254.out _) | exact HI242.out)) (hkR HO_255000) (by decide)) hk (fun _ h => h.2)) (fun _ h => h.1)); have n2_ := Aside0.mk (KeepBut.blk hk (g' := gb237) (o := .cells #[.slice none 0 0] 38 (0, 0)) (hkB BK237) NB237_242.out (by simp)); have n3_ := Aside0.mk (KeepBut.blk hk (g' := gb238) (o := .cells #[.slice none 0 0] 38 (0, 0)) (hkB BK238) NB238_242.out (by simp)); have n4_ := Aside0.mk (KeepBut.blk hk (g' := gb248) (o := .cells #[.slice Ao11 t243.length co11] 38 (0, 0)) (hkB BK248) NB248_242.out (by simp)); have n5_ := Aside0.mk (KeepBut.blk hk (g' := gb254) (o := .cells #[.slice Ao18 t249.length co18] 38 (0, 0)) (hkB BK254) NB254_242.out (by simp)); have n6_ := Aside0.mk (hb); have n7_ := Aside0.mk (hi); clear HO_249000; clear HO_255000; clear BK237; clear BK238; clear BK248; clear BK254; clear HB; clear HI242; have HO_249000 := n0_; have HO_255000 := n1_; have BK237 := n2_; have BK238 := n3_; have BK248 := n4_; have BK254 := n5_; have HB := n6_; have HI242 := n7_; clear n0_ n1_ n2_ n3_ n4_ n5_ n6_ n7_; (try clear hb); (try clear hb2); (try clear hk); (try clear hi)) | ((with_reducible refine gate_callee (f := 56) rfl ?_); refine goesL_ (some 35) rfl rfl Try.func56 (by kernel_rfl) rfl #[.int .i64 (wrap64 (1 + t257))] rfl hkL ?_; (with_reducible refine (spec_l2of.calls kj4 (wrap64 (1 + t257)) t260 _ A73.out).mono ?_); rintro e w77 ⟨v261, rfl, ho0, hb⟩; refine ⟨_, rfl, ?_⟩; have n0_ := Aside0.mk (Kd.R_elder' (hkR HO_249000) (Kd.R_base ho0) hb); have n1_ := Aside0.mk (Kd.R_elder' (hkR HO_255000) (Kd.R_base ho0) hb); have n2_ := Aside0.mk (Kd.R_lower (Kd.R_new' (Kd.R_new' ho0 (Kd.R_lt (hkR HO_249000))) (Kd.R_lt (hkR HO_255000))) (below_size (by repeat (first | (with_reducible first | exact HB.out | apply below_alloc | apply pw_below_drewN | apply below_drew1 | refine below_set ?_ (IsS125.ge HI242.out) | refine below_set ?_ GE237.out | refine below_set ?_ GE238.out | refine below_set ?_ GE248.out | refine below_set ?_ GE254.out) | exact HB.out)))); have n3_ := hkBb BK237 hb; have n4_ := hkBb BK238 hb; have n5_ := hkBb BK248 hb; have n6_ := hkBb BK254 hb; have n7_ := Aside0.mk (IsS125.below (by repeat (first | (with_reducible first | exact HI242.out | apply IsS125.alloc | apply IsS125.drewN | apply IsS125.drew | apply IsS125.set_1 | apply IsS125.set_2 | refine IsS125.far ?_ NB242_237.out _ | refine IsS125.far ?_ NB242_238.out _ | refine IsS125.far ?_ NB242_248.out _ | refine IsS125.far ?_ NB242_254.out _) | exact HI242.out)) hb); have n8_ := Aside0.mk (below_step (by repeat (first | (with_reducible first | exact HB.out | apply below_alloc | apply pw_below_drewN | apply below_drew1 | refine below_set ?_ (IsS125.ge HI242.out) | refine below_set ?_ GE237.out | refine below_set ?_ GE238.out | refine below_set ?_ GE248.out | refine below_set ?_ GE254.out) | exact HB.out)) hb); clear HO_249000; clear HO_255000; clear BK237; clear BK238; clear BK248; clear BK254; clear HI242; clear HB; have HO_249000 := n0_; have HO_255000 := n1_; have HO262 := n2_; have BK237 := n3_; have BK238 := n4_; have BK248 := n5_; have BK254 := n6_; have HI242 := n7_; have HB := n8_; clear n0_ n1_ n2_ n3_ n4_ n5_ n6_ n7_ n8_; (try clear hb); (try clear hb2); (try clear hk); (try clear hi); (try clear ho0)) | ((with_reducible refine gate_dst (N := 7) rfl ?_); (try (refine gate_guard (by rfl) ?_; dsimp only)); refine box_event ?hg (N := 7) ?hd (cs := #[.slice none 0 0]) (t := 38) ?hr ?_; (case hd => rfl); (case hg => rfl); (case hr => first | (go_simp; done) | (go_simp; rfl)); intro gb263 hg w78 hbox hb; have n0_ := hkRb HO_249000 hb; have n1_ := hkRb HO_255000 hb; have n2_ := hkRb HO262 hb; have n3_ := hkBb BK237 hb; have n4_ := hkBb BK238 hb; have n5_ := hkBb BK248 hb; have n6_ := hkBb BK254 hb; have n7_ := Aside0.mk (IsS125.below (by repeat (first | (with_reducible first | exact HI242.out | apply IsS125.alloc | apply IsS125.drewN | apply IsS125.drew | apply IsS125.set_1 | apply IsS125.set_2 | refine IsS125.far ?_ NB242_237.out _ | refine IsS125.far ?_ NB242_238.out _ | refine IsS125.far ?_ NB242_248.out _ | refine IsS125.far ?_ NB242_254.out _) | exact HI242.out)) hb); have n8_ := Aside0.mk (below_step (by repeat (first | (with_reducible first | exact HB.out | apply below_alloc | apply pw_below_drewN | apply below_drew1 | refine below_set ?_ (IsS125.ge HI242.out) | refine below_set ?_ GE237.out | refine below_set ?_ GE238.out | refine below_set ?_ GE248.out | refine below_set ?_ GE254.out) | exact HB.out)) hb); have n9_ := Aside0.mk (hbox); have n10_ := Aside0.mk ((by rw [hg]; exact (below_size (by repeat (first | (with_reducible first | exact HB.out | apply below_alloc | apply pw_below_drewN | apply below_drew1 | refine below_set ?_ (IsS125.ge HI242.out) | refine below_set ?_ GE237.out | refine below_set ?_ GE238.out | refine below_set ?_ GE248.out | refine below_set ?_ GE254.out) | exact HB.out))) : w.heap.size ≤ gb263)); have n11_ := Aside0.mk ((by rw [hg]; exact (below_size (by repeat (first | (with_reducible first | exact HB.out | apply below_alloc | apply pw_below_drewN | apply below_drew1 | refine below_set ?_ (IsS125.ge HI242.out) | refine below_set ?_ GE237.out | refine below_set ?_ GE238.out | refine below_set ?_ GE248.out | refine below_set ?_ GE254.out) | exact HB.out))) : w.heap.size ≤ gb263)); have n12_ := hkN hg BK237; have n13_ := hkM hg BK237; have n14_ := hkN hg BK238; have n15_ := hkM hg BK238; have n16_ := hkN hg BK248; have n17_ := hkM hg BK248; have n18_ := hkN hg BK254; have n19_ := hkM hg BK254; have n20_ := Aside0.mk ((by rw [hg]; exact Nat.ne_of_lt (IsS125.lt (show IsS125 w _ g242 t239 t258 t259 from by repeat (first | (with_reducible first | exact HI242.out | apply IsS125.alloc | apply IsS125.drewN | apply IsS125.drew | apply IsS125.set_1 | apply IsS125.set_2 | refine IsS125.far ?_ NB242_237.out _ | refine IsS125.far ?_ NB242_238.out _ | refine IsS125.far ?_ NB242_248.out _ | refine IsS125.far ?_ NB242_254.out _) | exact HI242.out))) : g242 ≠ gb263)); have n21_ := Aside0.mk ((by rw [hg]; exact Nat.ne_of_gt (IsS125.lt (show IsS125 w _ g242 t239 t258 t259 from by repeat (first | (with_reducible first | exact HI242.out | apply IsS125.alloc | apply IsS125.drewN | apply IsS125.drew | apply IsS125.set_1 | apply IsS125.set_2 | refine IsS125.far ?_ NB242_237.out _ | refine IsS125.far ?_ NB242_238.out _ | refine IsS125.far ?_ NB242_248.out _ | refine IsS125.far ?_ NB242_254.out _) | exact HI242.out))) : gb263 ≠ g242)); clear HO_249000; clear HO_255000; clear HO262; clear BK237; clear BK238; clear BK248; clear BK254; clear HI242; clear HB; have HO_249000 := n0_; have HO_255000 := n1_; have HO262 := n2_; have BK237 := n3_; have BK238 := n4_; have BK248 := n5_; have BK254 := n6_; have HI242 := n7_; have HB := n8_; have BK263 := n9_; have GW263 := n10_; have GE263 := n11_; have NB237_263 := n12_; have NB263_237 := n13_; have NB238_263 := n14_; have NB263_238 := n15_; have NB248_263 := n16_; have NB263_248 := n17_; have NB254_263 := n18_; have NB263_254 := n19_; have NB242_263 := n20_; have NB263_242 := n21_; clear n0_ n1_ n2_ n3_ n4_ n5_ n6_ n7_ n8_ n9_ n10_ n11_ n12_ n13_ n14_ n15_ n16_ n17_ n18_ n19_ n20_ n21_; clear hb hbox hg; obtain ⟨Ao79, co79, eo79⟩ := Kd.R_slice HO262.out; subst eo79; have hnb80 := NB263_237.out; have hnc80 := NB237_263.out; have hnb81 := NB263_238.out; have hnc81 := NB238_263.out; have hnb82 := NB263_248.out; have hnc82 := NB248_263.out; have hnb83 := NB263_254.out; have hnc83 := NB254_263.out; have hnb84 := NB263_242.out; have hnc84 := NB242_263.out; have hcz85_0 : w78.cell? ⟨gb263, 0, none⟩ = some (.slice none 0 0) := (blk_cell BK263.out 0).trans rfl; have hfz85_0 := blk_frozen BK263.out 0))
        have n0_ : Aside0 (Kd.R (Kd.int .i64) 3 (w78.setCell ⟨gb263, 0, none⟩ (.slice Ao79 t260.length co79)) w.heap.size (fun k_ => some k_ ≠ (.slice Ao18 t249.length co18 : Value).ownBlock ∧ some k_ ≠ (.slice Ao79 t260.length co79 : Value).ownBlock) (.slice Ao11 t243.length co11) t243) := ⟨by (with_reducible repeat (first | apply Kd.R_alloc | apply Kd.R_drewN | apply Kd.R_drew)); exact Kd.R_mono (Kd.R_far (p := ⟨gb263, 0, none⟩) (Kd.R_types HO_249000.out BK263.out (by decide)) (fun _ hk => hk.2) (.slice Ao79 t260.length co79)) (fun _ hk => ⟨hk.1.1, hk.1.2⟩)⟩
        have n1_ : Aside0 (Kd.R (Kd.int .i64) 3 (w78.setCell ⟨gb263, 0, none⟩ (.slice Ao79 t260.length co79)) w.heap.size (fun k_ => some k_ ≠ (.slice Ao11 t243.length co11 : Value).ownBlock ∧ some k_ ≠ (.slice Ao79 t260.length co79 : Value).ownBlock) (.slice Ao18 t249.length co18) t249) := ⟨by (with_reducible repeat (first | apply Kd.R_alloc | apply Kd.R_drewN | apply Kd.R_drew)); exact Kd.R_mono (Kd.R_far (p := ⟨gb263, 0, none⟩) (Kd.R_types HO_255000.out BK263.out (by decide)) (fun _ hk => hk.2) (.slice Ao79 t260.length co79)) (fun _ hk => ⟨hk.1.1, hk.1.2⟩)⟩
        have n2_ : Aside0 (Kd.R (Kd.int .i64) 3 (w78.setCell ⟨gb263, 0, none⟩ (.slice Ao79 t260.length co79)) w.heap.size (fun k_ => some k_ ≠ (.slice Ao11 t243.length co11 : Value).ownBlock ∧ some k_ ≠ (.slice Ao18 t249.length co18 : Value).ownBlock) (.slice Ao79 t260.length co79) t260) := ⟨by (with_reducible repeat (first | apply Kd.R_alloc | apply Kd.R_drewN | apply Kd.R_drew)); exact Kd.R_mono (Kd.R_far (p := ⟨gb263, 0, none⟩) (Kd.R_types HO262.out BK263.out (by decide)) (fun _ hk => hk.2) (.slice Ao79 t260.length co79)) (fun _ hk => ⟨hk.1.1.2, hk.1.2⟩)⟩
        have n3_ : Aside0 ((w78.setCell ⟨gb263, 0, none⟩ (.slice Ao79 t260.length co79)).heap[gb237]? = some (.cells #[.slice none 0 0] 38 (0, 0))) := ⟨by (with_reducible repeat (first | refine blk_drewN ?_ _ | refine blk_drew ?_ | refine blk_alloc ?_ _)); refine blk_far ?_ NB237_263.out _; (with_reducible repeat (first | refine blk_drewN ?_ _ | refine blk_drew ?_ | refine blk_alloc ?_ _)); exact BK237.out⟩
        have n4_ : Aside0 ((w78.setCell ⟨gb263, 0, none⟩ (.slice Ao79 t260.length co79)).heap[gb238]? = some (.cells #[.slice none 0 0] 38 (0, 0))) := ⟨by (with_reducible repeat (first | refine blk_drewN ?_ _ | refine blk_drew ?_ | refine blk_alloc ?_ _)); refine blk_far ?_ NB238_263.out _; (with_reducible repeat (first | refine blk_drewN ?_ _ | refine blk_drew ?_ | refine blk_alloc ?_ _)); exact BK238.out⟩
        have n5_ : Aside0 ((w78.setCell ⟨gb263, 0, none⟩ (.slice Ao79 t260.length co79)).heap[gb248]? = some (.cells #[.slice Ao11 t243.length co11] 38 (0, 0))) := ⟨by (with_reducible repeat (first | refine blk_drewN ?_ _ | refine blk_drew ?_ | refine blk_alloc ?_ _)); refine blk_far ?_ NB248_263.out _; (with_reducible repeat (first | refine blk_drewN ?_ _ | refine blk_drew ?_ | refine blk_alloc ?_ _)); exact BK248.out⟩
        have n6_ : Aside0 ((w78.setCell ⟨gb263, 0, none⟩ (.slice Ao79 t260.length co79)).heap[gb254]? = some (.cells #[.slice Ao18 t249.length co18] 38 (0, 0))) := ⟨by (with_reducible repeat (first | refine blk_drewN ?_ _ | refine blk_drew ?_ | refine blk_alloc ?_ _)); refine blk_far ?_ NB254_263.out _; (with_reducible repeat (first | refine blk_drewN ?_ _ | refine blk_drew ?_ | refine blk_alloc ?_ _)); exact BK254.out⟩
        have n7_ : Aside0 ((w78.setCell ⟨gb263, 0, none⟩ (.slice Ao79 t260.length co79)).heap[gb263]? = some (.cells #[.slice Ao79 t260.length co79] 38 (0, 0))) := ⟨by (with_reducible repeat (first | refine blk_drewN ?_ _ | refine blk_drew ?_ | refine blk_alloc ?_ _)); refine blk_put (cs := #[.slice none 0 0]) ?_ 0 _ rfl; (with_reducible repeat (first | refine blk_drewN ?_ _ | refine blk_drew ?_ | refine blk_alloc ?_ _)); exact BK263.out⟩
        have n8_ : Aside0 (IsS125 w (w78.setCell ⟨gb263, 0, none⟩ (.slice Ao79 t260.length co79)) g242 t239 t258 t259) := ⟨by repeat (first | (with_reducible first | exact HI242.out | apply IsS125.alloc | apply IsS125.drewN | apply IsS125.drew | apply IsS125.set_1 | apply IsS125.set_2 | refine IsS125.far ?_ NB242_237.out _ | refine IsS125.far ?_ NB242_238.out _ | refine IsS125.far ?_ NB242_248.out _ | refine IsS125.far ?_ NB242_254.out _ | refine IsS125.far ?_ NB242_263.out _) | exact HI242.out)⟩
        have n9_ : Aside0 (Below w.heap.size w (w78.setCell ⟨gb263, 0, none⟩ (.slice Ao79 t260.length co79))) := ⟨by repeat (first | (with_reducible first | exact HB.out | apply below_alloc | apply pw_below_drewN | apply below_drew1 | refine below_set ?_ (IsS125.ge HI242.out) | refine below_set ?_ GE237.out | refine below_set ?_ GE238.out | refine below_set ?_ GE248.out | refine below_set ?_ GE254.out | refine below_set ?_ GE263.out) | exact HB.out)⟩
        (try clear HO_249000)
        (try clear HO_255000)
        (try clear HO262)
        (try clear BK237)
        (try clear BK238)
        (try clear BK248)
        (try clear BK254)
        (try clear BK263)
        (try clear HI242)
        (try clear HB)
        generalize (w78.setCell ⟨gb263, 0, none⟩ (.slice Ao79 t260.length co79)) = w86 at n0_ n1_ n2_ n3_ n4_ n5_ n6_ n7_ n8_ n9_ ⊢
        have HO_249000 := n0_
        have HO_255000 := n1_
        have HO262 := n2_
        have BK237 := n3_
        have BK238 := n4_
        have BK248 := n5_
        have BK254 := n6_
        have BK263 := n7_
        have HI242 := n8_
        have HB := n9_
        clear n0_ n1_ n2_ n3_ n4_ n5_ n6_ n7_ n8_ n9_
        have n0_ := Aside0.mk (Kd.R_drew HO_249000.out)
        have n1_ := Aside0.mk (Kd.R_drew HO_255000.out)
        have n2_ := Aside0.mk (Kd.R_drew HO262.out)
        have n3_ := Aside0.mk (blk_drew BK237.out)
        have n4_ := Aside0.mk (blk_drew BK238.out)
        have n5_ := Aside0.mk (blk_drew BK248.out)
        have n6_ := Aside0.mk (blk_drew BK254.out)
        have n7_ := Aside0.mk (blk_drew BK263.out)
        have n8_ := Aside0.mk (IsS125.drew HI242.out)
        have n9_ := Aside0.mk (below_drew1 HB.out)
        clear HO_249000
        clear HO_255000
        clear HO262
        clear BK237
        clear BK238
        clear BK248
        clear BK254
        clear BK263
        clear HI242
        clear HB
        have HO_249000 := n0_
        have HO_255000 := n1_
        have HO262 := n2_
        have BK237 := n3_
        have BK238 := n4_
        have BK248 := n5_
        have BK254 := n6_
        have BK263 := n7_
        have HI242 := n8_
        have HB := n9_
        clear n0_ n1_ n2_ n3_ n4_ n5_ n6_ n7_ n8_ n9_
        refine start_ (n := 8) (S := fun w' => w'.cell? ⟨gb248, 0, none⟩ = some (.slice Ao11 t243.length co11) ∧ w'.cell? ⟨gb263, 0, none⟩ = some (.slice Ao79 t260.length co79) ∧ w'.cell? ⟨gb254, 0, none⟩ = some (.slice Ao18 t249.length co18)) (ds := []) #[false, false, false, false, false, false, false, false] (by kernel_rfl) rfl rfl ⟨(blk_cell BK248.out 0).trans rfl, (blk_cell BK263.out 0).trans rfl, (blk_cell BK254.out 0).trans rfl⟩ (fun hHeld => ?_); refine with_tabW spec_DrawNatGcd.tab6 spec_DrawNatGcd.bits6 (fun HT_ HW_ => ?_)
        generalize w86.drew = w87 at HO_249000 HO_255000 HO262 BK237 BK238 BK248 BK254 BK263 HI242 HB hHeld ⊢
        refine take_ (i := 0) (N := some 36) (v := ?_) (a' := ?_) #[true, false, false, false, false, false, false, false] rfl rfl (take_ofW HT_.out HW_.out (by kernel_rfl)) (fun _ _ _ h => h) (Or.inl ⟨by rfl, ?_⟩) hHeld ?_ ?_
        rotate_left
        · rintro w' ⟨s0, s1, s2⟩
          go_simp
          with_reducible rfl
        rotate_left
        · simp only [Act.put, List.setIfInBounds_toArray, List.set_cons_zero, List.set_cons_succ, i64_w, i32_w]
          rfl
        refine take_ (i := 1) (N := some 37) (v := ?_) (a' := ?_) #[true, true, false, false, false, false, false, false] rfl rfl (take_ofW HT_.out HW_.out (by kernel_rfl)) (fun _ _ _ h => h) (Or.inl ⟨by rfl, ?_⟩) hHeld ?_ ?_
        rotate_left
        · rintro w' ⟨s0, s1, s2⟩
          go_simp
          with_reducible rfl
        rotate_left
        · simp only [Act.put, List.setIfInBounds_toArray, List.set_cons_zero, List.set_cons_succ, i64_w, i32_w]
          rfl
        refine take_ (i := 3) (N := some 39) (v := ?_) (a' := ?_) #[true, true, false, true, false, false, false, false] rfl rfl (take_ofW HT_.out HW_.out (by kernel_rfl)) (fun _ _ _ h => h) (Or.inl ⟨by rfl, ?_⟩) hHeld ?_ ?_
        rotate_left
        · rintro w' ⟨s0, s1, s2⟩
          go_simp
          with_reducible rfl
        rotate_left
        · simp only [Act.put, List.setIfInBounds_toArray, List.set_cons_zero, List.set_cons_succ, i64_w, i32_w]
          rfl
        refine take_ (i := 4) (N := some 40) (v := ?_) (a' := ?_) #[true, true, false, true, true, false, false, false] rfl rfl (take_ofW HT_.out HW_.out (by kernel_rfl)) (fun _ _ _ h => h) (Or.inl ⟨by rfl, ?_⟩) hHeld ?_ ?_
        rotate_left
        · rintro w' ⟨s0, s1, s2⟩
          go_simp
          with_reducible rfl
        rotate_left
        · simp only [Act.put, List.setIfInBounds_toArray, List.set_cons_zero, List.set_cons_succ, i64_w, i32_w]
          rfl
        refine one_ (i := 2) (N := some 38) #[true, true, true, true, true, false, false, false] rfl rfl (one_of HT_.out (by kernel_rfl)) (by decide) (fun K hK => ?_)
        refine goes_ Try.func58 (by kernel_rfl) rfl #[.agg #[.slice Ao11 t243.length co11], .agg #[.slice Ao79 t260.length co79]] (by rfl) rfl rfl hkL ?_
        with_reducible refine (spec_l2mul.calls kj4 _ _ t243 _ _ t260 t264 _ ?side1 ?side2 ?side3 ?side4 A74.out).mono ?_
        (case side1 => repeat (first | exact (Kd.R_reads' HO_249000.out).2.2 | (with_reducible refine Kd.C_alloc ?_ _) | (with_reducible refine Kd.C_drewN ?_ _) | (with_reducible refine Kd.C_drew ?_)))
        (case side2 => exact (Kd.R_reads' HO_249000.out).2.1)
        (case side3 => repeat (first | exact (Kd.R_reads' HO262.out).2.2 | (with_reducible refine Kd.C_alloc ?_ _) | (with_reducible refine Kd.C_drewN ?_ _) | (with_reducible refine Kd.C_drew ?_)))
        (case side4 => exact (Kd.R_reads' HO262.out).2.1)
        rintro e w88 ⟨v265, rfl, ho0, hb⟩
        refine ⟨_, rfl, ?_⟩
        have n0_ := Aside0.mk (Kd.R_elder' (hkR HO_249000) (Kd.R_base ho0) hb)
        have n1_ := Aside0.mk (Kd.R_elder' (hkR HO_255000) (Kd.R_base ho0) hb)
        have n2_ := Aside0.mk (Kd.R_elder' (hkR HO262) (Kd.R_base ho0) hb)
        have n3_ := Aside0.mk (Kd.R_lower (Kd.R_new' (Kd.R_new' (Kd.R_new' ho0 (Kd.R_lt (hkR HO_249000))) (Kd.R_lt (hkR HO_255000))) (Kd.R_lt (hkR HO262))) (below_size (by repeat (first | (with_reducible first | exact HB.out | apply below_alloc | apply pw_below_drewN | apply below_drew1 | refine below_set ?_ (IsS125.ge HI242.out) | refine below_set ?_ GE237.out | refine below_set ?_ GE238.out | refine below_set ?_ GE248.out | refine below_set ?_ GE254.out | refine below_set ?_ GE263.out) | exact HB.out))))
        have n4_ := hkBb BK237 hb
        have n5_ := hkBb BK238 hb
        have n6_ := hkBb BK248 hb
        have n7_ := hkBb BK254 hb
        have n8_ := Aside0.mk (IsS125.below (by repeat (first | (with_reducible first | exact HI242.out | apply IsS125.alloc | apply IsS125.drewN | apply IsS125.drew | apply IsS125.set_1 | apply IsS125.set_2 | refine IsS125.far ?_ NB242_237.out _ | refine IsS125.far ?_ NB242_238.out _ | refine IsS125.far ?_ NB242_248.out _ | refine IsS125.far ?_ NB242_254.out _ | refine IsS125.far ?_ NB242_263.out _) | exact HI242.out)) hb)
        have n9_ := hkBb BK263 hb
        have n10_ := Aside0.mk (below_step (by repeat (first | (with_reducible first | exact HB.out | apply below_alloc | apply pw_below_drewN | apply below_drew1 | refine below_set ?_ (IsS125.ge HI242.out) | refine below_set ?_ GE237.out | refine below_set ?_ GE238.out | refine below_set ?_ GE248.out | refine below_set ?_ GE254.out | refine below_set ?_ GE263.out) | exact HB.out)) hb)
        clear HO_249000
        clear HO_255000
        clear HO262
        clear BK237
        clear BK238
        clear BK248
        clear BK254
        clear HI242
        clear BK263
        clear HB
        have HO_249000 := n0_
        have HO_255000 := n1_
        have HO262 := n2_
        have HO266 := n3_
        have BK237 := n4_
        have BK238 := n5_
        have BK248 := n6_
        have BK254 := n7_
        have HI242 := n8_
        have BK263 := n9_
        have HB := n10_
        clear n0_ n1_ n2_ n3_ n4_ n5_ n6_ n7_ n8_ n9_ n10_
        (try clear hb)
        (try clear hb2)
        (try clear hk)
        (try clear hi)
        (try clear ho0)
        refine hK.out _ _ ⟨(blk_cell BK248.out 0).trans rfl, (blk_cell BK263.out 0).trans rfl, (blk_cell BK254.out 0).trans rfl⟩ (fun hHeld => ?_)
        clear hK K
        refine norm_ (a' := ?_) ?_ ?_
        rotate_left
        · show Act.put _ (some 38) _ = _
          simp only [Act.put, List.setIfInBounds_toArray, List.set_cons_zero, List.set_cons_succ, i64_w, i32_w]
          rfl
        refine one_ (i := 5) (N := some 41) #[true, true, true, true, true, true, false, false] rfl rfl (one_of HT_.out (by kernel_rfl)) (by decide) (fun K hK => ?_)
        refine goes_ Try.func58 (by kernel_rfl) rfl #[.agg #[.slice Ao18 t249.length co18], .agg #[.slice Ao79 t260.length co79]] (by rfl) rfl rfl hkL ?_
        with_reducible refine (spec_l2mul.calls kj4 _ _ t249 _ _ t260 t267 _ ?side1 ?side2 ?side3 ?side4 A75.out).mono ?_
        (case side1 => repeat (first | exact (Kd.R_reads' HO_255000.out).2.2 | (with_reducible refine Kd.C_alloc ?_ _) | (with_reducible refine Kd.C_drewN ?_ _) | (with_reducible refine Kd.C_drew ?_)))
        (case side2 => exact (Kd.R_reads' HO_255000.out).2.1)
        (case side3 => repeat (first | exact (Kd.R_reads' HO262.out).2.2 | (with_reducible refine Kd.C_alloc ?_ _) | (with_reducible refine Kd.C_drewN ?_ _) | (with_reducible refine Kd.C_drew ?_)))
        (case side4 => exact (Kd.R_reads' HO262.out).2.1)
        rintro e w89 ⟨v268, rfl, ho0, hb⟩
        refine ⟨_, rfl, ?_⟩
        have n0_ := Aside0.mk (Kd.R_elder' (hkR HO_249000) (Kd.R_base ho0) hb)
        have n1_ := Aside0.mk (Kd.R_elder' (hkR HO_255000) (Kd.R_base ho0) hb)
        have n2_ := Aside0.mk (Kd.R_elder' (hkR HO262) (Kd.R_base ho0) hb)
        have n3_ := Aside0.mk (Kd.R_elder' (hkR HO266) (Kd.R_base ho0) hb)
        have n4_ := Aside0.mk (Kd.R_lower (Kd.R_new' (Kd.R_new' (Kd.R_new' (Kd.R_new' ho0 (Kd.R_lt (hkR HO_249000))) (Kd.R_lt (hkR HO_255000))) (Kd.R_lt (hkR HO262))) (Kd.R_lt (hkR HO266))) (below_size (by repeat (first | (with_reducible first | exact HB.out | apply below_alloc | apply pw_below_drewN | apply below_drew1 | refine below_set ?_ (IsS125.ge HI242.out) | refine below_set ?_ GE237.out | refine below_set ?_ GE238.out | refine below_set ?_ GE248.out | refine below_set ?_ GE254.out | refine below_set ?_ GE263.out) | exact HB.out))))
        have n5_ := hkBb BK237 hb
        have n6_ := hkBb BK238 hb
        have n7_ := hkBb BK248 hb
        have n8_ := hkBb BK254 hb
        have n9_ := Aside0.mk (IsS125.below (by repeat (first | (with_reducible first | exact HI242.out | apply IsS125.alloc | apply IsS125.drewN | apply IsS125.drew | apply IsS125.set_1 | apply IsS125.set_2 | refine IsS125.far ?_ NB242_237.out _ | refine IsS125.far ?_ NB242_238.out _ | refine IsS125.far ?_ NB242_248.out _ | refine IsS125.far ?_ NB242_254.out _ | refine IsS125.far ?_ NB242_263.out _) | exact HI242.out)) hb)
        have n10_ := hkBb BK263 hb
        have n11_ := Aside0.mk (below_step (by repeat (first | (with_reducible first | exact HB.out | apply below_alloc | apply pw_below_drewN | apply below_drew1 | refine below_set ?_ (IsS125.ge HI242.out) | refine below_set ?_ GE237.out | refine below_set ?_ GE238.out | refine below_set ?_ GE248.out | refine below_set ?_ GE254.out | refine below_set ?_ GE263.out) | exact HB.out)) hb)
        clear HO_249000
        clear HO_255000
        clear HO262
        clear HO266
        clear BK237
        clear BK238
        clear BK248
        clear BK254
        clear HI242
        clear BK263
        clear HB
        have HO_249000 := n0_
        have HO_255000 := n1_
        have HO262 := n2_
        have HO266 := n3_
        have HO269 := n4_
        have BK237 := n5_
        have BK238 := n6_
        have BK248 := n7_
        have BK254 := n8_
        have HI242 := n9_
        have BK263 := n10_
        have HB := n11_
        clear n0_ n1_ n2_ n3_ n4_ n5_ n6_ n7_ n8_ n9_ n10_ n11_
        (try clear hb)
        (try clear hb2)
        (try clear hk)
        (try clear hi)
        (try clear ho0)
        obtain ⟨Ao90, co90, eo90⟩ := Kd.R_slice HO266.out
        (first | subst eo90 | (injection eo90 with f1_ f2_ f3_; have f4_ := f1_.symm; have f5_ := f3_.symm; clear f1_ f2_ f3_; subst f4_; subst f5_))
        obtain ⟨Ao92, co92, eo92⟩ := Kd.R_slice HO269.out
        (first | subst eo92 | (injection eo92 with f1_ f2_ f3_; have f4_ := f1_.symm; have f5_ := f3_.symm; clear f1_ f2_ f3_; subst f4_; subst f5_))
        refine hK.out _ _ ⟨(blk_cell BK248.out 0).trans rfl, (blk_cell BK263.out 0).trans rfl, (blk_cell BK254.out 0).trans rfl⟩ (fun hHeld => ?_)
        clear hK K
        refine norm_ (a' := ?_) ?_ ?_
        rotate_left
        · show Act.put _ (some 41) _ = _
          simp only [Act.put, List.setIfInBounds_toArray, List.set_cons_zero, List.set_cons_succ, i64_w, i32_w]
          rfl
        refine one_ (i := 6) (N := none) #[true, true, true, true, true, true, true, false] rfl rfl (one_of HT_.out (by kernel_rfl)) (by decide) (fun K hK => ?_)
        have hs91 : w89.cell? ⟨gb237, 0, none⟩ = some (.slice none 0 0) := (blk_cell BK237.out 0).trans rfl
        have hfs91 := blk_frozen BK237.out 0
        have hns91_1 := NB238_237.out
        have hns91_2 := NB248_237.out
        have hns91_3 := NB254_237.out
        have hns91_4 := NB263_237.out
        have hms91_1 := NB237_238.out
        have hms91_2 := NB237_248.out
        have hms91_3 := NB237_254.out
        have hms91_4 := NB237_263.out
        refine skip_ (w1 := ?_) (by rfl) rfl ?_ ?_
        rotate_left
        · go_simp
          rfl
        refine hK.out _ _ ⟨((cell_far (p := ⟨gb237, _, none⟩) NB248_237.out _).trans (hHeld.1)), ((cell_far (p := ⟨gb237, _, none⟩) NB263_237.out _).trans (hHeld.2.1)), ((cell_far (p := ⟨gb237, _, none⟩) NB254_237.out _).trans (hHeld.2.2))⟩ (fun hHeld => ?_)
        clear hK K
        refine one_ (i := 7) (N := none) #[true, true, true, true, true, true, true, true] rfl rfl (one_of HT_.out (by kernel_rfl)) (by decide) (fun K hK => ?_)
        have hs93 : w89.cell? ⟨gb238, 0, none⟩ = some (.slice none 0 0) := (blk_cell BK238.out 0).trans rfl
        have hfs93 := blk_frozen BK238.out 0
        have hns93_0 := NB237_238.out
        have hns93_2 := NB248_238.out
        have hns93_3 := NB254_238.out
        have hns93_4 := NB263_238.out
        have hms93_0 := NB238_237.out
        have hms93_2 := NB238_248.out
        have hms93_3 := NB238_254.out
        have hms93_4 := NB238_263.out
        refine skip_ (w1 := ?_) (by rfl) rfl ?_ ?_
        rotate_left
        · go_simp
          rfl
        refine hK.out _ _ ⟨((cell_far (p := ⟨gb238, _, none⟩) NB248_238.out _).trans (hHeld.1)), ((cell_far (p := ⟨gb238, _, none⟩) NB263_238.out _).trans (hHeld.2.1)), ((cell_far (p := ⟨gb238, _, none⟩) NB254_238.out _).trans (hHeld.2.2))⟩ (fun hHeld => ?_)
        clear hK K
        refine done_ (done_of HT_.out (by kernel_rfl)) ?_
        try go_wp2
        refine bodyPost_ret (results_cc rfl _ _ gb237 gb238 38 38 #[.slice Ao90 t264.length co90] #[.slice Ao92 t267.length co92] (0, 0) (0, 0) _ _ rfl (by (with_reducible repeat (first | refine blk_drewN ?_ _ | refine blk_drew ?_ | refine blk_alloc ?_ _)); refine blk_far ?_ NB237_238.out _; (with_reducible repeat (first | refine blk_drewN ?_ _ | refine blk_drew ?_ | refine blk_alloc ?_ _)); refine blk_put (cs := #[.slice none 0 0]) ?_ 0 _ rfl; (with_reducible repeat (first | refine blk_drewN ?_ _ | refine blk_drew ?_ | refine blk_alloc ?_ _)); exact BK237.out) Try.underlying38 rfl (by kernel_rfl) rfl (by (with_reducible repeat (first | refine blk_drewN ?_ _ | refine blk_drew ?_ | refine blk_alloc ?_ _)); refine blk_put (cs := #[.slice none 0 0]) ?_ 0 _ rfl; (with_reducible repeat (first | refine blk_drewN ?_ _ | refine blk_drew ?_ | refine blk_alloc ?_ _)); refine blk_far ?_ NB238_237.out _; (with_reducible repeat (first | refine blk_drewN ?_ _ | refine blk_drew ?_ | refine blk_alloc ?_ _)); exact BK238.out) Try.underlying38 rfl (by kernel_rfl)) rfl ?_
        exact ⟨_, _, by first | rfl | (simp [errW_none, errW_some] <;> rfl) | (simp [*, errW_none, errW_some] <;> rfl), by (with_reducible repeat (first | apply Kd.R_alloc | apply Kd.R_drewN | apply Kd.R_drew)); exact Kd.R_mono (Kd.R_far (p := ⟨gb238, 0, none⟩) (Kd.R_far (p := ⟨gb237, 0, none⟩) (Kd.R_types (Kd.R_types HO266.out BK237.out (by decide)) BK238.out (by decide)) (fun _ hk => hk.1.2) (.slice Ao90 t264.length co90)) (fun _ hk => hk.2) (.slice Ao92 t267.length co92)) (fun _ hk => hk.1.1.2), by (with_reducible repeat (first | apply Kd.R_alloc | apply Kd.R_drewN | apply Kd.R_drew)); exact Kd.R_mono (Kd.R_far (p := ⟨gb238, 0, none⟩) (Kd.R_far (p := ⟨gb237, 0, none⟩) (Kd.R_types (Kd.R_types HO269.out BK237.out (by decide)) BK238.out (by decide)) (fun _ hk => hk.1.2) (.slice Ao90 t264.length co90)) (fun _ hk => hk.2) (.slice Ao92 t267.length co92)) (fun _ hk => hk.1.1.2), by repeat (first | (with_reducible first | exact HB.out | apply below_alloc | apply pw_below_drewN | apply below_drew1 | refine below_set ?_ (IsS125.ge HI242.out) | refine below_set ?_ GE237.out | refine below_set ?_ GE238.out | refine below_set ?_ GE248.out | refine below_set ?_ GE254.out | refine below_set ?_ GE263.out) | exact HB.out)⟩
      · replace c71 := Bool.eq_false_iff.mpr c71
        subst c71
        have H1 : (some (t243, t249)) = some (r1, r2) := by rw [if_neg (show ¬ (false = true) by decide)] at H; exact H
        clear H
        have H := H1
        clear H1
        simp only [Option.some.injEq, Prod.mk.injEq] at H
        obtain ⟨rfl, rfl⟩ := H
        try go_wp2
        have n0_ := Aside0.mk (Kd.R_drew HO_249000.out)
        have n1_ := Aside0.mk (Kd.R_drew HO_255000.out)
        have n2_ := Aside0.mk (blk_drew BK237.out)
        have n3_ := Aside0.mk (blk_drew BK238.out)
        have n4_ := Aside0.mk (blk_drew BK248.out)
        have n5_ := Aside0.mk (blk_drew BK254.out)
        have n6_ := Aside0.mk (IsS125.drew HI242.out)
        have n7_ := Aside0.mk (below_drew1 HB.out)
        clear HO_249000
        clear HO_255000
        clear BK237
        clear BK238
        clear BK248
        clear BK254
        clear HI242
        clear HB
        have HO_249000 := n0_
        have HO_255000 := n1_
        have BK237 := n2_
        have BK238 := n3_
        have BK248 := n4_
        have BK254 := n5_
        have HI242 := n6_
        have HB := n7_
        clear n0_ n1_ n2_ n3_ n4_ n5_ n6_ n7_
        refine start_ (n := 4) (S := fun w' => w'.cell? ⟨gb248, 0, none⟩ = some (.slice Ao11 t243.length co11) ∧ w'.cell? ⟨gb254, 0, none⟩ = some (.slice Ao18 t249.length co18)) (ds := []) #[false, false, false, false] (by kernel_rfl) rfl rfl ⟨(blk_cell BK248.out 0).trans rfl, (blk_cell BK254.out 0).trans rfl⟩ (fun hHeld => ?_)
        generalize wc.drew = w94 at HO_249000 HO_255000 BK237 BK238 BK248 BK254 HI242 HB hHeld ⊢
        refine take_ (i := 0) (N := some 42) (v := ?_) (a' := ?_) #[true, false, false, false] rfl rfl (by kernel_rfl) (fun _ _ _ h => h) (Or.inl ⟨by rfl, ?_⟩) hHeld ?_ ?_
        rotate_left
        · rintro w' ⟨s0, s1⟩
          go_simp
          with_reducible rfl
        rotate_left
        · simp only [Act.put, List.setIfInBounds_toArray, List.set_cons_zero, List.set_cons_succ, i64_w, i32_w]
          rfl
        refine take_ (i := 1) (N := some 43) (v := ?_) (a' := ?_) #[true, true, false, false] rfl rfl (by kernel_rfl) (fun _ _ _ h => h) (Or.inl ⟨by rfl, ?_⟩) hHeld ?_ ?_
        rotate_left
        · rintro w' ⟨s0, s1⟩
          go_simp
          with_reducible rfl
        rotate_left
        · simp only [Act.put, List.setIfInBounds_toArray, List.set_cons_zero, List.set_cons_succ, i64_w, i32_w]
          rfl
        refine one_ (i := 2) (N := none) #[true, true, true, false] rfl rfl (by kernel_rfl) (by decide) (fun K hK => ?_)
        have hs95 : w94.cell? ⟨gb237, 0, none⟩ = some (.slice none 0 0) := (blk_cell BK237.out 0).trans rfl
        have hfs95 := blk_frozen BK237.out 0
        have hns95_1 := NB238_237.out
        have hns95_2 := NB248_237.out
        have hns95_3 := NB254_237.out
        have hms95_1 := NB237_238.out
        have hms95_2 := NB237_248.out
        have hms95_3 := NB237_254.out
        refine skip_ (w1 := ?_) (by rfl) rfl ?_ ?_
        rotate_left
        · go_simp
          rfl
        refine hK.out _ _ ⟨((cell_far (p := ⟨gb237, _, none⟩) NB248_237.out _).trans (hHeld.1)), ((cell_far (p := ⟨gb237, _, none⟩) NB254_237.out _).trans (hHeld.2))⟩ (fun hHeld => ?_)
        clear hK K
        refine one_ (i := 3) (N := none) #[true, true, true, true] rfl rfl (by kernel_rfl) (by decide) (fun K hK => ?_)
        have hs96 : w94.cell? ⟨gb238, 0, none⟩ = some (.slice none 0 0) := (blk_cell BK238.out 0).trans rfl
        have hfs96 := blk_frozen BK238.out 0
        have hns96_0 := NB237_238.out
        have hns96_2 := NB248_238.out
        have hns96_3 := NB254_238.out
        have hms96_0 := NB238_237.out
        have hms96_2 := NB238_248.out
        have hms96_3 := NB238_254.out
        refine skip_ (w1 := ?_) (by rfl) rfl ?_ ?_
        rotate_left
        · go_simp
          rfl
        refine hK.out _ _ ⟨((cell_far (p := ⟨gb238, _, none⟩) NB248_238.out _).trans (hHeld.1)), ((cell_far (p := ⟨gb238, _, none⟩) NB254_238.out _).trans (hHeld.2))⟩ (fun hHeld => ?_)
        clear hK K
        refine done_ (by kernel_rfl) ?_
        try go_wp2
        refine bodyPost_ret (results_cc rfl _ _ gb237 gb238 38 38 #[.slice Ao11 t243.length co11] #[.slice Ao18 t249.length co18] (0, 0) (0, 0) _ _ rfl (by (with_reducible repeat (first | refine blk_drewN ?_ _ | refine blk_drew ?_ | refine blk_alloc ?_ _)); refine blk_far ?_ NB237_238.out _; (with_reducible repeat (first | refine blk_drewN ?_ _ | refine blk_drew ?_ | refine blk_alloc ?_ _)); refine blk_put (cs := #[.slice none 0 0]) ?_ 0 _ rfl; (with_reducible repeat (first | refine blk_drewN ?_ _ | refine blk_drew ?_ | refine blk_alloc ?_ _)); exact BK237.out) Try.underlying38 rfl (by kernel_rfl) rfl (by (with_reducible repeat (first | refine blk_drewN ?_ _ | refine blk_drew ?_ | refine blk_alloc ?_ _)); refine blk_put (cs := #[.slice none 0 0]) ?_ 0 _ rfl; (with_reducible repeat (first | refine blk_drewN ?_ _ | refine blk_drew ?_ | refine blk_alloc ?_ _)); refine blk_far ?_ NB238_237.out _; (with_reducible repeat (first | refine blk_drewN ?_ _ | refine blk_drew ?_ | refine blk_alloc ?_ _)); exact BK238.out) Try.underlying38 rfl (by kernel_rfl)) rfl ?_
        exact ⟨_, _, by first | rfl | (simp [errW_none, errW_some] <;> rfl) | (simp [*, errW_none, errW_some] <;> rfl), by (with_reducible repeat (first | apply Kd.R_alloc | apply Kd.R_drewN | apply Kd.R_drew)); exact Kd.R_mono (Kd.R_far (p := ⟨gb238, 0, none⟩) (Kd.R_far (p := ⟨gb237, 0, none⟩) (Kd.R_types (Kd.R_types HO_249000.out BK237.out (by decide)) BK238.out (by decide)) (fun _ hk => hk.1.2) (.slice Ao11 t243.length co11)) (fun _ hk => hk.2) (.slice Ao18 t249.length co18)) (fun _ hk => hk.1.1), by (with_reducible repeat (first | apply Kd.R_alloc | apply Kd.R_drewN | apply Kd.R_drew)); exact Kd.R_mono (Kd.R_far (p := ⟨gb238, 0, none⟩) (Kd.R_far (p := ⟨gb237, 0, none⟩) (Kd.R_types (Kd.R_types HO_255000.out BK237.out (by decide)) BK238.out (by decide)) (fun _ hk => hk.1.2) (.slice Ao11 t243.length co11)) (fun _ hk => hk.2) (.slice Ao18 t249.length co18)) (fun _ hk => hk.1.1), by repeat (first | (with_reducible first | exact HB.out | apply below_alloc | apply pw_below_drewN | apply below_drew1 | refine below_set ?_ (IsS125.ge HI242.out) | refine below_set ?_ GE237.out | refine below_set ?_ GE238.out | refine below_set ?_ GE248.out | refine below_set ?_ GE254.out) | exact HB.out)⟩

-- NOT PRINTED: function 151 (slices_IndexFunc_int_int)

-- NOT PRINTED: function 146 (slices_ContainsFunc_int_int)

/-! ### impl_areAll_int: function 134 -/
/-- What 'areAll' asks of a limb, at NatOk's function value. -/
def impl_areAll_int.p (x : Int) : Bool := decide (0 ≤ x) && decide (x ≤ 65535)
def impl_areAll_int.f (l0 : List Int) : Option Bool := some (l0.all impl_areAll_int.p)
/-- Where the first element stands that is no limb; -1: there is none. -/
def impl_areAll_int.ix : List Int → Nat → Int
  | [], _ => -1
  | x :: l, n => if impl_areAll_int.p x = true then impl_areAll_int.ix l (n + 1) else (n : Int)
theorem impl_areAll_int.ix_drop (l : List Int) (n : Nat) (h : n < l.length) : impl_areAll_int.ix (l.drop n) n = if impl_areAll_int.p (rd l n) = true then impl_areAll_int.ix (l.drop (n + 1)) (n + 1) else (n : Int) := by
  rw [List.drop_eq_getElem_cons h]
  have e : rd l (n : Int) = l[n] := by simp [rd, List.getD, List.getElem?_eq_getElem h]
  rw [e]; rfl
theorem impl_areAll_int.ix_all (l : List Int) : ∀ n : Nat, decide (0 ≤ impl_areAll_int.ix l n) = !(l.all impl_areAll_int.p) := by
  induction l with
  | nil => intro n; rfl
  | cons x l ih =>
    intro n
    by_cases h : impl_areAll_int.p x = true
    · have e : impl_areAll_int.ix (x :: l) n = impl_areAll_int.ix l (n + 1) := if_pos h
      rw [e, ih]
      simp [h]
    · have e : impl_areAll_int.ix (x :: l) n = (n : Int) := if_neg h
      rw [e]
      simp [h]
theorem impl_areAll_int.pred (x : Int) (w : World) : Calls Try.prog 135 #[.int .i64 x] w fun e w' => e = .returned (.bool (impl_areAll_int.p x)) ∧ Drawn0 w w' := by
  unfold impl_areAll_int.p
  by_cases h0 : 0 ≤ x
  · have b0 : decide (0 ≤ x) = true := decide_eq_true h0
    go_enter Try.func135, Try.ntmps135
    go_wp2
    repeat (go_quiet (fail); try go_wp2)
    go_ret
    exact ⟨by simp [h0], by repeat (first | exact Drawn0.refl _ | apply Drawn0.step)⟩
  · have b0 : decide (0 ≤ x) = false := decide_eq_false h0
    go_enter Try.func135, Try.ntmps135
    go_wp2
    repeat (go_quiet (fail); try go_wp2)
    go_ret
    exact ⟨by simp [h0], by repeat (first | exact Drawn0.refl _ | apply Drawn0.step)⟩
theorem impl_areAll_int.neg (x : Int) (B : Nat) (w : World) (hc : w.cell? ⟨B, 0, none⟩ = some (.func (.func 135) #[] #[])) :
    Calls Try.prog 147 #[.int .i64 x, .pointer (some ⟨B, 0, none⟩)] w fun e w' => e = .returned (.bool (!impl_areAll_int.p x)) ∧ Drawn0 w w' := by
  have hp := impl_areAll_int.pred x
  have eg : ∀ args w, (callFunc 135 args).run Try.prog w = .ok (.enter 135 args) w := enters_of Try.func135 (by kernel_rfl) rfl
  generalize impl_areAll_int.p x = b at hp ⊢
  go_enter Try.func147, Try.ntmps147
  go_wp2_with (go_at_fn 135; refine (hp _).mono ?_; rintro e w' ⟨rfl, ⟨q, rfl⟩⟩)
  go_ret
  exact ⟨by first | rfl | simp, by repeat (first | exact Drawn0.refl _ | apply Drawn0.step)⟩
theorem impl_areAll_int.index (B : Nat) (A0 : Option Addr) (c0 : Nat) (l0 : List Int) (w : World) (hr0 : Kd.C (Kd.int .i64) w A0 l0.length l0) (hB : B < w.heap.size) (hc : w.cell? ⟨B, 0, none⟩ = some (.func (.func 135) #[] #[])) :
    Calls Try.prog 151 #[.slice A0 l0.length c0, .func (.func 147) #[] #[.pointer (some ⟨B, 0, none⟩)]] w fun e w' => e = .returned (.int .i64 (impl_areAll_int.ix l0 0)) ∧ Drawn0 w w' := by
  have eg : ∀ args w, (callFunc 147 args).run Try.prog w = .ok (.enter 147 args) w := enters_of Try.func147 (by kernel_rfl) rfl
  have hcall : ∀ (x : Int) (q : Nat), Calls Try.prog 147 #[.int .i64 x, .pointer (some ⟨B, 0, none⟩)] (w.drewN q) fun e w' => e = .returned (.bool (!impl_areAll_int.p x)) ∧ Drawn0 (w.drewN q) w' :=
    fun x q => impl_areAll_int.neg x B _ ((pw_cell_below (pw_below_drewN (Below.refl _ _) q) hc))
  have hmx := Kd.C_max hr0
  have HR := Aside0.mk hr0
  have HX := Aside0.mk (impl_areAll_int.ix_drop l0)
  clear hr0 hc hB
  go_enter Try.func151, Try.ntmps151
  go_wp2
  go_loopg [5, 8] l0.length (fun gg _ s8 wr => ∃ kk q : Nat, kk ≤ l0.length ∧ l0.length - kk ≤ gg ∧ s8 = .int .i64 kk ∧ wr = w.drewN q ∧ Aside0 (impl_areAll_int.ix l0 0 = impl_areAll_int.ix (l0.drop kk) kk))
  case atStart => exact ⟨0, 0, Nat.zero_le _, by omega, rfl, rfl, ⟨by simp⟩⟩
  case round =>
    obtain ⟨kk, q, hkk, hg, rfl, rfl, H⟩ := hrel
    by_cases hlt : kk < l0.length
    · have hltz : (kk : Int) < (l0.length : Int) := by omega
      obtain ⟨ad, e, hx⟩ := Kd.at_int HR.out (kk : Int) (by omega) (by omega)
      cases e
      simp only [Int.toNat_natCast] at hx
      have HS := Aside0.mk (HX.out kk hlt)
      generalize rd l0 (kk : Int) = y at hx HS
      have hcy := hcall y
      have hpb : Aside0 (∀ b, impl_areAll_int.p y = b → impl_areAll_int.ix (l0.drop kk) kk = if b = true then impl_areAll_int.ix (l0.drop (kk + 1)) (kk + 1) else (kk : Int)) := ⟨fun b hb => by rw [HS.out, hb]⟩
      clear HS
      generalize impl_areAll_int.p y = b at hcy hpb
      have HP := Aside0.mk (hpb.out b rfl)
      clear hpb
      cases b with
      | true =>
        go_wp2_with (go_at_fn 147; refine (hcy _).mono ?_; rintro e w' ⟨rfl, ⟨q', rfl⟩⟩)
        go_roundg (l0.length - (kk + 1))
        case measure => omega
        case rel => exact ⟨kk + 1, _, by omega, by omega, by go_num, rfl, ⟨H.out.trans HP.out⟩⟩
      | false =>
        go_wp2_with (go_at_fn 147; refine (hcy _).mono ?_; rintro e w' ⟨rfl, ⟨q', rfl⟩⟩)
        go_ret
        exact ⟨by rw [H.out, HP.out]; rfl, by repeat (first | exact Drawn0.refl _ | apply Drawn0.step)⟩
    · have hltz : ¬ (kk : Int) < (l0.length : Int) := by omega
      have hk : kk = l0.length := by omega
      subst hk
      go_wp2
      go_ret
      exact ⟨by rw [H.out, List.drop_length]; rfl, by repeat (first | exact Drawn0.refl _ | apply Drawn0.step)⟩
theorem impl_areAll_int.has (B : Nat) (A0 : Option Addr) (c0 : Nat) (l0 : List Int) (w : World) (hr0 : Kd.C (Kd.int .i64) w A0 l0.length l0) (hB : B < w.heap.size) (hc : w.cell? ⟨B, 0, none⟩ = some (.func (.func 135) #[] #[])) :
    Calls Try.prog 146 #[.slice A0 l0.length c0, .func (.func 147) #[] #[.pointer (some ⟨B, 0, none⟩)]] w fun e w' => e = .returned (.bool (!(l0.all impl_areAll_int.p))) ∧ Drawn0 w w' := by
  have hcon := impl_areAll_int.index B A0 c0 l0 w hr0 hB hc
  have HE := Aside0.mk (impl_areAll_int.ix_all l0 0)
  clear hr0 hc hB
  generalize impl_areAll_int.ix l0 0 = i at hcon HE
  rw [← HE.out]
  clear HE
  go_enter Try.func146, Try.ntmps146
  go_wp2_with (go_at_call 151; refine hcon.mono ?_; rintro e w' ⟨rfl, ⟨q, rfl⟩⟩)
  go_ret
  exact ⟨by first | rfl | simp, by repeat (first | exact Drawn0.refl _ | apply Drawn0.step)⟩
theorem impl_areAll_int.calls (A0 : Option Addr) (c0 : Nat) (l0 : List Int) (r : Bool) (w : World) (hr0 : Kd.C (Kd.int .i64) w A0 l0.length l0) (hc0 : l0.length ≤ c0) (h : impl_areAll_int.f l0 = some r) :
    Calls Try.prog 134 #[.slice A0 l0.length c0, .func (.func 135) #[] #[]] w fun e w' => e = .returned (.bool r) ∧ Below w.heap.size w w' := by
  have hcon := impl_areAll_int.has w.heap.size A0 c0 l0 (w.alloc (.cells #[.func (.func 135) #[] #[]] 108)) (Kd.C_alloc hr0 _) (by simp) (by simp)
  obtain rfl := Option.some.inj h
  clear h hr0 hc0
  generalize l0.all impl_areAll_int.p = b at hcon ⊢
  go_enter Try.func134, Try.ntmps134
  go_wp2_with (go_at_call 146; refine hcon.mono ?_; rintro e w' ⟨rfl, ⟨q, rfl⟩⟩)
  go_ret
  exact ⟨by simp, pw_below_drewN (below_alloc (Below.refl _ _) _) q⟩


/-! ### impl_NatOk: function 100 -/
def impl_NatOk.f (l0_0 : List Int) : Option (Bool) := if (l0_0.length : Int) ≤ 100 then ((impl_areAll_int.f l0_0).bind fun t271 => (if t271 = true then (if (l0_0.length : Int) = 0 then (some true) else (if 0 ≤ (wrap64 ((l0_0.length : Int) - 1)) then (if (wrap64 ((l0_0.length : Int) - 1)) < (l0_0.length : Int) then (some ((rd l0_0 (wrap64 ((l0_0.length : Int) - 1))) != 0)) else (none)) else (none))) else (some false))) else (some false)
set_option maxHeartbeats 8000000 in
set_option maxRecDepth 100000 in
theorem impl_NatOk.calls (A0_0 : Option Addr) (c0_0 : Nat) (l0_0 : List Int) (r : Bool) (w : World) (hr0_0 : Kd.C (Kd.int .i64) w A0_0 l0_0.length l0_0) (hc0_0 : l0_0.length ≤ c0_0) (h : impl_NatOk.f l0_0 = some r) :
    Calls Try.prog 100 #[.agg #[.slice A0_0 l0_0.length c0_0]] w fun e w' => e = .returned (.bool r) ∧ Below w.heap.size w w' := by
  have hu38 := Try.underlying38
  have HR0_0 := Aside0.mk hr0_0
  have HC0_0 := Aside0.mk hc0_0
  clear hr0_0 hc0_0
  have HB := Aside0.mk (Below.refl w.heap.size w)
  have H : (if (l0_0.length : Int) ≤ 100 then ((impl_areAll_int.f l0_0).bind fun t271 => (if t271 = true then (if (l0_0.length : Int) = 0 then (some true) else (if 0 ≤ (wrap64 ((l0_0.length : Int) - 1)) then (if (wrap64 ((l0_0.length : Int) - 1)) < (l0_0.length : Int) then (some ((rd l0_0 (wrap64 ((l0_0.length : Int) - 1))) != 0)) else (none)) else (none))) else (some false))) else (some false)) = some r := h
  clear h
  by_cases c2 : (l0_0.length : Int) ≤ 100
  · rw [if_pos c2] at H
    have c2b0 : decide ((l0_0.length : Int) ≤ 100) = true := decide_eq_true c2
    have c2b1 : decide (l0_0.length ≤ 100) = true := decide_eq_true (by omega)
    clear c2
    replace H := Option.bind_eq_some_iff.mp H
    obtain ⟨t271, A30, H⟩ := H
    replace H : (if t271 = true then (if (l0_0.length : Int) = 0 then (some true) else (if 0 ≤ (wrap64 ((l0_0.length : Int) - 1)) then (if (wrap64 ((l0_0.length : Int) - 1)) < (l0_0.length : Int) then (some ((rd l0_0 (wrap64 ((l0_0.length : Int) - 1))) != 0)) else (none)) else (none))) else (some false)) = some r := H
    have A3 := Aside0.mk A30
    clear A30
    by_cases c4 : t271 = true
    · subst c4
      have H1 : (if (l0_0.length : Int) = 0 then (some true) else (if 0 ≤ (wrap64 ((l0_0.length : Int) - 1)) then (if (wrap64 ((l0_0.length : Int) - 1)) < (l0_0.length : Int) then (some ((rd l0_0 (wrap64 ((l0_0.length : Int) - 1))) != 0)) else (none)) else (none))) = some r := by rw [if_pos rfl] at H; exact H
      clear H
      have H := H1
      clear H1
      by_cases c5 : (l0_0.length : Int) = 0
      · rw [if_pos c5] at H
        have c5b0 : ((l0_0.length : Int) == 0) = true := beq_iff_eq.mpr c5
        have c5b1 : ((l0_0.length : Int) != 0) = false := bne_eq_false_iff_eq.mpr c5
        clear c5
        obtain rfl := Option.some.inj H
        go_enter Try.func100, Try.ntmps100
        go_wp2_with (first | ((with_reducible refine gate_dst (N := 1) rfl ?_); (try (refine gate_guard (by rfl) ?_; dsimp only)); refine box_event ?hg (N := 1) ?hd (cs := #[.slice A0_0 l0_0.length c0_0]) (t := 38) ?hr ?_; (case hd => rfl); (case hg => rfl); (case hr => first | (go_simp; done) | (go_simp; rfl)); intro gb270 hg w6 hbox hb; have n0_ := Aside0.mk (below_step (hkS HB) hb); have n1_ := Aside0.mk (hbox); have n2_ := hkG hg (hkS HB); have n3_ := hkG hg (hkS HB); clear HB; have HB := n0_; have BK270 := n1_; have GW270 := n2_; have GE270 := n3_; clear n0_ n1_ n2_ n3_; clear hb hbox hg; have hcz7_0 : w6.cell? ⟨gb270, 0, none⟩ = some (.slice A0_0 l0_0.length c0_0) := (blk_cell BK270.out 0).trans rfl; have hfz7_0 := blk_frozen BK270.out 0) | (go_at_call 134; (with_reducible refine (impl_areAll_int.calls _ _ l0_0  true _ ?side1 ?side2 A3.out).mono ?_); (case side1 => repeat (first | exact (Kd.C_below HR0_0.out HB.out) | (with_reducible refine Kd.C_alloc ?_ _) | (with_reducible refine Kd.C_drewN ?_ _) | (with_reducible refine Kd.C_drew ?_))); (case side2 => exact HC0_0.out); rintro e w8 ⟨rfl, hb⟩; have n0_ := hkBb BK270 hb; have n1_ := Aside0.mk (below_step (hkS HB) hb); clear BK270; clear HB; have BK270 := n0_; have HB := n1_; clear n0_ n1_; (try clear hb); (try clear hb2); (try clear hk); (try clear hi); have hcz9_0 : w8.cell? ⟨gb270, 0, none⟩ = some (.slice A0_0 l0_0.length c0_0) := (blk_cell BK270.out 0).trans rfl; have hfz9_0 := blk_frozen BK270.out 0))
        go_ret
        exact ⟨by first | rfl | (simp [errW_none, errW_some] <;> rfl) | (simp [*, errW_none, errW_some] <;> rfl), by repeat (first | (with_reducible first | exact HB.out | apply below_alloc | apply pw_below_drewN | apply below_drew1 | refine below_set ?_ GE270.out) | exact HB.out)⟩
      · rw [if_neg c5] at H
        have c5b0 : ((l0_0.length : Int) == 0) = false := beq_eq_false_iff_ne.mpr c5
        have c5b1 : ((l0_0.length : Int) != 0) = true := bne_iff_ne.mpr c5
        have c5b2 : ¬ (l0_0 = []) := fun h_ => c5 (by rw [h_]; rfl)
        obtain ⟨ji10, hji10⟩ : ∃ j_ : Int, (wrap64 ((l0_0.length : Int) - 1)) = j_ := ⟨_, rfl⟩
        replace H : (if 0 ≤ (ji10) then (if (ji10) < (l0_0.length : Int) then (some ((rd l0_0 (ji10)) != 0)) else (none)) else (none)) = some r := by first | (rw [hji10] at H; exact H) | (simp only [hji10] at H ⊢; exact H)
        (try rw [hji10] at A3)
        have hji10w : (IntKind.i64.wrap ((l0_0.length : Int) - 1)) = ji10 := (i64_w _).trans hji10
        by_cases c11 : 0 ≤ (ji10)
        · rw [if_pos c11] at H
          have c11b0 : decide (0 ≤ (ji10)) = true := decide_eq_true c11
          clear c11
          by_cases c12 : (ji10) < (l0_0.length : Int)
          · rw [if_pos c12] at H
            have c12b0 : decide ((ji10) < (l0_0.length : Int)) = true := decide_eq_true c12
            clear c12
            obtain rfl := Option.some.inj H
            go_enter Try.func100, Try.ntmps100
            go_wp2_with (first | ((with_reducible refine gate_dst (N := 1) rfl ?_); (try (refine gate_guard (by rfl) ?_; dsimp only)); refine box_event ?hg (N := 1) ?hd (cs := #[.slice A0_0 l0_0.length c0_0]) (t := 38) ?hr ?_; (case hd => rfl); (case hg => rfl); (case hr => first | (go_simp; done) | (go_simp; rfl)); intro gb270 hg w13 hbox hb; have n0_ := Aside0.mk (below_step (hkS HB) hb); have n1_ := Aside0.mk (hbox); have n2_ := hkG hg (hkS HB); have n3_ := hkG hg (hkS HB); clear HB; have HB := n0_; have BK270 := n1_; have GW270 := n2_; have GE270 := n3_; clear n0_ n1_ n2_ n3_; clear hb hbox hg; have hcz14_0 : w13.cell? ⟨gb270, 0, none⟩ = some (.slice A0_0 l0_0.length c0_0) := (blk_cell BK270.out 0).trans rfl; have hfz14_0 := blk_frozen BK270.out 0) | (go_at_call 134; (with_reducible refine (impl_areAll_int.calls _ _ l0_0  true _ ?side1 ?side2 A3.out).mono ?_); (case side1 => repeat (first | exact (Kd.C_below HR0_0.out HB.out) | (with_reducible refine Kd.C_alloc ?_ _) | (with_reducible refine Kd.C_drewN ?_ _) | (with_reducible refine Kd.C_drew ?_))); (case side2 => exact HC0_0.out); rintro e w15 ⟨rfl, hb⟩; have n0_ := hkBb BK270 hb; have n1_ := Aside0.mk (below_step (hkS HB) hb); clear BK270; clear HB; have BK270 := n0_; have HB := n1_; clear n0_ n1_; (try clear hb); (try clear hb2); (try clear hk); (try clear hi); have hcz16_0 : w15.cell? ⟨gb270, 0, none⟩ = some (.slice A0_0 l0_0.length c0_0) := (blk_cell BK270.out 0).trans rfl; have hfz16_0 := blk_frozen BK270.out 0; have p272 : 0 ≤ ((ji10) : Int) := of_decide_eq_true (by first | (with_reducible assumption) | assumption); have q272 : (ji10) < (l0_0.length : Int) := of_decide_eq_true (by first | (with_reducible assumption) | assumption); obtain ⟨ad272, e272, hx272_0⟩ := Kd.at_int HR0_0.out (ji10) p272 q272; cases e272; replace hx272_0 := (HB.out.cell (World.block_lt_of_cell? w _ hx272_0)).trans hx272_0; replace p272 := eq_true p272; replace q272 := eq_true q272))
            go_ret
            exact ⟨by first | rfl | (simp [errW_none, errW_some] <;> rfl) | (simp only [← hji10]; first | rfl | (simp [errW_none, errW_some] <;> rfl)) | (simp [*, errW_none, errW_some] <;> rfl), by repeat (first | (with_reducible first | exact HB.out | apply below_alloc | apply pw_below_drewN | apply below_drew1 | refine below_set ?_ GE270.out) | exact HB.out)⟩
          · rw [if_neg c12] at H
            exact absurd H (by simp)
        · rw [if_neg c11] at H
          exact absurd H (by simp)
    · replace c4 := Bool.eq_false_iff.mpr c4
      subst c4
      have H1 : (some false) = some r := by rw [if_neg (show ¬ (false = true) by decide)] at H; exact H
      clear H
      have H := H1
      clear H1
      obtain rfl := Option.some.inj H
      go_enter Try.func100, Try.ntmps100
      go_wp2_with (first | ((with_reducible refine gate_dst (N := 1) rfl ?_); (try (refine gate_guard (by rfl) ?_; dsimp only)); refine box_event ?hg (N := 1) ?hd (cs := #[.slice A0_0 l0_0.length c0_0]) (t := 38) ?hr ?_; (case hd => rfl); (case hg => rfl); (case hr => first | (go_simp; done) | (go_simp; rfl)); intro gb270 hg w17 hbox hb; have n0_ := Aside0.mk (below_step (hkS HB) hb); have n1_ := Aside0.mk (hbox); have n2_ := hkG hg (hkS HB); have n3_ := hkG hg (hkS HB); clear HB; have HB := n0_; have BK270 := n1_; have GW270 := n2_; have GE270 := n3_; clear n0_ n1_ n2_ n3_; clear hb hbox hg; have hcz18_0 : w17.cell? ⟨gb270, 0, none⟩ = some (.slice A0_0 l0_0.length c0_0) := (blk_cell BK270.out 0).trans rfl; have hfz18_0 := blk_frozen BK270.out 0) | (go_at_call 134; (with_reducible refine (impl_areAll_int.calls _ _ l0_0  false _ ?side1 ?side2 A3.out).mono ?_); (case side1 => repeat (first | exact (Kd.C_below HR0_0.out HB.out) | (with_reducible refine Kd.C_alloc ?_ _) | (with_reducible refine Kd.C_drewN ?_ _) | (with_reducible refine Kd.C_drew ?_))); (case side2 => exact HC0_0.out); rintro e w19 ⟨rfl, hb⟩; have n0_ := hkBb BK270 hb; have n1_ := Aside0.mk (below_step (hkS HB) hb); clear BK270; clear HB; have BK270 := n0_; have HB := n1_; clear n0_ n1_; (try clear hb); (try clear hb2); (try clear hk); (try clear hi)))
      go_ret
      exact ⟨by first | rfl | (simp [errW_none, errW_some] <;> rfl) | (simp [*, errW_none, errW_some] <;> rfl), by repeat (first | (with_reducible first | exact HB.out | apply below_alloc | apply pw_below_drewN | apply below_drew1 | refine below_set ?_ GE270.out) | exact HB.out)⟩
  · rw [if_neg c2] at H
    have c2b0 : decide ((l0_0.length : Int) ≤ 100) = false := decide_eq_false c2
    have c2b1 : decide (l0_0.length ≤ 100) = false := decide_eq_false (by omega)
    clear c2
    obtain rfl := Option.some.inj H
    go_enter Try.func100, Try.ntmps100
    go_wp2_with (first | ((with_reducible refine gate_dst (N := 1) rfl ?_); (try (refine gate_guard (by rfl) ?_; dsimp only)); refine box_event ?hg (N := 1) ?hd (cs := #[.slice A0_0 l0_0.length c0_0]) (t := 38) ?hr ?_; (case hd => rfl); (case hg => rfl); (case hr => first | (go_simp; done) | (go_simp; rfl)); intro gb270 hg w20 hbox hb; have n0_ := Aside0.mk (below_step (hkS HB) hb); have n1_ := Aside0.mk (hbox); have n2_ := hkG hg (hkS HB); have n3_ := hkG hg (hkS HB); clear HB; have HB := n0_; have BK270 := n1_; have GW270 := n2_; have GE270 := n3_; clear n0_ n1_ n2_ n3_; clear hb hbox hg; have hcz21_0 : w20.cell? ⟨gb270, 0, none⟩ = some (.slice A0_0 l0_0.length c0_0) := (blk_cell BK270.out 0).trans rfl; have hfz21_0 := blk_frozen BK270.out 0))
    go_ret
    exact ⟨by first | rfl | (simp [errW_none, errW_some] <;> rfl) | (simp [*, errW_none, errW_some] <;> rfl), by repeat (first | (with_reducible first | exact HB.out | apply below_alloc | apply pw_below_drewN | apply below_drew1 | refine below_set ?_ GE270.out) | exact HB.out)⟩

/-! ### impl_areNats: function 59 -/
def impl_areNats.f (l0_0 : List Int) (l1_0 : List Int) : Option (Bool) := (impl_NatOk.f l0_0).bind fun t275 => (if t275 = true then ((impl_NatOk.f l1_0).bind fun t276 => (some t276)) else (some false))
set_option maxHeartbeats 8000000 in
set_option maxRecDepth 100000 in
theorem impl_areNats.calls (A0_0 : Option Addr) (c0_0 : Nat) (l0_0 : List Int) (A1_0 : Option Addr) (c1_0 : Nat) (l1_0 : List Int) (r : Bool) (w : World) (hr0_0 : Kd.C (Kd.int .i64) w A0_0 l0_0.length l0_0) (hc0_0 : l0_0.length ≤ c0_0) (hr1_0 : Kd.C (Kd.int .i64) w A1_0 l1_0.length l1_0) (hc1_0 : l1_0.length ≤ c1_0) (h : impl_areNats.f l0_0 l1_0 = some r) :
    Calls Try.prog 59 #[.agg #[.slice A0_0 l0_0.length c0_0], .agg #[.slice A1_0 l1_0.length c1_0]] w fun e w' => e = .returned (.bool r) ∧ Below w.heap.size w w' := by
  have hu38 := Try.underlying38
  have HR0_0 := Aside0.mk hr0_0
  have HC0_0 := Aside0.mk hc0_0
  clear hr0_0 hc0_0
  have HR1_0 := Aside0.mk hr1_0
  have HC1_0 := Aside0.mk hc1_0
  clear hr1_0 hc1_0
  have HB := Aside0.mk (Below.refl w.heap.size w)
  have H : ((impl_NatOk.f l0_0).bind fun t275 => (if t275 = true then ((impl_NatOk.f l1_0).bind fun t276 => (some t276)) else (some false))) = some r := h
  clear h
  replace H := Option.bind_eq_some_iff.mp H
  obtain ⟨t275, A30, H⟩ := H
  replace H : (if t275 = true then ((impl_NatOk.f l1_0).bind fun t276 => (some t276)) else (some false)) = some r := H
  have A3 := Aside0.mk A30
  clear A30
  by_cases c4 : t275 = true
  · subst c4
    have H1 : ((impl_NatOk.f l1_0).bind fun t276 => (some t276)) = some r := by rw [if_pos rfl] at H; exact H
    clear H
    have H := H1
    clear H1
    replace H := Option.bind_eq_some_iff.mp H
    obtain ⟨t276, A50, H⟩ := H
    replace H : (some t276) = some r := H
    have A5 := Aside0.mk A50
    clear A50
    obtain rfl := Option.some.inj H
    go_enter Try.func59, Try.ntmps59
    go_wp2_with (first | ((with_reducible refine gate_dst (N := 2) rfl ?_); refine box_event ?hg (N := 2) ?hd (cs := #[.slice A0_0 l0_0.length c0_0]) (t := 38) ?hr ?_; (case hd => rfl); (case hg => rfl); (case hr => first | (go_simp; done) | (go_simp; rfl)); intro gb273 hg w6 hbox hb; have n0_ := Aside0.mk (below_step (hkS HB) hb); have n1_ := Aside0.mk (hbox); have n2_ := hkG hg (hkS HB); have n3_ := hkG hg (hkS HB); clear HB; have HB := n0_; have BK273 := n1_; have GW273 := n2_; have GE273 := n3_; clear n0_ n1_ n2_ n3_; clear hb hbox hg) | ((with_reducible refine gate_dst (N := 3) rfl ?_); refine box_event ?hg (N := 3) ?hd (cs := #[.slice A1_0 l1_0.length c1_0]) (t := 38) ?hr ?_; (case hd => rfl); (case hg => rfl); (case hr => first | (go_simp; done) | (go_simp; rfl)); intro gb274 hg w7 hbox hb; have n0_ := hkBb BK273 hb; have n1_ := Aside0.mk (below_step (hkS HB) hb); have n2_ := Aside0.mk (hbox); have n3_ := hkG hg (hkS HB); have n4_ := hkG hg (hkS HB); have n5_ := hkN hg BK273; have n6_ := hkM hg BK273; clear BK273; clear HB; have BK273 := n0_; have HB := n1_; have BK274 := n2_; have GW274 := n3_; have GE274 := n4_; have NB273_274 := n5_; have NB274_273 := n6_; clear n0_ n1_ n2_ n3_ n4_ n5_ n6_; clear hb hbox hg; have hnb8 := NB273_274.out; have hnc8 := NB274_273.out; have hcz9_0 : w7.cell? ⟨gb273, 0, none⟩ = some (.slice A0_0 l0_0.length c0_0) := (blk_cell BK273.out 0).trans rfl; have hfz9_0 := blk_frozen BK273.out 0) | ((with_reducible refine gate_callee (f := 100) rfl ?_); refine goesL_ (some 6) rfl rfl Try.func100 (by kernel_rfl) rfl #[.agg #[.slice A0_0 l0_0.length c0_0]] rfl hkL ?_; (with_reducible refine (impl_NatOk.calls _ _ l0_0 true _ ?side1 ?side2 A3.out).mono ?_); (case side1 => repeat (first | exact (Kd.C_below HR0_0.out HB.out) | (with_reducible refine Kd.C_alloc ?_ _) | (with_reducible refine Kd.C_drewN ?_ _) | (with_reducible refine Kd.C_drew ?_))); (case side2 => exact HC0_0.out); rintro e w10 ⟨rfl, hb⟩; refine ⟨_, rfl, ?_⟩; have n0_ := hkBb BK273 hb; have n1_ := hkBb BK274 hb; have n2_ := Aside0.mk (below_step (hkS HB) hb); clear BK273; clear BK274; clear HB; have BK273 := n0_; have BK274 := n1_; have HB := n2_; clear n0_ n1_ n2_; (try clear hb); (try clear hb2); (try clear hk); (try clear hi); have hcz11_0 : w10.cell? ⟨gb274, 0, none⟩ = some (.slice A1_0 l1_0.length c1_0) := (blk_cell BK274.out 0).trans rfl; have hfz11_0 := blk_frozen BK274.out 0) | (go_at_call 100; (with_reducible refine (impl_NatOk.calls _ _ l1_0 t276 _ ?side1 ?side2 A5.out).mono ?_); (case side1 => repeat (first | exact (Kd.C_below HR1_0.out HB.out) | (with_reducible refine Kd.C_alloc ?_ _) | (with_reducible refine Kd.C_drewN ?_ _) | (with_reducible refine Kd.C_drew ?_))); (case side2 => exact HC1_0.out); rintro e w12 ⟨rfl, hb⟩; have n0_ := hkBb BK273 hb; have n1_ := hkBb BK274 hb; have n2_ := Aside0.mk (below_step (hkS HB) hb); clear BK273; clear BK274; clear HB; have BK273 := n0_; have BK274 := n1_; have HB := n2_; clear n0_ n1_ n2_; (try clear hb); (try clear hb2); (try clear hk); (try clear hi)))
    go_ret
    exact ⟨by first | rfl | (simp [errW_none, errW_some] <;> rfl) | (simp [*, errW_none, errW_some] <;> rfl), by repeat (first | (with_reducible first | exact HB.out | apply below_alloc | apply pw_below_drewN | apply below_drew1 | refine below_set ?_ GE273.out | refine below_set ?_ GE274.out) | exact HB.out)⟩
  · replace c4 := Bool.eq_false_iff.mpr c4
    subst c4
    have H1 : (some false) = some r := by rw [if_neg (show ¬ (false = true) by decide)] at H; exact H
    clear H
    have H := H1
    clear H1
    obtain rfl := Option.some.inj H
    go_enter Try.func59, Try.ntmps59
    go_wp2_with (first | ((with_reducible refine gate_dst (N := 2) rfl ?_); refine box_event ?hg (N := 2) ?hd (cs := #[.slice A0_0 l0_0.length c0_0]) (t := 38) ?hr ?_; (case hd => rfl); (case hg => rfl); (case hr => first | (go_simp; done) | (go_simp; rfl)); intro gb273 hg w13 hbox hb; have n0_ := Aside0.mk (below_step (hkS HB) hb); have n1_ := Aside0.mk (hbox); have n2_ := hkG hg (hkS HB); have n3_ := hkG hg (hkS HB); clear HB; have HB := n0_; have BK273 := n1_; have GW273 := n2_; have GE273 := n3_; clear n0_ n1_ n2_ n3_; clear hb hbox hg) | ((with_reducible refine gate_dst (N := 3) rfl ?_); refine box_event ?hg (N := 3) ?hd (cs := #[.slice A1_0 l1_0.length c1_0]) (t := 38) ?hr ?_; (case hd => rfl); (case hg => rfl); (case hr => first | (go_simp; done) | (go_simp; rfl)); intro gb274 hg w14 hbox hb; have n0_ := hkBb BK273 hb; have n1_ := Aside0.mk (below_step (hkS HB) hb); have n2_ := Aside0.mk (hbox); have n3_ := hkG hg (hkS HB); have n4_ := hkG hg (hkS HB); have n5_ := hkN hg BK273; have n6_ := hkM hg BK273; clear BK273; clear HB; have BK273 := n0_; have HB := n1_; have BK274 := n2_; have GW274 := n3_; have GE274 := n4_; have NB273_274 := n5_; have NB274_273 := n6_; clear n0_ n1_ n2_ n3_ n4_ n5_ n6_; clear hb hbox hg; have hnb15 := NB273_274.out; have hnc15 := NB274_273.out; have hcz16_0 : w14.cell? ⟨gb273, 0, none⟩ = some (.slice A0_0 l0_0.length c0_0) := (blk_cell BK273.out 0).trans rfl; have hfz16_0 := blk_frozen BK273.out 0) | ((with_reducible refine gate_callee (f := 100) rfl ?_); refine goesL_ (some 6) rfl rfl Try.func100 (by kernel_rfl) rfl #[.agg #[.slice A0_0 l0_0.length c0_0]] rfl hkL ?_; (with_reducible refine (impl_NatOk.calls _ _ l0_0 false _ ?side1 ?side2 A3.out).mono ?_); (case side1 => repeat (first | exact (Kd.C_below HR0_0.out HB.out) | (with_reducible refine Kd.C_alloc ?_ _) | (with_reducible refine Kd.C_drewN ?_ _) | (with_reducible refine Kd.C_drew ?_))); (case side2 => exact HC0_0.out); rintro e w17 ⟨rfl, hb⟩; refine ⟨_, rfl, ?_⟩; have n0_ := hkBb BK273 hb; have n1_ := hkBb BK274 hb; have n2_ := Aside0.mk (below_step (hkS HB) hb); clear BK273; clear BK274; clear HB; have BK273 := n0_; have BK274 := n1_; have HB := n2_; clear n0_ n1_ n2_; (try clear hb); (try clear hb2); (try clear hk); (try clear hi)))
    go_ret
    exact ⟨by first | rfl | (simp [errW_none, errW_some] <;> rfl) | (simp [*, errW_none, errW_some] <;> rfl), by repeat (first | (with_reducible first | exact HB.out | apply below_alloc | apply pw_below_drewN | apply below_drew1 | refine below_set ?_ GE273.out | refine below_set ?_ GE274.out) | exact HB.out)⟩

end Go.Proofs.Ytgjpahofopoflaa.PFnNatGcds
