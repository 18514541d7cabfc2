-- Written by our own driver (wip/hand/hprint.py) over the seat's translation.
import Derived.Test.YtgjpahofopoflaaDoorPFnExactDyShiftx0
import Derived.Test.YtgjpahofopoflaaDoorPFnExactDyShiftx1
import Derived.Test.YtgjpahofopoflaaDoorPFnExactDyShiftx2
import Derived.Test.YtgjpahofopoflaaDoorPFnExactDyShiftx3
import Derived.Test.YtgjpahofopoflaaDoorPFnExactDyShiftx4
import Derived.Test.YtgjpahofopoflaaDoorPFnExactDyShiftx6
namespace Go.Proofs.YtgjpahofopoflaaDoor.PFnExactDyShift
open Go.RowKit Go.Proofs.YtgjpahofopoflaaDoorW.PrintWords Go.Proofs.YtgjpahofopoflaaDoorW.PrintLast Go.Proofs.YtgjpahofopoflaaDoorW.PrintMore
attribute [local go_sem] max2_int min2_int max_two min_two max_three min_three max_four min_four   -- for this text's walks alone
set_option linter.unusedVariables false
set_option linter.unusedSimpArgs false

/-! ### laws_FnExactDyShift: function 4 -/
mutual
def laws_FnExactDyShift.j0 : Nat → Int → Bool → Bool → Bool → Bool → List Int → Int → Bool → List Int → Int → Bool → List Int → Int → Bool → List Int → Int → Option (Bool)
  | 0, _, _, _, _, _, _, _, _, _, _, _, _, _, _, _, _ => none
  | k + 1, x1, x7, x10, x44, x286000, x286001, x286002, x299000, x299001, x299002, x305000, x305001, x305002, x312000, x312001, x312002 => if x44 = true then (some false) else ((laws_toDy.f k x286000 x286001 x286002).bind fun bt313 => ((laws_eqDy.f k x305000 x305001 x305002 bt313.1 bt313.2.1 bt313.2.2).bind fun t318 => (if t318 = true then ((laws_markDy.f k x305000 x305001 x305002 1).bind fun bt319 => (if bt319.1 < 0 then (laws_FnExactDyShift.j1 k x1 x7 true x286000 x286001 x286002 x299000 x299001 x299002 x312000 x312001 x312002) else ((laws_eqDy.f k x312000 x312001 x312002 x299000 x299001 x299002).bind fun t321 => (if t321 = true then (laws_FnExactDyShift.j1 k x1 x7 (x10 != x7) x286000 x286001 x286002 x299000 x299001 x299002 x312000 x312001 x312002) else (laws_FnExactDyShift.j1 k x1 x7 true x286000 x286001 x286002 x299000 x299001 x299002 x312000 x312001 x312002))))) else (some false))))
def laws_FnExactDyShift.j1 : Nat → Int → Bool → Bool → Bool → List Int → Int → Bool → List Int → Int → Bool → List Int → Int → Option (Bool)
  | 0, _, _, _, _, _, _, _, _, _, _, _, _ => none
  | k + 1, x1, x7, x65, x286000, x286001, x286002, x299000, x299001, x299002, x312000, x312001, x312002 => if x65 = true then (some false) else ((laws_markDy.f k x312000 x312001 x312002 1).bind fun bt322 => ((laws_heldDy.f k x312000 bt322.2 x312002 1).bind fun t324 => (if t324 < 0 then (some false) else (if t324 = bt322.1 then ((laws_toDy.f k x286000 x286001 x286002).bind fun bt325 => ((impl_DyShift.f k bt325.1 bt325.2.1 bt325.2.2 x1).bind fun bt330 => ((laws_eqDy.f k bt330.1 bt330.2.1 bt330.2.2.1 x299000 x299001 x299002).bind fun t337 => (if t337 = true then (laws_FnExactDyShift.j2 k bt322.1 (bt330.2.2.2 != x7) x312000 bt322.2 x312002) else (laws_FnExactDyShift.j2 k bt322.1 true x312000 bt322.2 x312002))))) else (some false)))))
def laws_FnExactDyShift.j2 : Nat → Int → Bool → Bool → List Int → Int → Option (Bool)
  | 0, _, _, _, _, _ => none
  | k + 1, x12, x92, x312000, x312001, x312002 => if x92 = true then (some false) else ((laws_heldDy.f k x312000 x312001 x312002 1).bind fun t338 => (if t338 < 0 then (some false) else (if t338 = x12 then (some true) else (some false))))
end
def laws_FnExactDyShift.f (k : Nat) (a0_0 : Bool) (l0_1 : List Int) (a0_2 : Int) (a1 : Int) : Option (Bool) := (laws_szDy.f a0_0 l0_1 a0_2 1048576).bind fun t286 => (if t286 < 0 then (some true) else ((laws_toDy.f k a0_0 l0_1 a0_2).bind fun bt287 => ((spec_DyShift.f k bt287.1 bt287.2.1 bt287.2.2 a1).bind fun bt292 => ((laws_toDy.f k a0_0 l0_1 a0_2).bind fun bt299 => ((impl_DyShift.f k bt299.1 bt299.2.1 bt299.2.2 a1).bind fun bt305 => ((laws_eqDy.f k bt305.1 bt305.2.1 bt305.2.2.1 bt292.1 bt292.2.1 bt292.2.2.1).bind fun t312 => (if t312 = true then (laws_FnExactDyShift.j0 k a1 bt292.2.2.2 bt305.2.2.2 (bt305.2.2.2 != bt292.2.2.2) a0_0 l0_1 a0_2 bt292.1 bt292.2.1 bt292.2.2.1 bt299.1 bt299.2.1 bt299.2.2 bt305.1 bt305.2.1 bt305.2.2.1) else (laws_FnExactDyShift.j0 k a1 bt292.2.2.2 bt305.2.2.2 true a0_0 l0_1 a0_2 bt292.1 bt292.2.1 bt292.2.2.1 bt299.1 bt299.2.1 bt299.2.2 bt305.1 bt305.2.1 bt305.2.2.1))))))))
theorem laws_FnExactDyShift.mono_l : ∀ k, (∀ y0 y1 y2 y3 y4 y5 y6 y7 y8 y9 y10 y11 y12 y13 y14 y15, LeO (laws_FnExactDyShift.j0 k y0 y1 y2 y3 y4 y5 y6 y7 y8 y9 y10 y11 y12 y13 y14 y15) (laws_FnExactDyShift.j0 (k + 1) y0 y1 y2 y3 y4 y5 y6 y7 y8 y9 y10 y11 y12 y13 y14 y15)) ∧ (∀ y0 y1 y2 y3 y4 y5 y6 y7 y8 y9 y10 y11, LeO (laws_FnExactDyShift.j1 k y0 y1 y2 y3 y4 y5 y6 y7 y8 y9 y10 y11) (laws_FnExactDyShift.j1 (k + 1) y0 y1 y2 y3 y4 y5 y6 y7 y8 y9 y10 y11)) ∧ (∀ y0 y1 y2 y3 y4, LeO (laws_FnExactDyShift.j2 k y0 y1 y2 y3 y4) (laws_FnExactDyShift.j2 (k + 1) y0 y1 y2 y3 y4))
  | 0 => ⟨fun _ _ _ _ _ _ _ _ _ _ _ _ _ _ _ _ r h => by simp [laws_FnExactDyShift.j0] at h, fun _ _ _ _ _ _ _ _ _ _ _ _ r h => by simp [laws_FnExactDyShift.j1] at h, fun _ _ _ _ _ r h => by simp [laws_FnExactDyShift.j2] at h⟩
  | k + 1 => by
    obtain ⟨ih0, ih1, ih2⟩ := laws_FnExactDyShift.mono_l k
    refine ⟨?_, ?_, ?_⟩
    · intro y0 y1 y2 y3 y4 y5 y6 y7 y8 y9 y10 y11 y12 y13 y14 y15
      unfold laws_FnExactDyShift.j0
      repeat' first
      | (with_reducible exact ih0 _ _ _ _ _ _ _ _ _ _ _ _ _ _ _ _)
      | (with_reducible exact ih1 _ _ _ _ _ _ _ _ _ _ _ _)
      | (with_reducible exact ih2 _ _ _ _ _)
      | (with_reducible exact impl_DyShift.mono _ _ _ _ _)
      | (with_reducible exact laws_eqDy.mono _ _ _ _ _ _ _)
      | (with_reducible exact laws_heldDy.mono _ _ _ _ _)
      | (with_reducible exact laws_markDy.mono _ _ _ _ _)
      | (with_reducible exact laws_toDy.mono _ _ _ _)
      | (with_reducible exact spec_DyShift.mono _ _ _ _ _)
      | (with_reducible exact LeO.refl _)
      | (with_reducible exact LeO.none _)
      | (with_reducible refine LeO.ite ?_ ?_)
      | (with_reducible refine LeO.bind ?_ (fun _ => ?_))
      | exact ih0 _ _ _ _ _ _ _ _ _ _ _ _ _ _ _ _
      | exact ih1 _ _ _ _ _ _ _ _ _ _ _ _
      | exact ih2 _ _ _ _ _
      | exact impl_DyShift.mono _ _ _ _ _
      | exact laws_eqDy.mono _ _ _ _ _ _ _
      | exact laws_heldDy.mono _ _ _ _ _
      | exact laws_markDy.mono _ _ _ _ _
      | exact laws_toDy.mono _ _ _ _
      | exact spec_DyShift.mono _ _ _ _ _
      | exact LeO.none _
      | refine LeO.ite ?_ ?_
      | refine LeO.bind ?_ (fun _ => ?_)
    · intro y0 y1 y2 y3 y4 y5 y6 y7 y8 y9 y10 y11
      unfold laws_FnExactDyShift.j1
      repeat' first
      | (with_reducible exact ih0 _ _ _ _ _ _ _ _ _ _ _ _ _ _ _ _)
      | (with_reducible exact ih1 _ _ _ _ _ _ _ _ _ _ _ _)
      | (with_reducible exact ih2 _ _ _ _ _)
      | (with_reducible exact impl_DyShift.mono _ _ _ _ _)
      | (with_reducible exact laws_eqDy.mono _ _ _ _ _ _ _)
      | (with_reducible exact laws_heldDy.mono _ _ _ _ _)
      | (with_reducible exact laws_markDy.mono _ _ _ _ _)
      | (with_reducible exact laws_toDy.mono _ _ _ _)
      | (with_reducible exact spec_DyShift.mono _ _ _ _ _)
      | (with_reducible exact LeO.refl _)
      | (with_reducible exact LeO.none _)
      | (with_reducible refine LeO.ite ?_ ?_)
      | (with_reducible refine LeO.bind ?_ (fun _ => ?_))
      | exact ih0 _ _ _ _ _ _ _ _ _ _ _ _ _ _ _ _
      | exact ih1 _ _ _ _ _ _ _ _ _ _ _ _
      | exact ih2 _ _ _ _ _
      | exact impl_DyShift.mono _ _ _ _ _
      | exact laws_eqDy.mono _ _ _ _ _ _ _
      | exact laws_heldDy.mono _ _ _ _ _
      | exact laws_markDy.mono _ _ _ _ _
      | exact laws_toDy.mono _ _ _ _
      | exact spec_DyShift.mono _ _ _ _ _
      | exact LeO.none _
      | refine LeO.ite ?_ ?_
      | refine LeO.bind ?_ (fun _ => ?_)
    · intro y0 y1 y2 y3 y4
      unfold laws_FnExactDyShift.j2
      repeat' first
      | (with_reducible exact ih0 _ _ _ _ _ _ _ _ _ _ _ _ _ _ _ _)
      | (with_reducible exact ih1 _ _ _ _ _ _ _ _ _ _ _ _)
      | (with_reducible exact ih2 _ _ _ _ _)
      | (with_reducible exact impl_DyShift.mono _ _ _ _ _)
      | (with_reducible exact laws_eqDy.mono _ _ _ _ _ _ _)
      | (with_reducible exact laws_heldDy.mono _ _ _ _ _)
      | (with_reducible exact laws_markDy.mono _ _ _ _ _)
      | (with_reducible exact laws_toDy.mono _ _ _ _)
      | (with_reducible exact spec_DyShift.mono _ _ _ _ _)
      | (with_reducible exact LeO.refl _)
      | (with_reducible exact LeO.none _)
      | (with_reducible refine LeO.ite ?_ ?_)
      | (with_reducible refine LeO.bind ?_ (fun _ => ?_))
      | exact ih0 _ _ _ _ _ _ _ _ _ _ _ _ _ _ _ _
      | exact ih1 _ _ _ _ _ _ _ _ _ _ _ _
      | exact ih2 _ _ _ _ _
      | exact impl_DyShift.mono _ _ _ _ _
      | exact laws_eqDy.mono _ _ _ _ _ _ _
      | exact laws_heldDy.mono _ _ _ _ _
      | exact laws_markDy.mono _ _ _ _ _
      | exact laws_toDy.mono _ _ _ _
      | exact spec_DyShift.mono _ _ _ _ _
      | exact LeO.none _
      | refine LeO.ite ?_ ?_
      | refine LeO.bind ?_ (fun _ => ?_)
theorem laws_FnExactDyShift.mono : ∀ a0 a1 a2 a3 k, LeO (laws_FnExactDyShift.f k a0 a1 a2 a3) (laws_FnExactDyShift.f (k + 1) a0 a1 a2 a3) := by
  intro a0 a1 a2 a3 k
  obtain ⟨ih0, ih1, ih2⟩ := laws_FnExactDyShift.mono_l k
  unfold laws_FnExactDyShift.f
  repeat' first
      | (with_reducible exact ih0 _ _ _ _ _ _ _ _ _ _ _ _ _ _ _ _)
      | (with_reducible exact ih1 _ _ _ _ _ _ _ _ _ _ _ _)
      | (with_reducible exact ih2 _ _ _ _ _)
      | (with_reducible exact impl_DyShift.mono _ _ _ _ _)
      | (with_reducible exact laws_eqDy.mono _ _ _ _ _ _ _)
      | (with_reducible exact laws_heldDy.mono _ _ _ _ _)
      | (with_reducible exact laws_markDy.mono _ _ _ _ _)
      | (with_reducible exact laws_toDy.mono _ _ _ _)
      | (with_reducible exact spec_DyShift.mono _ _ _ _ _)
      | (with_reducible exact LeO.refl _)
      | (with_reducible exact LeO.none _)
      | (with_reducible refine LeO.ite ?_ ?_)
      | (with_reducible refine LeO.bind ?_ (fun _ => ?_))
      | exact ih0 _ _ _ _ _ _ _ _ _ _ _ _ _ _ _ _
      | exact ih1 _ _ _ _ _ _ _ _ _ _ _ _
      | exact ih2 _ _ _ _ _
      | exact impl_DyShift.mono _ _ _ _ _
      | exact laws_eqDy.mono _ _ _ _ _ _ _
      | exact laws_heldDy.mono _ _ _ _ _
      | exact laws_markDy.mono _ _ _ _ _
      | exact laws_toDy.mono _ _ _ _
      | exact spec_DyShift.mono _ _ _ _ _
      | exact LeO.none _
      | refine LeO.ite ?_ ?_
      | refine LeO.bind ?_ (fun _ => ?_)
set_option maxHeartbeats 8000000 in
set_option maxRecDepth 100000 in
theorem laws_FnExactDyShift.calls (k : Nat) (a0_0 : Bool) (A0_1 : Option Addr) (c0_1 : Nat) (l0_1 : List Int) (a0_2 : Int) (a1 : Int) (r : Bool) (w : World) (hr0_1 : Kd.C (Kd.int .i64) w A0_1 l0_1.length l0_1) (hc0_1 : l0_1.length ≤ c0_1) (h : laws_FnExactDyShift.f k a0_0 l0_1 a0_2 a1 = some r) (hT : hTab w := by exact hTab_use (by assumption)) :
    Calls Tryd.prog 4 #[.agg #[.bool a0_0, .slice A0_1 l0_1.length c0_1, .int .i64 a0_2], .int .i64 a1] w fun e w' => e = .returned (.bool r) ∧ Below w.heap.size w w' := by
  have HT0 := Aside0.mk hT
  clear hT
  have hu42 := Tryd.underlying42
  have hu30 := Tryd.underlying30
  have HR0_1 := Aside0.mk hr0_1
  have HC0_1 := Aside0.mk hc0_1
  clear hr0_1 hc0_1
  have HB := Aside0.mk (Below.refl w.heap.size w)
  have H : ((laws_szDy.f a0_0 l0_1 a0_2 1048576).bind fun t286 => (if t286 < 0 then (some true) else ((laws_toDy.f k a0_0 l0_1 a0_2).bind fun bt287 => ((spec_DyShift.f k bt287.1 bt287.2.1 bt287.2.2 a1).bind fun bt292 => ((laws_toDy.f k a0_0 l0_1 a0_2).bind fun bt299 => ((impl_DyShift.f k bt299.1 bt299.2.1 bt299.2.2 a1).bind fun bt305 => ((laws_eqDy.f k bt305.1 bt305.2.1 bt305.2.2.1 bt292.1 bt292.2.1 bt292.2.2.1).bind fun t312 => (if t312 = true then (laws_FnExactDyShift.j0 k a1 bt292.2.2.2 bt305.2.2.2 (bt305.2.2.2 != bt292.2.2.2) a0_0 l0_1 a0_2 bt292.1 bt292.2.1 bt292.2.2.1 bt299.1 bt299.2.1 bt299.2.2 bt305.1 bt305.2.1 bt305.2.2.1) else (laws_FnExactDyShift.j0 k a1 bt292.2.2.2 bt305.2.2.2 true a0_0 l0_1 a0_2 bt292.1 bt292.2.1 bt292.2.2.1 bt299.1 bt299.2.1 bt299.2.2 bt305.1 bt305.2.1 bt305.2.2.1))))))))) = some r := h
  clear h
  replace H := Option.bind_eq_some_iff.mp H
  obtain ⟨t286, A30, H⟩ := H
  replace H : (if t286 < 0 then (some true) else ((laws_toDy.f k a0_0 l0_1 a0_2).bind fun bt287 => ((spec_DyShift.f k bt287.1 bt287.2.1 bt287.2.2 a1).bind fun bt292 => ((laws_toDy.f k a0_0 l0_1 a0_2).bind fun bt299 => ((impl_DyShift.f k bt299.1 bt299.2.1 bt299.2.2 a1).bind fun bt305 => ((laws_eqDy.f k bt305.1 bt305.2.1 bt305.2.2.1 bt292.1 bt292.2.1 bt292.2.2.1).bind fun t312 => (if t312 = true then (laws_FnExactDyShift.j0 k a1 bt292.2.2.2 bt305.2.2.2 (bt305.2.2.2 != bt292.2.2.2) a0_0 l0_1 a0_2 bt292.1 bt292.2.1 bt292.2.2.1 bt299.1 bt299.2.1 bt299.2.2 bt305.1 bt305.2.1 bt305.2.2.1) else (laws_FnExactDyShift.j0 k a1 bt292.2.2.2 bt305.2.2.2 true a0_0 l0_1 a0_2 bt292.1 bt292.2.1 bt292.2.2.1 bt299.1 bt299.2.1 bt299.2.2 bt305.1 bt305.2.1 bt305.2.2.1)))))))) = some r := H
  have A3 := Aside0.mk A30
  clear A30
  by_cases c4 : t286 < 0
  · rw [if_pos c4] at H
    have c4b0 : decide (t286 < 0) = true := decide_eq_true c4
    clear c4
    obtain rfl := Option.some.inj H
    go_enter Tryd.func4, Tryd.ntmps4
    go_wp2_with (first | ((with_reducible refine gate_dst (N := 2) rfl ?_); refine box_event ?hg (N := 2) ?hd (cs := #[.bool a0_0, .slice A0_1 l0_1.length c0_1, .int .i64 a0_2]) (t := 42) ?hr ?_; (case hd => rfl); (case hg => rfl); (case hr => first | (go_simp; done) | (go_simp; rfl)); intro gb285 hg w5 hbox hb; have n0_ := Aside0.mk (below_step (hkS HB) hb); have n1_ := Aside0.mk (hbox); have n2_ := hkG hg (hkS HB); have n3_ := hkG hg (hkS HB); clear HB; have HB := n0_; have BK285 := n1_; have GW285 := n2_; have GE285 := n3_; clear n0_ n1_ n2_ n3_; clear hb hbox hg; have hcz6_0 : w5.cell? ⟨gb285, 0, none⟩ = some (.bool a0_0) := (blk_cell BK285.out 0).trans rfl; have hcz6_1 : w5.cell? ⟨gb285, 1, none⟩ = some (.slice A0_1 l0_1.length c0_1) := (blk_cell BK285.out 1).trans rfl; have hcz6_2 : w5.cell? ⟨gb285, 2, none⟩ = some (.int .i64 a0_2) := (blk_cell BK285.out 2).trans rfl; have hfz6_0 := blk_frozen BK285.out 0; have hfz6_1 := blk_frozen BK285.out 1; have hfz6_2 := blk_frozen BK285.out 2) | ((with_reducible refine gate_callee (f := 14) rfl ?_); refine goesL_ (some 18) rfl rfl Tryd.func14 (by kernel_rfl) rfl #[.agg #[.bool a0_0, .slice A0_1 l0_1.length c0_1, .int .i64 a0_2], .int .i64 1048576] rfl hkL ?_; (with_reducible refine (laws_szDy.calls a0_0 _ _ l0_1 a0_2 1048576 t286 _ ?side1 ?side2 A3.out).mono ?_); (case side1 => repeat (first | exact (Kd.C_below HR0_1.out HB.out) | (with_reducible refine Kd.C_alloc ?_ _) | (with_reducible refine Kd.C_drewN ?_ _) | (with_reducible refine Kd.C_drew ?_))); (case side2 => exact HC0_1.out); rintro e w7 ⟨rfl, hb⟩; refine ⟨_, rfl, ?_⟩; have n0_ := hkBb BK285 hb; have n1_ := Aside0.mk (below_step (hkS HB) hb); clear BK285; clear HB; have BK285 := n0_; have HB := n1_; clear n0_ n1_; (try clear hb); (try clear hb2); (try clear hk); (try clear hi)))
    go_ret
    exact ⟨by first | rfl | (simp [errW_none, errW_some] <;> rfl) | (simp [*, errW_none, errW_some] <;> rfl), by repeat (first | (with_reducible first | exact HB.out | apply below_alloc | apply pw_below_drewN | apply below_drew1 | refine below_set ?_ GE285.out) | exact HB.out)⟩
  · rw [if_neg c4] at H
    have c4b0 : decide (t286 < 0) = false := decide_eq_false c4
    clear c4
    replace H := Option.bind_eq_some_iff.mp H
    obtain ⟨⟨t287, t288, t291⟩, A80, H⟩ := H
    replace H : ((spec_DyShift.f k t287 t288 t291 a1).bind fun bt292 => ((laws_toDy.f k a0_0 l0_1 a0_2).bind fun bt299 => ((impl_DyShift.f k bt299.1 bt299.2.1 bt299.2.2 a1).bind fun bt305 => ((laws_eqDy.f k bt305.1 bt305.2.1 bt305.2.2.1 bt292.1 bt292.2.1 bt292.2.2.1).bind fun t312 => (if t312 = true then (laws_FnExactDyShift.j0 k a1 bt292.2.2.2 bt305.2.2.2 (bt305.2.2.2 != bt292.2.2.2) a0_0 l0_1 a0_2 bt292.1 bt292.2.1 bt292.2.2.1 bt299.1 bt299.2.1 bt299.2.2 bt305.1 bt305.2.1 bt305.2.2.1) else (laws_FnExactDyShift.j0 k a1 bt292.2.2.2 bt305.2.2.2 true a0_0 l0_1 a0_2 bt292.1 bt292.2.1 bt292.2.2.1 bt299.1 bt299.2.1 bt299.2.2 bt305.1 bt305.2.1 bt305.2.2.1)))))) = some r := H
    have A8 := Aside0.mk A80
    clear A80
    replace H := Option.bind_eq_some_iff.mp H
    obtain ⟨⟨t292, t293, t296, t297⟩, A90, H⟩ := H
    replace H : ((laws_toDy.f k a0_0 l0_1 a0_2).bind fun bt299 => ((impl_DyShift.f k bt299.1 bt299.2.1 bt299.2.2 a1).bind fun bt305 => ((laws_eqDy.f k bt305.1 bt305.2.1 bt305.2.2.1 t292 t293 t296).bind fun t312 => (if t312 = true then (laws_FnExactDyShift.j0 k a1 t297 bt305.2.2.2 (bt305.2.2.2 != t297) a0_0 l0_1 a0_2 t292 t293 t296 bt299.1 bt299.2.1 bt299.2.2 bt305.1 bt305.2.1 bt305.2.2.1) else (laws_FnExactDyShift.j0 k a1 t297 bt305.2.2.2 true a0_0 l0_1 a0_2 t292 t293 t296 bt299.1 bt299.2.1 bt299.2.2 bt305.1 bt305.2.1 bt305.2.2.1))))) = some r := H
    have A9 := Aside0.mk A90
    clear A90
    replace H := Option.bind_eq_some_iff.mp H
    obtain ⟨⟨t299, t300, t303⟩, A100, H⟩ := H
    replace H : ((impl_DyShift.f k t299 t300 t303 a1).bind fun bt305 => ((laws_eqDy.f k bt305.1 bt305.2.1 bt305.2.2.1 t292 t293 t296).bind fun t312 => (if t312 = true then (laws_FnExactDyShift.j0 k a1 t297 bt305.2.2.2 (bt305.2.2.2 != t297) a0_0 l0_1 a0_2 t292 t293 t296 t299 t300 t303 bt305.1 bt305.2.1 bt305.2.2.1) else (laws_FnExactDyShift.j0 k a1 t297 bt305.2.2.2 true a0_0 l0_1 a0_2 t292 t293 t296 t299 t300 t303 bt305.1 bt305.2.1 bt305.2.2.1)))) = some r := H
    have A10 := Aside0.mk A100
    clear A100
    replace H := Option.bind_eq_some_iff.mp H
    obtain ⟨⟨t305, t306, t309, t310⟩, A110, H⟩ := H
    replace H : ((laws_eqDy.f k t305 t306 t309 t292 t293 t296).bind fun t312 => (if t312 = true then (laws_FnExactDyShift.j0 k a1 t297 t310 (t310 != t297) a0_0 l0_1 a0_2 t292 t293 t296 t299 t300 t303 t305 t306 t309) else (laws_FnExactDyShift.j0 k a1 t297 t310 true a0_0 l0_1 a0_2 t292 t293 t296 t299 t300 t303 t305 t306 t309))) = some r := H
    have A11 := Aside0.mk A110
    clear A110
    have HC12 := Aside0.mk H
    clear H
    go_enter Tryd.func4, Tryd.ntmps4
    go_upto_region 8 with (first | ((with_reducible refine gate_dst (N := 2) rfl ?_); refine box_event ?hg (N := 2) ?hd (cs := #[.bool a0_0, .slice A0_1 l0_1.length c0_1, .int .i64 a0_2]) (t := 42) ?hr ?_; (case hd => rfl); (case hg => rfl); (case hr => first | (go_simp; done) | (go_simp; rfl)); intro gb285 hg w13 hbox hb; have n0_ := Aside0.mk (below_step (hkS HB) hb); have n1_ := Aside0.mk (hbox); have n2_ := hkG hg (hkS HB); have n3_ := hkG hg (hkS HB); clear HB; have HB := n0_; have BK285 := n1_; have GW285 := n2_; have GE285 := n3_; clear n0_ n1_ n2_ n3_; clear hb hbox hg; have hcz14_0 : w13.cell? ⟨gb285, 0, none⟩ = some (.bool a0_0) := (blk_cell BK285.out 0).trans rfl; have hcz14_1 : w13.cell? ⟨gb285, 1, none⟩ = some (.slice A0_1 l0_1.length c0_1) := (blk_cell BK285.out 1).trans rfl; have hcz14_2 : w13.cell? ⟨gb285, 2, none⟩ = some (.int .i64 a0_2) := (blk_cell BK285.out 2).trans rfl; have hfz14_0 := blk_frozen BK285.out 0; have hfz14_1 := blk_frozen BK285.out 1; have hfz14_2 := blk_frozen BK285.out 2) | ((with_reducible refine gate_callee (f := 14) rfl ?_); refine goesL_ (some 18) rfl rfl Tryd.func14 (by kernel_rfl) rfl #[.agg #[.bool a0_0, .slice A0_1 l0_1.length c0_1, .int .i64 a0_2], .int .i64 1048576] rfl hkL ?_; (with_reducible refine (laws_szDy.calls a0_0 _ _ l0_1 a0_2 1048576 t286 _ ?side1 ?side2 A3.out).mono ?_); (case side1 => repeat (first | exact (Kd.C_below HR0_1.out HB.out) | (with_reducible refine Kd.C_alloc ?_ _) | (with_reducible refine Kd.C_drewN ?_ _) | (with_reducible refine Kd.C_drew ?_))); (case side2 => exact HC0_1.out); rintro e w15 ⟨rfl, hb⟩; refine ⟨_, rfl, ?_⟩; have n0_ := hkBb BK285 hb; have n1_ := Aside0.mk (below_step (hkS HB) hb); clear BK285; clear HB; have BK285 := n0_; have HB := n1_; clear n0_ n1_; (try clear hb); (try clear hb2); (try clear hk); (try clear hi); have hcz16_0 : w15.cell? ⟨gb285, 0, none⟩ = some (.bool a0_0) := (blk_cell BK285.out 0).trans rfl; have hcz16_1 : w15.cell? ⟨gb285, 1, none⟩ = some (.slice A0_1 l0_1.length c0_1) := (blk_cell BK285.out 1).trans rfl; have hcz16_2 : w15.cell? ⟨gb285, 2, none⟩ = some (.int .i64 a0_2) := (blk_cell BK285.out 2).trans rfl; have hfz16_0 := blk_frozen BK285.out 0; have hfz16_1 := blk_frozen BK285.out 1; have hfz16_2 := blk_frozen BK285.out 2) | ((with_reducible refine gate_callee (f := 16) rfl ?_); refine goesL_ (some 23) rfl rfl Tryd.func16 (by kernel_rfl) rfl #[.agg #[.bool a0_0, .slice A0_1 l0_1.length c0_1, .int .i64 a0_2]] rfl hkL ?_; (with_reducible refine (laws_toDy.calls k a0_0 _ _ l0_1 a0_2 t287 t288 t291 _ ?side1 ?side2 A8.out).mono ?_); (case side1 => repeat (first | exact (Kd.C_below HR0_1.out HB.out) | (with_reducible refine Kd.C_alloc ?_ _) | (with_reducible refine Kd.C_drewN ?_ _) | (with_reducible refine Kd.C_drew ?_))); (case side2 => exact HC0_1.out); rintro e w17 ⟨v289, rfl, ho0, hb⟩; refine ⟨_, rfl, ?_⟩; have n0_ := Aside0.mk (Kd.R_lower ho0 (below_size (hkS HB))); have n1_ := hkBb BK285 hb; have n2_ := Aside0.mk (below_step (hkS HB) hb); clear BK285; clear HB; have HO290 := n0_; have BK285 := n1_; have HB := n2_; clear n0_ n1_ n2_; (try clear hb); (try clear hb2); (try clear hk); (try clear hi); (try clear ho0); obtain ⟨Ao18, co18, eo18⟩ := Kd.R_slice HO290.out; subst eo18) | ((with_reducible refine gate_callee (f := 15) rfl ?_); refine goesL_ (some 25) rfl rfl Tryd.func15 (by kernel_rfl) rfl #[.agg #[.bool t287, .slice Ao18 t288.length co18, .int .i64 t291], .int .i64 a1] rfl hkL ?_; (with_reducible refine (spec_DyShift.calls k t287 _ _ t288 t291 a1 t292 t293 t296 t297 _ ?side1 ?side2 A9.out).mono ?_); (case side1 => repeat (first | exact (Kd.R_reads' HO290.out).2.2 | (with_reducible refine Kd.C_alloc ?_ _) | (with_reducible refine Kd.C_drewN ?_ _) | (with_reducible refine Kd.C_drew ?_))); (case side2 => exact (Kd.R_reads' HO290.out).2.1); rintro e w19 ⟨v294, rfl, ho0, hb⟩; refine ⟨_, rfl, ?_⟩; have n0_ := Aside0.mk (Kd.R_elder' (hkR HO290) (Kd.R_base ho0) hb); have n1_ := Aside0.mk (Kd.R_lower (Kd.R_new' ho0 (Kd.R_lt (hkR HO290))) (below_size (hkS HB))); have n2_ := hkBb BK285 hb; have n3_ := Aside0.mk (below_step (hkS HB) hb); clear HO290; clear BK285; clear HB; have HO290 := n0_; have HO295 := n1_; have BK285 := n2_; have HB := n3_; clear n0_ n1_ n2_ n3_; (try clear hb); (try clear hb2); (try clear hk); (try clear hi); (try clear ho0)) | ((with_reducible refine gate_dst (N := 6) rfl ?_); refine box_event ?hg (N := 6) ?hd (cs := #[.bool false, .slice none 0 0, .int .i64 0]) (t := 30) ?hr ?_; (case hd => rfl); (case hg => rfl); (case hr => first | (go_simp; done) | (go_simp; rfl)); intro gb298 hg w20 hbox hb; have n0_ := hkRb HO290 hb; have n1_ := hkRb HO295 hb; have n2_ := hkBb BK285 hb; have n3_ := Aside0.mk (below_step (hkS HB) hb); have n4_ := Aside0.mk (hbox); have n5_ := hkG hg (hkS HB); have n6_ := hkG hg (hkS HB); have n7_ := hkN hg BK285; have n8_ := hkM hg BK285; clear HO290; clear HO295; clear BK285; clear HB; have HO290 := n0_; have HO295 := n1_; have BK285 := n2_; have HB := n3_; have BK298 := n4_; have GW298 := n5_; have GE298 := n6_; have NB285_298 := n7_; have NB298_285 := n8_; clear n0_ n1_ n2_ n3_ n4_ n5_ n6_ n7_ n8_; clear hb hbox hg; have hnb21 := NB298_285.out; have hnc21 := NB285_298.out; have hcz22_0 : w20.cell? ⟨gb298, 0, none⟩ = some (.bool false) := (blk_cell BK298.out 0).trans rfl; have hcz22_1 : w20.cell? ⟨gb298, 1, none⟩ = some (.slice none 0 0) := (blk_cell BK298.out 1).trans rfl; have hcz22_2 : w20.cell? ⟨gb298, 2, none⟩ = some (.int .i64 0) := (blk_cell BK298.out 2).trans rfl; have hfz22_0 := blk_frozen BK298.out 0; have hfz22_1 := blk_frozen BK298.out 1; have hfz22_2 := blk_frozen BK298.out 2; obtain ⟨Ao23, co23, eo23⟩ := Kd.R_slice HO295.out; subst eo23; have hcz24_0 : w20.cell? ⟨gb285, 0, none⟩ = some (.bool a0_0) := (blk_cell BK285.out 0).trans rfl; have hcz24_1 : w20.cell? ⟨gb285, 1, none⟩ = some (.slice A0_1 l0_1.length c0_1) := (blk_cell BK285.out 1).trans rfl; have hcz24_2 : w20.cell? ⟨gb285, 2, none⟩ = some (.int .i64 a0_2) := (blk_cell BK285.out 2).trans rfl; have hfz24_0 := blk_frozen BK285.out 0; have hfz24_1 := blk_frozen BK285.out 1; have hfz24_2 := blk_frozen BK285.out 2) | ((with_reducible refine gate_callee (f := 16) rfl ?_); refine goesL_ (some 29) rfl rfl Tryd.func16 (by kernel_rfl) rfl #[.agg #[.bool a0_0, .slice A0_1 l0_1.length c0_1, .int .i64 a0_2]] rfl hkL ?_; (with_reducible refine (laws_toDy.calls k a0_0 _ _ l0_1 a0_2 t299 t300 t303 _ ?side1 ?side2 A10.out).mono ?_); (case side1 => exact Kd.C_below HR0_1.out (hkS HB)); (case side2 => exact HC0_1.out); rintro e w25 ⟨v301, rfl, ho0, hb⟩; refine ⟨_, rfl, ?_⟩; have n0_ := Aside0.mk (Kd.R_elder' (by (with_reducible repeat (first | apply Kd.R_alloc | apply Kd.R_drewN | apply Kd.R_drew)); exact (Kd.R_mono (Kd.R_far (p := ⟨gb298, 2, none⟩) (Kd.R_far (p := ⟨gb298, 1, none⟩) (Kd.R_far (p := ⟨gb298, 0, none⟩) (Kd.R_types HO290.out BK298.out (by decide)) (fun _ hk => hk.2) (.bool t292)) (fun _ hk => hk.2) (.slice Ao23 t293.length co23)) (fun _ hk => hk.2) (.int .i64 t296)) (fun _ h_ => h_.1))) (Kd.R_base ho0) hb); have n1_ := Aside0.mk (Kd.R_elder' (by (with_reducible repeat (first | apply Kd.R_alloc | apply Kd.R_drewN | apply Kd.R_drew)); exact (Kd.R_mono (Kd.R_far (p := ⟨gb298, 2, none⟩) (Kd.R_far (p := ⟨gb298, 1, none⟩) (Kd.R_far (p := ⟨gb298, 0, none⟩) (Kd.R_types HO295.out BK298.out (by decide)) (fun _ hk => hk.2) (.bool t292)) (fun _ hk => hk.2) (.slice Ao23 t293.length co23)) (fun _ hk => hk.2) (.int .i64 t296)) (fun _ h_ => h_.1))) (Kd.R_base ho0) hb); have n2_ := Aside0.mk (Kd.R_lower (Kd.R_new' (Kd.R_new' ho0 (Kd.R_lt (by (with_reducible repeat (first | apply Kd.R_alloc | apply Kd.R_drewN | apply Kd.R_drew)); exact (Kd.R_mono (Kd.R_far (p := ⟨gb298, 2, none⟩) (Kd.R_far (p := ⟨gb298, 1, none⟩) (Kd.R_far (p := ⟨gb298, 0, none⟩) (Kd.R_types HO290.out BK298.out (by decide)) (fun _ hk => hk.2) (.bool t292)) (fun _ hk => hk.2) (.slice Ao23 t293.length co23)) (fun _ hk => hk.2) (.int .i64 t296)) (fun _ h_ => h_.1))))) (Kd.R_lt (by (with_reducible repeat (first | apply Kd.R_alloc | apply Kd.R_drewN | apply Kd.R_drew)); exact (Kd.R_mono (Kd.R_far (p := ⟨gb298, 2, none⟩) (Kd.R_far (p := ⟨gb298, 1, none⟩) (Kd.R_far (p := ⟨gb298, 0, none⟩) (Kd.R_types HO295.out BK298.out (by decide)) (fun _ hk => hk.2) (.bool t292)) (fun _ hk => hk.2) (.slice Ao23 t293.length co23)) (fun _ hk => hk.2) (.int .i64 t296)) (fun _ h_ => h_.1))))) (below_size (hkS HB))); have n3_ := Aside0.mk (blk_below (g := gb285) (o := .cells #[.bool a0_0, .slice A0_1 l0_1.length c0_1, .int .i64 a0_2] 42 (0, 0)) (by (with_reducible repeat (first | refine blk_drewN ?_ _ | refine blk_drew ?_ | refine blk_alloc ?_ _)); refine blk_far ?_ NB285_298.out _; (with_reducible repeat (first | refine blk_drewN ?_ _ | refine blk_drew ?_ | refine blk_alloc ?_ _)); refine blk_far ?_ NB285_298.out _; (with_reducible repeat (first | refine blk_drewN ?_ _ | refine blk_drew ?_ | refine blk_alloc ?_ _)); refine blk_far ?_ NB285_298.out _; (with_reducible repeat (first | refine blk_drewN ?_ _ | refine blk_drew ?_ | refine blk_alloc ?_ _)); exact BK285.out) hb); have n4_ := Aside0.mk (blk_below (g := gb298) (o := .cells #[.bool t292, .slice Ao23 t293.length co23, .int .i64 t296] 30 (0, 0)) (by (with_reducible repeat (first | refine blk_drewN ?_ _ | refine blk_drew ?_ | refine blk_alloc ?_ _)); refine blk_put (cs := #[.bool t292, .slice Ao23 t293.length co23, .int .i64 0]) ?_ 2 _ rfl; (with_reducible repeat (first | refine blk_drewN ?_ _ | refine blk_drew ?_ | refine blk_alloc ?_ _)); refine blk_put (cs := #[.bool t292, .slice none 0 0, .int .i64 0]) ?_ 1 _ rfl; (with_reducible repeat (first | refine blk_drewN ?_ _ | refine blk_drew ?_ | refine blk_alloc ?_ _)); refine blk_put (cs := #[.bool false, .slice none 0 0, .int .i64 0]) ?_ 0 _ rfl; (with_reducible repeat (first | refine blk_drewN ?_ _ | refine blk_drew ?_ | refine blk_alloc ?_ _)); exact BK298.out) hb); have n5_ := Aside0.mk (below_step (hkS HB) hb); clear HO290; clear HO295; clear BK285; clear BK298; clear HB; have HO290 := n0_; have HO295 := n1_; have HO302 := n2_; have BK285 := n3_; have BK298 := n4_; have HB := n5_; clear n0_ n1_ n2_ n3_ n4_ n5_; (try clear hb); (try clear hb2); (try clear hk); (try clear hi); (try clear ho0)) | ((with_reducible refine gate_dst (N := 8) rfl ?_); refine box_event ?hg (N := 8) ?hd (cs := #[.bool false, .slice none 0 0, .int .i64 0]) (t := 30) ?hr ?_; (case hd => rfl); (case hg => rfl); (case hr => first | (go_simp; done) | (go_simp; rfl)); intro gb304 hg w26 hbox hb; have n0_ := hkRb HO290 hb; have n1_ := hkRb HO295 hb; have n2_ := hkRb HO302 hb; have n3_ := hkBb BK285 hb; have n4_ := hkBb BK298 hb; have n5_ := Aside0.mk (below_step (hkS HB) hb); have n6_ := Aside0.mk (hbox); have n7_ := hkG hg (hkS HB); have n8_ := hkG hg (hkS HB); have n9_ := hkN hg BK285; have n10_ := hkM hg BK285; have n11_ := hkN hg BK298; have n12_ := hkM hg BK298; clear HO290; clear HO295; clear HO302; clear BK285; clear BK298; clear HB; have HO290 := n0_; have HO295 := n1_; have HO302 := n2_; have BK285 := n3_; have BK298 := n4_; have HB := n5_; have BK304 := n6_; have GW304 := n7_; have GE304 := n8_; have NB285_304 := n9_; have NB304_285 := n10_; have NB298_304 := n11_; have NB304_298 := n12_; clear n0_ n1_ n2_ n3_ n4_ n5_ n6_ n7_ n8_ n9_ n10_ n11_ n12_; clear hb hbox hg; have hnb27 := NB304_285.out; have hnc27 := NB285_304.out; have hnb28 := NB304_298.out; have hnc28 := NB298_304.out; have hcz29_0 : w26.cell? ⟨gb304, 0, none⟩ = some (.bool false) := (blk_cell BK304.out 0).trans rfl; have hcz29_1 : w26.cell? ⟨gb304, 1, none⟩ = some (.slice none 0 0) := (blk_cell BK304.out 1).trans rfl; have hcz29_2 : w26.cell? ⟨gb304, 2, none⟩ = some (.int .i64 0) := (blk_cell BK304.out 2).trans rfl; have hfz29_0 := blk_frozen BK304.out 0; have hfz29_1 := blk_frozen BK304.out 1; have hfz29_2 := blk_frozen BK304.out 2; obtain ⟨Ao30, co30, eo30⟩ := Kd.R_slice HO302.out; subst eo30) | ((with_reducible refine gate_callee (f := 17) rfl ?_); refine goesL_ (some 33) rfl rfl Tryd.func17 (by kernel_rfl) rfl #[.agg #[.bool t299, .slice Ao30 t300.length co30, .int .i64 t303], .int .i64 a1] rfl hkL ?_; (with_reducible refine (impl_DyShift.calls k t299 _ _ t300 t303 a1 t305 t306 t309 t310 _ ?side1 ?side2 A11.out).mono ?_); (case side1 => refine (Kd.R_reads' (e := 3) (base := w.heap.size) (ok := fun k_ => ((True ∧ some k_ ≠ (.slice Ao18 t288.length co18 : Value).ownBlock) ∧ some k_ ≠ (.slice Ao23 t293.length co23 : Value).ownBlock)) (n := t300.length) (c := co30) ?_).2.2; exact (by (with_reducible repeat (first | apply Kd.R_alloc | apply Kd.R_drewN | apply Kd.R_drew)); exact (Kd.R_mono (Kd.R_far (p := ⟨gb304, 2, none⟩) (Kd.R_far (p := ⟨gb304, 1, none⟩) (Kd.R_far (p := ⟨gb304, 0, none⟩) (Kd.R_types HO302.out BK304.out (by decide)) (fun _ hk => hk.2) (.bool t299)) (fun _ hk => hk.2) (.slice Ao30 t300.length co30)) (fun _ hk => hk.2) (.int .i64 t303)) (fun _ h_ => h_.1)))); (case side2 => exact (Kd.R_reads' HO302.out).2.1); rintro e w31 ⟨v307, rfl, ho0, hb⟩; refine ⟨_, rfl, ?_⟩; have n0_ := Aside0.mk (Kd.R_elder' (by (with_reducible repeat (first | apply Kd.R_alloc | apply Kd.R_drewN | apply Kd.R_drew)); exact (Kd.R_mono (Kd.R_far (p := ⟨gb304, 2, none⟩) (Kd.R_far (p := ⟨gb304, 1, none⟩) (Kd.R_far (p := ⟨gb304, 0, none⟩) (Kd.R_types HO290.out BK304.out (by decide)) (fun _ hk => hk.2) (.bool t299)) (fun _ hk => hk.2) (.slice Ao30 t300.length co30)) (fun _ hk => hk.2) (.int .i64 t303)) (fun _ h_ => h_.1))) (Kd.R_base ho0) hb); have n1_ := Aside0.mk (Kd.R_elder' (by (with_reducible repeat (first | apply Kd.R_alloc | apply Kd.R_drewN | apply Kd.R_drew)); exact (Kd.R_mono (Kd.R_far (p := ⟨gb304, 2, none⟩) (Kd.R_far (p := ⟨gb304, 1, none⟩) (Kd.R_far (p := ⟨gb304, 0, none⟩) (Kd.R_types HO295.out BK304.out (by decide)) (fun _ hk => hk.2) (.bool t299)) (fun _ hk => hk.2) (.slice Ao30 t300.length co30)) (fun _ hk => hk.2) (.int .i64 t303)) (fun _ h_ => h_.1))) (Kd.R_base ho0) hb); have n2_ := Aside0.mk (Kd.R_elder' (by (with_reducible repeat (first | apply Kd.R_alloc | apply Kd.R_drewN | apply Kd.R_drew)); exact (Kd.R_mono (Kd.R_far (p := ⟨gb304, 2, none⟩) (Kd.R_far (p := ⟨gb304, 1, none⟩) (Kd.R_far (p := ⟨gb304, 0, none⟩) (Kd.R_types HO302.out BK304.out (by decide)) (fun _ hk => hk.2) (.bool t299)) (fun _ hk => hk.2) (.slice Ao30 t300.length co30)) (fun _ hk => hk.2) (.int .i64 t303)) (fun _ h_ => h_.1))) (Kd.R_base ho0) hb); have n3_ := Aside0.mk (Kd.R_lower (Kd.R_new' (Kd.R_new' (Kd.R_new' ho0 (Kd.R_lt (by (with_reducible repeat (first | apply Kd.R_alloc | apply Kd.R_drewN | apply Kd.R_drew)); exact (Kd.R_mono (Kd.R_far (p := ⟨gb304, 2, none⟩) (Kd.R_far (p := ⟨gb304, 1, none⟩) (Kd.R_far (p := ⟨gb304, 0, none⟩) (Kd.R_types HO290.out BK304.out (by decide)) (fun _ hk => hk.2) (.bool t299)) (fun _ hk => hk.2) (.slice Ao30 t300.length co30)) (fun _ hk => hk.2) (.int .i64 t303)) (fun _ h_ => h_.1))))) (Kd.R_lt (by (with_reducible repeat (first | apply Kd.R_alloc | apply Kd.R_drewN | apply Kd.R_drew)); exact (Kd.R_mono (Kd.R_far (p := ⟨gb304, 2, none⟩) (Kd.R_far (p := ⟨gb304, 1, none⟩) (Kd.R_far (p := ⟨gb304, 0, none⟩) (Kd.R_types HO295.out BK304.out (by decide)) (fun _ hk => hk.2) (.bool t299)) (fun _ hk => hk.2) (.slice Ao30 t300.length co30)) (fun _ hk => hk.2) (.int .i64 t303)) (fun _ h_ => h_.1))))) (Kd.R_lt (by (with_reducible repeat (first | apply Kd.R_alloc | apply Kd.R_drewN | apply Kd.R_drew)); exact (Kd.R_mono (Kd.R_far (p := ⟨gb304, 2, none⟩) (Kd.R_far (p := ⟨gb304, 1, none⟩) (Kd.R_far (p := ⟨gb304, 0, none⟩) (Kd.R_types HO302.out BK304.out (by decide)) (fun _ hk => hk.2) (.bool t299)) (fun _ hk => hk.2) (.slice Ao30 t300.length co30)) (fun _ hk => hk.2) (.int .i64 t303)) (fun _ h_ => h_.1))))) (below_size (hkS HB))); have n4_ := Aside0.mk (blk_below (g := gb285) (o := .cells #[.bool a0_0, .slice A0_1 l0_1.length c0_1, .int .i64 a0_2] 42 (0, 0)) (by (with_reducible repeat (first | refine blk_drewN ?_ _ | refine blk_drew ?_ | refine blk_alloc ?_ _)); refine blk_far ?_ NB285_304.out _; (with_reducible repeat (first | refine blk_drewN ?_ _ | refine blk_drew ?_ | refine blk_alloc ?_ _)); refine blk_far ?_ NB285_304.out _; (with_reducible repeat (first | refine blk_drewN ?_ _ | refine blk_drew ?_ | refine blk_alloc ?_ _)); refine blk_far ?_ NB285_304.out _; (with_reducible repeat (first | refine blk_drewN ?_ _ | refine blk_drew ?_ | refine blk_alloc ?_ _)); exact BK285.out) hb); have n5_ := Aside0.mk (blk_below (g := gb298) (o := .cells #[.bool t292, .slice Ao23 t293.length co23, .int .i64 t296] 30 (0, 0)) (by (with_reducible repeat (first | refine blk_drewN ?_ _ | refine blk_drew ?_ | refine blk_alloc ?_ _)); refine blk_far ?_ NB298_304.out _; (with_reducible repeat (first | refine blk_drewN ?_ _ | refine blk_drew ?_ | refine blk_alloc ?_ _)); refine blk_far ?_ NB298_304.out _; (with_reducible repeat (first | refine blk_drewN ?_ _ | refine blk_drew ?_ | refine blk_alloc ?_ _)); refine blk_far ?_ NB298_304.out _; (with_reducible repeat (first | refine blk_drewN ?_ _ | refine blk_drew ?_ | refine blk_alloc ?_ _)); exact BK298.out) hb); have n6_ := Aside0.mk (blk_below (g := gb304) (o := .cells #[.bool t299, .slice Ao30 t300.length co30, .int .i64 t303] 30 (0, 0)) (by (with_reducible repeat (first | refine blk_drewN ?_ _ | refine blk_drew ?_ | refine blk_alloc ?_ _)); refine blk_put (cs := #[.bool t299, .slice Ao30 t300.length co30, .int .i64 0]) ?_ 2 _ rfl; (with_reducible repeat (first | refine blk_drewN ?_ _ | refine blk_drew ?_ | refine blk_alloc ?_ _)); refine blk_put (cs := #[.bool t299, .slice none 0 0, .int .i64 0]) ?_ 1 _ rfl; (with_reducible repeat (first | refine blk_drewN ?_ _ | refine blk_drew ?_ | refine blk_alloc ?_ _)); refine blk_put (cs := #[.bool false, .slice none 0 0, .int .i64 0]) ?_ 0 _ rfl; (with_reducible repeat (first | refine blk_drewN ?_ _ | refine blk_drew ?_ | refine blk_alloc ?_ _)); exact BK304.out) hb); have n7_ := Aside0.mk (below_step (hkS HB) hb); clear HO290; clear HO295; clear HO302; clear BK285; clear BK298; clear BK304; clear HB; have HO290 := n0_; have HO295 := n1_; have HO302 := n2_; have HO308 := n3_; have BK285 := n4_; have BK298 := n5_; have BK304 := n6_; have HB := n7_; clear n0_ n1_ n2_ n3_ n4_ n5_ n6_ n7_; (try clear hb); (try clear hb2); (try clear hk); (try clear hi); (try clear ho0)) | ((with_reducible refine gate_dst (N := 9) rfl ?_); refine box_event ?hg (N := 9) ?hd (cs := #[.bool false, .slice none 0 0, .int .i64 0]) (t := 30) ?hr ?_; (case hd => rfl); (case hg => rfl); (case hr => first | (go_simp; done) | (go_simp; rfl)); intro gb311 hg w32 hbox hb; have n0_ := hkRb HO290 hb; have n1_ := hkRb HO295 hb; have n2_ := hkRb HO302 hb; have n3_ := hkRb HO308 hb; have n4_ := hkBb BK285 hb; have n5_ := hkBb BK298 hb; have n6_ := hkBb BK304 hb; have n7_ := Aside0.mk (below_step (hkS HB) hb); have n8_ := Aside0.mk (hbox); have n9_ := hkG hg (hkS HB); have n10_ := hkG hg (hkS HB); have n11_ := hkN hg BK285; have n12_ := hkM hg BK285; have n13_ := hkN hg BK298; have n14_ := hkM hg BK298; have n15_ := hkN hg BK304; have n16_ := hkM hg BK304; clear HO290; clear HO295; clear HO302; clear HO308; clear BK285; clear BK298; clear BK304; clear HB; have HO290 := n0_; have HO295 := n1_; have HO302 := n2_; have HO308 := n3_; have BK285 := n4_; have BK298 := n5_; have BK304 := n6_; have HB := n7_; have BK311 := n8_; have GW311 := n9_; have GE311 := n10_; have NB285_311 := n11_; have NB311_285 := n12_; have NB298_311 := n13_; have NB311_298 := n14_; have NB304_311 := n15_; have NB311_304 := n16_; clear n0_ n1_ n2_ n3_ n4_ n5_ n6_ n7_ n8_ n9_ n10_ n11_ n12_ n13_ n14_ n15_ n16_; clear hb hbox hg; have hnb33 := NB311_285.out; have hnc33 := NB285_311.out; have hnb34 := NB311_298.out; have hnc34 := NB298_311.out; have hnb35 := NB311_304.out; have hnc35 := NB304_311.out; have hcz36_0 : w32.cell? ⟨gb311, 0, none⟩ = some (.bool false) := (blk_cell BK311.out 0).trans rfl; have hcz36_1 : w32.cell? ⟨gb311, 1, none⟩ = some (.slice none 0 0) := (blk_cell BK311.out 1).trans rfl; have hcz36_2 : w32.cell? ⟨gb311, 2, none⟩ = some (.int .i64 0) := (blk_cell BK311.out 2).trans rfl; have hfz36_0 := blk_frozen BK311.out 0; have hfz36_1 := blk_frozen BK311.out 1; have hfz36_2 := blk_frozen BK311.out 2; obtain ⟨Ao37, co37, eo37⟩ := Kd.R_slice HO308.out; subst eo37))
    (try simp only [Act.put, List.setIfInBounds_toArray, List.set_cons_zero, List.set_cons_succ])
    go_cut [44] (fun v44 wc => ∃ (kq : Nat) (x44_11 : Bool), v44 = .bool x44_11 ∧ Aside0 (laws_FnExactDyShift.j0 kq a1 t297 t310 x44_11 a0_0 l0_1 a0_2 t292 t293 t296 t299 t300 t303 t305 t306 t309 = some r) ∧ Aside0 (kq ≤ k) ∧ Aside0 (Kd.R (Kd.int .i64) 3 wc w.heap.size (fun k_ => some k_ ≠ ((.slice Ao30 t300.length co30) : Value).ownBlock ∧ some k_ ≠ ((.slice Ao37 t306.length co37) : Value).ownBlock) (.slice Ao23 t293.length co23) t293) ∧ Aside0 (Kd.R (Kd.int .i64) 3 wc w.heap.size (fun k_ => some k_ ≠ ((.slice Ao23 t293.length co23) : Value).ownBlock ∧ some k_ ≠ ((.slice Ao37 t306.length co37) : Value).ownBlock) (.slice Ao30 t300.length co30) t300) ∧ Aside0 (Kd.R (Kd.int .i64) 3 wc w.heap.size (fun k_ => some k_ ≠ ((.slice Ao23 t293.length co23) : Value).ownBlock ∧ some k_ ≠ ((.slice Ao30 t300.length co30) : Value).ownBlock) (.slice Ao37 t306.length co37) t306) ∧ Aside0 (wc.heap[gb285]? = some (.cells #[.bool a0_0, (.slice A0_1 l0_1.length c0_1), .int .i64 a0_2] 42 (0, 0))) ∧ Aside0 (wc.heap[gb298]? = some (.cells #[.bool t292, (.slice Ao23 t293.length co23), .int .i64 t296] 30 (0, 0))) ∧ Aside0 (wc.heap[gb304]? = some (.cells #[.bool t299, (.slice Ao30 t300.length co30), .int .i64 t303] 30 (0, 0))) ∧ Aside0 (wc.heap[gb311]? = some (.cells #[.bool t305, (.slice Ao37 t306.length co37), .int .i64 t309] 30 (0, 0))) ∧ Aside0 (Below w.heap.size w wc))
    case first =>
      have H := HC12.out
      clear HC12
      replace H := Option.bind_eq_some_iff.mp H
      obtain ⟨t312, A380, H⟩ := H
      replace H : (if t312 = true then (laws_FnExactDyShift.j0 k a1 t297 t310 (t310 != t297) a0_0 l0_1 a0_2 t292 t293 t296 t299 t300 t303 t305 t306 t309) else (laws_FnExactDyShift.j0 k a1 t297 t310 true a0_0 l0_1 a0_2 t292 t293 t296 t299 t300 t303 t305 t306 t309)) = some r := H
      have A38 := Aside0.mk A380
      clear A380
      by_cases c39 : t312 = true
      · subst c39
        have H1 : (laws_FnExactDyShift.j0 k a1 t297 t310 (t310 != t297) a0_0 l0_1 a0_2 t292 t293 t296 t299 t300 t303 t305 t306 t309) = some r := by rw [if_pos rfl] at H; exact H
        clear H
        have H := H1
        clear H1
        have H' := Aside0.mk H
        clear H
        have hnb40 := NB311_285.out
        have hnc40 := NB285_311.out
        have hnb41 := NB311_298.out
        have hnc41 := NB298_311.out
        have hnb42 := NB311_304.out
        have hnc42 := NB304_311.out
        have hcz43_0 : w32.cell? ⟨gb311, 0, none⟩ = some (.bool false) := (blk_cell BK311.out 0).trans rfl
        have hcz43_1 : w32.cell? ⟨gb311, 1, none⟩ = some (.slice none 0 0) := (blk_cell BK311.out 1).trans rfl
        have hcz43_2 : w32.cell? ⟨gb311, 2, none⟩ = some (.int .i64 0) := (blk_cell BK311.out 2).trans rfl
        have hfz43_0 := blk_frozen BK311.out 0
        have hfz43_1 := blk_frozen BK311.out 1
        have hfz43_2 := blk_frozen BK311.out 2
        have hnb44 := NB298_285.out
        have hnc44 := NB285_298.out
        have hnb45 := NB298_304.out
        have hnc45 := NB304_298.out
        have hcz46_0 : w32.cell? ⟨gb298, 0, none⟩ = some (.bool t292) := (blk_cell BK298.out 0).trans rfl
        have hcz46_1 : w32.cell? ⟨gb298, 1, none⟩ = some (.slice Ao23 t293.length co23) := (blk_cell BK298.out 1).trans rfl
        have hcz46_2 : w32.cell? ⟨gb298, 2, none⟩ = some (.int .i64 t296) := (blk_cell BK298.out 2).trans rfl
        have hfz46_0 := blk_frozen BK298.out 0
        have hfz46_1 := blk_frozen BK298.out 1
        have hfz46_2 := blk_frozen BK298.out 2
        go_wp2_with (first | ((with_reducible refine gate_callee (f := 11) rfl ?_); refine goesL_ (some 38) rfl rfl Tryd.func11 (by kernel_rfl) rfl #[.agg #[.bool t305, .slice Ao37 t306.length co37, .int .i64 t309], .agg #[.bool t292, .slice Ao23 t293.length co23, .int .i64 t296]] rfl hkL ?_; (with_reducible refine (laws_eqDy.calls k t305 _ _ t306 t309 t292 _ _ t293 t296 true _ ?side1 ?side2 ?side3 ?side4 A38.out).mono ?_); (case side1 => refine (Kd.R_reads' (e := 3) (base := w.heap.size) (ok := fun k_ => (((True ∧ some k_ ≠ (.slice Ao18 t288.length co18 : Value).ownBlock) ∧ some k_ ≠ (.slice Ao23 t293.length co23 : Value).ownBlock) ∧ some k_ ≠ (.slice Ao30 t300.length co30 : Value).ownBlock)) (n := t306.length) (c := co37) ?_).2.2; exact (by (with_reducible repeat (first | apply Kd.R_alloc | apply Kd.R_drewN | apply Kd.R_drew)); exact (Kd.R_mono (Kd.R_far (p := ⟨gb311, 2, none⟩) (Kd.R_far (p := ⟨gb311, 1, none⟩) (Kd.R_far (p := ⟨gb311, 0, none⟩) (Kd.R_types HO308.out BK311.out (by decide)) (fun _ hk => hk.2) (.bool t305)) (fun _ hk => hk.2) (.slice Ao37 t306.length co37)) (fun _ hk => hk.2) (.int .i64 t309)) (fun _ h_ => h_.1)))); (case side2 => exact (Kd.R_reads' HO308.out).2.1); (case side3 => refine (Kd.R_reads' (e := 3) (base := w.heap.size) (ok := fun k_ => (((True ∧ some k_ ≠ (.slice Ao18 t288.length co18 : Value).ownBlock) ∧ some k_ ≠ (.slice Ao30 t300.length co30 : Value).ownBlock) ∧ some k_ ≠ (.slice Ao37 t306.length co37 : Value).ownBlock)) (n := t293.length) (c := co23) ?_).2.2; exact (by (with_reducible repeat (first | apply Kd.R_alloc | apply Kd.R_drewN | apply Kd.R_drew)); exact (Kd.R_mono (Kd.R_far (p := ⟨gb311, 2, none⟩) (Kd.R_far (p := ⟨gb311, 1, none⟩) (Kd.R_far (p := ⟨gb311, 0, none⟩) (Kd.R_types HO295.out BK311.out (by decide)) (fun _ hk => hk.2) (.bool t305)) (fun _ hk => hk.2) (.slice Ao37 t306.length co37)) (fun _ hk => hk.2) (.int .i64 t309)) (fun _ h_ => h_.1)))); (case side4 => exact (Kd.R_reads' HO295.out).2.1); rintro e w47 ⟨rfl, hb⟩; refine ⟨_, rfl, ?_⟩; have n0_ := Aside0.mk (Kd.R_below (by (with_reducible repeat (first | apply Kd.R_alloc | apply Kd.R_drewN | apply Kd.R_drew)); exact (Kd.R_mono (Kd.R_far (p := ⟨gb311, 2, none⟩) (Kd.R_far (p := ⟨gb311, 1, none⟩) (Kd.R_far (p := ⟨gb311, 0, none⟩) (Kd.R_types HO290.out BK311.out (by decide)) (fun _ hk => hk.2) (.bool t305)) (fun _ hk => hk.2) (.slice Ao37 t306.length co37)) (fun _ hk => hk.2) (.int .i64 t309)) (fun _ h_ => h_.1))) hb); have n1_ := Aside0.mk (Kd.R_below (by (with_reducible repeat (first | apply Kd.R_alloc | apply Kd.R_drewN | apply Kd.R_drew)); exact (Kd.R_mono (Kd.R_far (p := ⟨gb311, 2, none⟩) (Kd.R_far (p := ⟨gb311, 1, none⟩) (Kd.R_far (p := ⟨gb311, 0, none⟩) (Kd.R_types HO295.out BK311.out (by decide)) (fun _ hk => hk.2) (.bool t305)) (fun _ hk => hk.2) (.slice Ao37 t306.length co37)) (fun _ hk => hk.2) (.int .i64 t309)) (fun _ h_ => h_.1))) hb); have n2_ := Aside0.mk (Kd.R_below (by (with_reducible repeat (first | apply Kd.R_alloc | apply Kd.R_drewN | apply Kd.R_drew)); exact (Kd.R_mono (Kd.R_far (p := ⟨gb311, 2, none⟩) (Kd.R_far (p := ⟨gb311, 1, none⟩) (Kd.R_far (p := ⟨gb311, 0, none⟩) (Kd.R_types HO302.out BK311.out (by decide)) (fun _ hk => hk.2) (.bool t305)) (fun _ hk => hk.2) (.slice Ao37 t306.length co37)) (fun _ hk => hk.2) (.int .i64 t309)) (fun _ h_ => h_.1))) hb); have n3_ := Aside0.mk (Kd.R_below (by (with_reducible repeat (first | apply Kd.R_alloc | apply Kd.R_drewN | apply Kd.R_drew)); exact (Kd.R_mono (Kd.R_far (p := ⟨gb311, 2, none⟩) (Kd.R_far (p := ⟨gb311, 1, none⟩) (Kd.R_far (p := ⟨gb311, 0, none⟩) (Kd.R_types HO308.out BK311.out (by decide)) (fun _ hk => hk.2) (.bool t305)) (fun _ hk => hk.2) (.slice Ao37 t306.length co37)) (fun _ hk => hk.2) (.int .i64 t309)) (fun _ h_ => h_.1))) hb); have n4_ := Aside0.mk (blk_below (g := gb285) (o := .cells #[.bool a0_0, .slice A0_1 l0_1.length c0_1, .int .i64 a0_2] 42 (0, 0)) (by (with_reducible repeat (first | refine blk_drewN ?_ _ | refine blk_drew ?_ | refine blk_alloc ?_ _)); refine blk_far ?_ NB285_311.out _; (with_reducible repeat (first | refine blk_drewN ?_ _ | refine blk_drew ?_ | refine blk_alloc ?_ _)); refine blk_far ?_ NB285_311.out _; (with_reducible repeat (first | refine blk_drewN ?_ _ | refine blk_drew ?_ | refine blk_alloc ?_ _)); refine blk_far ?_ NB285_311.out _; (with_reducible repeat (first | refine blk_drewN ?_ _ | refine blk_drew ?_ | refine blk_alloc ?_ _)); exact BK285.out) hb); have n5_ := Aside0.mk (blk_below (g := gb298) (o := .cells #[.bool t292, .slice Ao23 t293.length co23, .int .i64 t296] 30 (0, 0)) (by (with_reducible repeat (first | refine blk_drewN ?_ _ | refine blk_drew ?_ | refine blk_alloc ?_ _)); refine blk_far ?_ NB298_311.out _; (with_reducible repeat (first | refine blk_drewN ?_ _ | refine blk_drew ?_ | refine blk_alloc ?_ _)); refine blk_far ?_ NB298_311.out _; (with_reducible repeat (first | refine blk_drewN ?_ _ | refine blk_drew ?_ | refine blk_alloc ?_ _)); refine blk_far ?_ NB298_311.out _; (with_reducible repeat (first | refine blk_drewN ?_ _ | refine blk_drew ?_ | refine blk_alloc ?_ _)); exact BK298.out) hb); have n6_ := Aside0.mk (blk_below (g := gb304) (o := .cells #[.bool t299, .slice Ao30 t300.length co30, .int .i64 t303] 30 (0, 0)) (by (with_reducible repeat (first | refine blk_drewN ?_ _ | refine blk_drew ?_ | refine blk_alloc ?_ _)); refine blk_far ?_ NB304_311.out _; (with_reducible repeat (first | refine blk_drewN ?_ _ | refine blk_drew ?_ | refine blk_alloc ?_ _)); refine blk_far ?_ NB304_311.out _; (with_reducible repeat (first | refine blk_drewN ?_ _ | refine blk_drew ?_ | refine blk_alloc ?_ _)); refine blk_far ?_ NB304_311.out _; (with_reducible repeat (first | refine blk_drewN ?_ _ | refine blk_drew ?_ | refine blk_alloc ?_ _)); exact BK304.out) hb); have n7_ := Aside0.mk (blk_below (g := gb311) (o := .cells #[.bool t305, .slice Ao37 t306.length co37, .int .i64 t309] 30 (0, 0)) (by (with_reducible repeat (first | refine blk_drewN ?_ _ | refine blk_drew ?_ | refine blk_alloc ?_ _)); refine blk_put (cs := #[.bool t305, .slice Ao37 t306.length co37, .int .i64 0]) ?_ 2 _ rfl; (with_reducible repeat (first | refine blk_drewN ?_ _ | refine blk_drew ?_ | refine blk_alloc ?_ _)); refine blk_put (cs := #[.bool t305, .slice none 0 0, .int .i64 0]) ?_ 1 _ rfl; (with_reducible repeat (first | refine blk_drewN ?_ _ | refine blk_drew ?_ | refine blk_alloc ?_ _)); refine blk_put (cs := #[.bool false, .slice none 0 0, .int .i64 0]) ?_ 0 _ rfl; (with_reducible repeat (first | refine blk_drewN ?_ _ | refine blk_drew ?_ | refine blk_alloc ?_ _)); exact BK311.out) hb); have n8_ := Aside0.mk (below_step (hkS HB) hb); clear HO290; clear HO295; clear HO302; clear HO308; clear BK285; clear BK298; clear BK304; clear BK311; clear HB; have HO290 := n0_; have HO295 := n1_; have HO302 := n2_; have HO308 := n3_; have BK285 := n4_; have BK298 := n5_; have BK304 := n6_; have BK311 := n7_; have HB := n8_; clear n0_ n1_ n2_ n3_ n4_ n5_ n6_ n7_ n8_; (try clear hb); (try clear hb2); (try clear hk); (try clear hi)))
        go_meet
        case rel => exact ⟨_, ((t310 != t297)), (by first | rfl | (simp; done) | (simp [*]; done)), H', ⟨by first | omega | exact Nat.le_refl _⟩, ⟨by (with_reducible repeat (first | apply Kd.R_alloc | apply Kd.R_drewN | apply Kd.R_drew)); exact Kd.R_mono HO295.out (fun _ hk => ⟨hk.1.2, hk.2⟩)⟩, ⟨by (with_reducible repeat (first | apply Kd.R_alloc | apply Kd.R_drewN | apply Kd.R_drew)); exact Kd.R_mono HO302.out (fun _ hk => ⟨hk.1.2, hk.2⟩)⟩, ⟨by (with_reducible repeat (first | apply Kd.R_alloc | apply Kd.R_drewN | apply Kd.R_drew)); exact Kd.R_mono HO308.out (fun _ hk => ⟨hk.1.2, hk.2⟩)⟩, ⟨by (with_reducible repeat (first | refine blk_drewN ?_ _ | refine blk_drew ?_ | refine blk_alloc ?_ _)); exact BK285.out⟩, ⟨by (with_reducible repeat (first | refine blk_drewN ?_ _ | refine blk_drew ?_ | refine blk_alloc ?_ _)); exact BK298.out⟩, ⟨by (with_reducible repeat (first | refine blk_drewN ?_ _ | refine blk_drew ?_ | refine blk_alloc ?_ _)); exact BK304.out⟩, ⟨by (with_reducible repeat (first | refine blk_drewN ?_ _ | refine blk_drew ?_ | refine blk_alloc ?_ _)); exact BK311.out⟩, ⟨by repeat (first | (with_reducible first | exact HB.out | apply below_alloc | apply pw_below_drewN | apply below_drew1 | refine below_set ?_ GE285.out | refine below_set ?_ GE298.out | refine below_set ?_ GE304.out | refine below_set ?_ GE311.out) | exact HB.out)⟩⟩
      · replace c39 := Bool.eq_false_iff.mpr c39
        subst c39
        have H1 : (laws_FnExactDyShift.j0 k a1 t297 t310 true a0_0 l0_1 a0_2 t292 t293 t296 t299 t300 t303 t305 t306 t309) = some r := by rw [if_neg (show ¬ (false = true) by decide)] at H; exact H
        clear H
        have H := H1
        clear H1
        have H' := Aside0.mk H
        clear H
        have hnb48 := NB311_285.out
        have hnc48 := NB285_311.out
        have hnb49 := NB311_298.out
        have hnc49 := NB298_311.out
        have hnb50 := NB311_304.out
        have hnc50 := NB304_311.out
        have hcz51_0 : w32.cell? ⟨gb311, 0, none⟩ = some (.bool false) := (blk_cell BK311.out 0).trans rfl
        have hcz51_1 : w32.cell? ⟨gb311, 1, none⟩ = some (.slice none 0 0) := (blk_cell BK311.out 1).trans rfl
        have hcz51_2 : w32.cell? ⟨gb311, 2, none⟩ = some (.int .i64 0) := (blk_cell BK311.out 2).trans rfl
        have hfz51_0 := blk_frozen BK311.out 0
        have hfz51_1 := blk_frozen BK311.out 1
        have hfz51_2 := blk_frozen BK311.out 2
        have hnb52 := NB298_285.out
        have hnc52 := NB285_298.out
        have hnb53 := NB298_304.out
        have hnc53 := NB304_298.out
        have hcz54_0 : w32.cell? ⟨gb298, 0, none⟩ = some (.bool t292) := (blk_cell BK298.out 0).trans rfl
        have hcz54_1 : w32.cell? ⟨gb298, 1, none⟩ = some (.slice Ao23 t293.length co23) := (blk_cell BK298.out 1).trans rfl
        have hcz54_2 : w32.cell? ⟨gb298, 2, none⟩ = some (.int .i64 t296) := (blk_cell BK298.out 2).trans rfl
        have hfz54_0 := blk_frozen BK298.out 0
        have hfz54_1 := blk_frozen BK298.out 1
        have hfz54_2 := blk_frozen BK298.out 2
        go_wp2_with (first | ((with_reducible refine gate_callee (f := 11) rfl ?_); refine goesL_ (some 38) rfl rfl Tryd.func11 (by kernel_rfl) rfl #[.agg #[.bool t305, .slice Ao37 t306.length co37, .int .i64 t309], .agg #[.bool t292, .slice Ao23 t293.length co23, .int .i64 t296]] rfl hkL ?_; (with_reducible refine (laws_eqDy.calls k t305 _ _ t306 t309 t292 _ _ t293 t296 false _ ?side1 ?side2 ?side3 ?side4 A38.out).mono ?_); (case side1 => refine (Kd.R_reads' (e := 3) (base := w.heap.size) (ok := fun k_ => (((True ∧ some k_ ≠ (.slice Ao18 t288.length co18 : Value).ownBlock) ∧ some k_ ≠ (.slice Ao23 t293.length co23 : Value).ownBlock) ∧ some k_ ≠ (.slice Ao30 t300.length co30 : Value).ownBlock)) (n := t306.length) (c := co37) ?_).2.2; exact (by (with_reducible repeat (first | apply Kd.R_alloc | apply Kd.R_drewN | apply Kd.R_drew)); exact (Kd.R_mono (Kd.R_far (p := ⟨gb311, 2, none⟩) (Kd.R_far (p := ⟨gb311, 1, none⟩) (Kd.R_far (p := ⟨gb311, 0, none⟩) (Kd.R_types HO308.out BK311.out (by decide)) (fun _ hk => hk.2) (.bool t305)) (fun _ hk => hk.2) (.slice Ao37 t306.length co37)) (fun _ hk => hk.2) (.int .i64 t309)) (fun _ h_ => h_.1)))); (case side2 => exact (Kd.R_reads' HO308.out).2.1); (case side3 => refine (Kd.R_reads' (e := 3) (base := w.heap.size) (ok := fun k_ => (((True ∧ some k_ ≠ (.slice Ao18 t288.length co18 : Value).ownBlock) ∧ some k_ ≠ (.slice Ao30 t300.length co30 : Value).ownBlock) ∧ some k_ ≠ (.slice Ao37 t306.length co37 : Value).ownBlock)) (n := t293.length) (c := co23) ?_).2.2; exact (by (with_reducible repeat (first | apply Kd.R_alloc | apply Kd.R_drewN | apply Kd.R_drew)); exact (Kd.R_mono (Kd.R_far (p := ⟨gb311, 2, none⟩) (Kd.R_far (p := ⟨gb311, 1, none⟩) (Kd.R_far (p := ⟨gb311, 0, none⟩) (Kd.R_types HO295.out BK311.out (by decide)) (fun _ hk => hk.2) (.bool t305)) (fun _ hk => hk.2) (.slice Ao37 t306.length co37)) (fun _ hk => hk.2) (.int .i64 t309)) (fun _ h_ => h_.1)))); (case side4 => exact (Kd.R_reads' HO295.out).2.1); rintro e w55 ⟨rfl, hb⟩; refine ⟨_, rfl, ?_⟩; have n0_ := Aside0.mk (Kd.R_below (by (with_reducible repeat (first | apply Kd.R_alloc | apply Kd.R_drewN | apply Kd.R_drew)); exact (Kd.R_mono (Kd.R_far (p := ⟨gb311, 2, none⟩) (Kd.R_far (p := ⟨gb311, 1, none⟩) (Kd.R_far (p := ⟨gb311, 0, none⟩) (Kd.R_types HO290.out BK311.out (by decide)) (fun _ hk => hk.2) (.bool t305)) (fun _ hk => hk.2) (.slice Ao37 t306.length co37)) (fun _ hk => hk.2) (.int .i64 t309)) (fun _ h_ => h_.1))) hb); have n1_ := Aside0.mk (Kd.R_below (by (with_reducible repeat (first | apply Kd.R_alloc | apply Kd.R_drewN | apply Kd.R_drew)); exact (Kd.R_mono (Kd.R_far (p := ⟨gb311, 2, none⟩) (Kd.R_far (p := ⟨gb311, 1, none⟩) (Kd.R_far (p := ⟨gb311, 0, none⟩) (Kd.R_types HO295.out BK311.out (by decide)) (fun _ hk => hk.2) (.bool t305)) (fun _ hk => hk.2) (.slice Ao37 t306.length co37)) (fun _ hk => hk.2) (.int .i64 t309)) (fun _ h_ => h_.1))) hb); have n2_ := Aside0.mk (Kd.R_below (by (with_reducible repeat (first | apply Kd.R_alloc | apply Kd.R_drewN | apply Kd.R_drew)); exact (Kd.R_mono (Kd.R_far (p := ⟨gb311, 2, none⟩) (Kd.R_far (p := ⟨gb311, 1, none⟩) (Kd.R_far (p := ⟨gb311, 0, none⟩) (Kd.R_types HO302.out BK311.out (by decide)) (fun _ hk => hk.2) (.bool t305)) (fun _ hk => hk.2) (.slice Ao37 t306.length co37)) (fun _ hk => hk.2) (.int .i64 t309)) (fun _ h_ => h_.1))) hb); have n3_ := Aside0.mk (Kd.R_below (by (with_reducible repeat (first | apply Kd.R_alloc | apply Kd.R_drewN | apply Kd.R_drew)); exact (Kd.R_mono (Kd.R_far (p := ⟨gb311, 2, none⟩) (Kd.R_far (p := ⟨gb311, 1, none⟩) (Kd.R_far (p := ⟨gb311, 0, none⟩) (Kd.R_types HO308.out BK311.out (by decide)) (fun _ hk => hk.2) (.bool t305)) (fun _ hk => hk.2) (.slice Ao37 t306.length co37)) (fun _ hk => hk.2) (.int .i64 t309)) (fun _ h_ => h_.1))) hb); have n4_ := Aside0.mk (blk_below (g := gb285) (o := .cells #[.bool a0_0, .slice A0_1 l0_1.length c0_1, .int .i64 a0_2] 42 (0, 0)) (by (with_reducible repeat (first | refine blk_drewN ?_ _ | refine blk_drew ?_ | refine blk_alloc ?_ _)); refine blk_far ?_ NB285_311.out _; (with_reducible repeat (first | refine blk_drewN ?_ _ | refine blk_drew ?_ | refine blk_alloc ?_ _)); refine blk_far ?_ NB285_311.out _; (with_reducible repeat (first | refine blk_drewN ?_ _ | refine blk_drew ?_ | refine blk_alloc ?_ _)); refine blk_far ?_ NB285_311.out _; (with_reducible repeat (first | refine blk_drewN ?_ _ | refine blk_drew ?_ | refine blk_alloc ?_ _)); exact BK285.out) hb); have n5_ := Aside0.mk (blk_below (g := gb298) (o := .cells #[.bool t292, .slice Ao23 t293.length co23, .int .i64 t296] 30 (0, 0)) (by (with_reducible repeat (first | refine blk_drewN ?_ _ | refine blk_drew ?_ | refine blk_alloc ?_ _)); refine blk_far ?_ NB298_311.out _; (with_reducible repeat (first | refine blk_drewN ?_ _ | refine blk_drew ?_ | refine blk_alloc ?_ _)); refine blk_far ?_ NB298_311.out _; (with_reducible repeat (first | refine blk_drewN ?_ _ | refine blk_drew ?_ | refine blk_alloc ?_ _)); refine blk_far ?_ NB298_311.out _; (with_reducible repeat (first | refine blk_drewN ?_ _ | refine blk_drew ?_ | refine blk_alloc ?_ _)); exact BK298.out) hb); have n6_ := Aside0.mk (blk_below (g := gb304) (o := .cells #[.bool t299, .slice Ao30 t300.length co30, .int .i64 t303] 30 (0, 0)) (by (with_reducible repeat (first | refine blk_drewN ?_ _ | refine blk_drew ?_ | refine blk_alloc ?_ _)); refine blk_far ?_ NB304_311.out _; (with_reducible repeat (first | refine blk_drewN ?_ _ | refine blk_drew ?_ | refine blk_alloc ?_ _)); refine blk_far ?_ NB304_311.out _; (with_reducible repeat (first | refine blk_drewN ?_ _ | refine blk_drew ?_ | refine blk_alloc ?_ _)); refine blk_far ?_ NB304_311.out _; (with_reducible repeat (first | refine blk_drewN ?_ _ | refine blk_drew ?_ | refine blk_alloc ?_ _)); exact BK304.out) hb); have n7_ := Aside0.mk (blk_below (g := gb311) (o := .cells #[.bool t305, .slice Ao37 t306.length co37, .int .i64 t309] 30 (0, 0)) (by (with_reducible repeat (first | refine blk_drewN ?_ _ | refine blk_drew ?_ | refine blk_alloc ?_ _)); refine blk_put (cs := #[.bool t305, .slice Ao37 t306.length co37, .int .i64 0]) ?_ 2 _ rfl; (with_reducible repeat (first | refine blk_drewN ?_ _ | refine blk_drew ?_ | refine blk_alloc ?_ _)); refine blk_put (cs := #[.bool t305, .slice none 0 0, .int .i64 0]) ?_ 1 _ rfl; (with_reducible repeat (first | refine blk_drewN ?_ _ | refine blk_drew ?_ | refine blk_alloc ?_ _)); refine blk_put (cs := #[.bool false, .slice none 0 0, .int .i64 0]) ?_ 0 _ rfl; (with_reducible repeat (first | refine blk_drewN ?_ _ | refine blk_drew ?_ | refine blk_alloc ?_ _)); exact BK311.out) hb); have n8_ := Aside0.mk (below_step (hkS HB) hb); clear HO290; clear HO295; clear HO302; clear HO308; clear BK285; clear BK298; clear BK304; clear BK311; clear HB; have HO290 := n0_; have HO295 := n1_; have HO302 := n2_; have HO308 := n3_; have BK285 := n4_; have BK298 := n5_; have BK304 := n6_; have BK311 := n7_; have HB := n8_; clear n0_ n1_ n2_ n3_ n4_ n5_ n6_ n7_ n8_; (try clear hb); (try clear hb2); (try clear hk); (try clear hi)))
        go_meet
        case rel => exact ⟨_, (true), (by first | rfl | (simp; done) | (simp [*]; done)), H', ⟨by first | omega | exact Nat.le_refl _⟩, ⟨by (with_reducible repeat (first | apply Kd.R_alloc | apply Kd.R_drewN | apply Kd.R_drew)); exact Kd.R_mono HO295.out (fun _ hk => ⟨hk.1.2, hk.2⟩)⟩, ⟨by (with_reducible repeat (first | apply Kd.R_alloc | apply Kd.R_drewN | apply Kd.R_drew)); exact Kd.R_mono HO302.out (fun _ hk => ⟨hk.1.2, hk.2⟩)⟩, ⟨by (with_reducible repeat (first | apply Kd.R_alloc | apply Kd.R_drewN | apply Kd.R_drew)); exact Kd.R_mono HO308.out (fun _ hk => ⟨hk.1.2, hk.2⟩)⟩, ⟨by (with_reducible repeat (first | refine blk_drewN ?_ _ | refine blk_drew ?_ | refine blk_alloc ?_ _)); exact BK285.out⟩, ⟨by (with_reducible repeat (first | refine blk_drewN ?_ _ | refine blk_drew ?_ | refine blk_alloc ?_ _)); exact BK298.out⟩, ⟨by (with_reducible repeat (first | refine blk_drewN ?_ _ | refine blk_drew ?_ | refine blk_alloc ?_ _)); exact BK304.out⟩, ⟨by (with_reducible repeat (first | refine blk_drewN ?_ _ | refine blk_drew ?_ | refine blk_alloc ?_ _)); exact BK311.out⟩, ⟨by repeat (first | (with_reducible first | exact HB.out | apply below_alloc | apply pw_below_drewN | apply below_drew1 | refine below_set ?_ GE285.out | refine below_set ?_ GE298.out | refine below_set ?_ GE304.out | refine below_set ?_ GE311.out) | exact HB.out)⟩⟩
    case rest =>
      clear HC12
      try clear c1
      try clear c2
      try clear p2
      try clear c3
      try clear c4
      try clear c4b0
      try clear c5
      try clear c11
      try clear c14
      try clear c15
      try clear c16
      try clear c17
      try clear c21
      try clear c27
      try clear c28
      try clear c33
      try clear c34
      try clear c35
      try clear c39
      try clear c40
      try clear c41
      try clear c42
      try clear c44
      try clear c45
      try clear c48
      try clear c49
      try clear c50
      try clear c52
      try clear c53
      try clear hcz14_0
      try clear hcz14_1
      try clear hcz14_2
      try clear hcz16_0
      try clear hcz16_1
      try clear hcz16_2
      try clear hcz22_0
      try clear hcz22_1
      try clear hcz22_2
      try clear hcz24_0
      try clear hcz24_1
      try clear hcz24_2
      try clear hcz29_0
      try clear hcz29_1
      try clear hcz29_2
      try clear hcz36_0
      try clear hcz36_1
      try clear hcz36_2
      try clear hcz43_0
      try clear hcz43_1
      try clear hcz43_2
      try clear hcz46_0
      try clear hcz46_1
      try clear hcz46_2
      try clear hcz51_0
      try clear hcz51_1
      try clear hcz51_2
      try clear hcz54_0
      try clear hcz54_1
      try clear hcz54_2
      try clear hcz6_0
      try clear hcz6_1
      try clear hcz6_2
      try clear hfz14_0
      try clear hfz14_1
      try clear hfz14_2
      try clear hfz16_0
      try clear hfz16_1
      try clear hfz16_2
      try clear hfz22_0
      try clear hfz22_1
      try clear hfz22_2
      try clear hfz24_0
      try clear hfz24_1
      try clear hfz24_2
      try clear hfz29_0
      try clear hfz29_1
      try clear hfz29_2
      try clear hfz36_0
      try clear hfz36_1
      try clear hfz36_2
      try clear hfz43_0
      try clear hfz43_1
      try clear hfz43_2
      try clear hfz46_0
      try clear hfz46_1
      try clear hfz46_2
      try clear hfz51_0
      try clear hfz51_1
      try clear hfz51_2
      try clear hfz54_0
      try clear hfz54_1
      try clear hfz54_2
      try clear hfz6_0
      try clear hfz6_1
      try clear hfz6_2
      obtain ⟨kq, x44_11, rfl, HA, HJ11, HO_299001, HO_305001, HO_312001, BK285, BK298, BK304, BK311, HB⟩ := hcut
      cases kq with
      | zero => exact absurd HA.out (by simp [laws_FnExactDyShift.j0])
      | succ kj11 =>
        have H := HA.out
        clear HA
        simp only [laws_FnExactDyShift.j0] at H
        by_cases c56 : x44_11 = true
        · subst c56
          have H1 : (some false) = some r := by rw [if_pos rfl] at H; exact H
          clear H
          have H := H1
          clear H1
          obtain rfl := Option.some.inj H
          go_wp2
          go_ret
          exact ⟨by first | rfl | (simp [errW_none, errW_some] <;> rfl) | (simp [*, errW_none, errW_some] <;> rfl), by repeat (first | (with_reducible first | exact HB.out | apply below_alloc | apply pw_below_drewN | apply below_drew1 | refine below_set ?_ GE285.out | refine below_set ?_ GE298.out | refine below_set ?_ GE304.out | refine below_set ?_ GE311.out) | exact HB.out)⟩
        · replace c56 := Bool.eq_false_iff.mpr c56
          subst c56
          have H1 : ((laws_toDy.f kj11 a0_0 l0_1 a0_2).bind fun bt313 => ((laws_eqDy.f kj11 t299 t300 t303 bt313.1 bt313.2.1 bt313.2.2).bind fun t318 => (if t318 = true then ((laws_markDy.f kj11 t299 t300 t303 1).bind fun bt319 => (if bt319.1 < 0 then (laws_FnExactDyShift.j1 kj11 a1 t297 true a0_0 l0_1 a0_2 t292 t293 t296 t305 t306 t309) else ((laws_eqDy.f kj11 t305 t306 t309 t292 t293 t296).bind fun t321 => (if t321 = true then (laws_FnExactDyShift.j1 kj11 a1 t297 (t310 != t297) a0_0 l0_1 a0_2 t292 t293 t296 t305 t306 t309) else (laws_FnExactDyShift.j1 kj11 a1 t297 true a0_0 l0_1 a0_2 t292 t293 t296 t305 t306 t309))))) else (some false)))) = some r := by rw [if_neg (show ¬ (false = true) by decide)] at H; exact H
          clear H
          have H := H1
          clear H1
          replace H := Option.bind_eq_some_iff.mp H
          obtain ⟨⟨t313, t314, t317⟩, A570, H⟩ := H
          replace H : ((laws_eqDy.f kj11 t299 t300 t303 t313 t314 t317).bind fun t318 => (if t318 = true then ((laws_markDy.f kj11 t299 t300 t303 1).bind fun bt319 => (if bt319.1 < 0 then (laws_FnExactDyShift.j1 kj11 a1 t297 true a0_0 l0_1 a0_2 t292 t293 t296 t305 t306 t309) else ((laws_eqDy.f kj11 t305 t306 t309 t292 t293 t296).bind fun t321 => (if t321 = true then (laws_FnExactDyShift.j1 kj11 a1 t297 (t310 != t297) a0_0 l0_1 a0_2 t292 t293 t296 t305 t306 t309) else (laws_FnExactDyShift.j1 kj11 a1 t297 true a0_0 l0_1 a0_2 t292 t293 t296 t305 t306 t309))))) else (some false))) = some r := H
          have A57 := Aside0.mk A570
          clear A570
          replace H := Option.bind_eq_some_iff.mp H
          obtain ⟨t318, A580, H⟩ := H
          replace H : (if t318 = true then ((laws_markDy.f kj11 t299 t300 t303 1).bind fun bt319 => (if bt319.1 < 0 then (laws_FnExactDyShift.j1 kj11 a1 t297 true a0_0 l0_1 a0_2 t292 t293 t296 t305 t306 t309) else ((laws_eqDy.f kj11 t305 t306 t309 t292 t293 t296).bind fun t321 => (if t321 = true then (laws_FnExactDyShift.j1 kj11 a1 t297 (t310 != t297) a0_0 l0_1 a0_2 t292 t293 t296 t305 t306 t309) else (laws_FnExactDyShift.j1 kj11 a1 t297 true a0_0 l0_1 a0_2 t292 t293 t296 t305 t306 t309))))) else (some false)) = some r := H
          have A58 := Aside0.mk A580
          clear A580
          by_cases c59 : t318 = true
          · subst c59
            have H1 : ((laws_markDy.f kj11 t299 t300 t303 1).bind fun bt319 => (if bt319.1 < 0 then (laws_FnExactDyShift.j1 kj11 a1 t297 true a0_0 l0_1 a0_2 t292 t293 t296 t305 t306 t309) else ((laws_eqDy.f kj11 t305 t306 t309 t292 t293 t296).bind fun t321 => (if t321 = true then (laws_FnExactDyShift.j1 kj11 a1 t297 (t310 != t297) a0_0 l0_1 a0_2 t292 t293 t296 t305 t306 t309) else (laws_FnExactDyShift.j1 kj11 a1 t297 true a0_0 l0_1 a0_2 t292 t293 t296 t305 t306 t309))))) = some r := by rw [if_pos rfl] at H; exact H
            clear H
            have H := H1
            clear H1
            replace H := Option.bind_eq_some_iff.mp H
            obtain ⟨⟨t319, t320⟩, A600, H⟩ := H
            replace H : (if t319 < 0 then (laws_FnExactDyShift.j1 kj11 a1 t297 true a0_0 l0_1 a0_2 t292 t293 t296 t305 t306 t309) else ((laws_eqDy.f kj11 t305 t306 t309 t292 t293 t296).bind fun t321 => (if t321 = true then (laws_FnExactDyShift.j1 kj11 a1 t297 (t310 != t297) a0_0 l0_1 a0_2 t292 t293 t296 t305 t306 t309) else (laws_FnExactDyShift.j1 kj11 a1 t297 true a0_0 l0_1 a0_2 t292 t293 t296 t305 t306 t309)))) = some r := H
            have A60 := Aside0.mk A600
            clear A600
            have HC61 := Aside0.mk H
            clear H
            try go_wp2
            have n0_ := Aside0.mk (Kd.R_drew HO_299001.out)
            have n1_ := Aside0.mk (Kd.R_drew HO_305001.out)
            have n2_ := Aside0.mk (Kd.R_drew HO_312001.out)
            have n3_ := Aside0.mk (blk_drew BK285.out)
            have n4_ := Aside0.mk (blk_drew BK298.out)
            have n5_ := Aside0.mk (blk_drew BK304.out)
            have n6_ := Aside0.mk (blk_drew BK311.out)
            have n7_ := Aside0.mk (below_drew1 HB.out)
            clear HO_299001
            clear HO_305001
            clear HO_312001
            clear BK285
            clear BK298
            clear BK304
            clear BK311
            clear HB
            have HO_299001 := n0_
            have HO_305001 := n1_
            have HO_312001 := n2_
            have BK285 := n3_
            have BK298 := n4_
            have BK304 := n5_
            have BK311 := n6_
            have HB := n7_
            clear n0_ n1_ n2_ n3_ n4_ n5_ n6_ n7_
            refine start_ (n := 5) (S := fun w' => w'.cell? ⟨gb304, 0, none⟩ = some (.bool t299) ∧ w'.cell? ⟨gb304, 1, none⟩ = some (.slice Ao30 t300.length co30) ∧ w'.cell? ⟨gb304, 2, none⟩ = some (.int .i64 t303) ∧ w'.cell? ⟨gb285, 0, none⟩ = some (.bool a0_0) ∧ w'.cell? ⟨gb285, 1, none⟩ = some (.slice A0_1 l0_1.length c0_1) ∧ w'.cell? ⟨gb285, 2, none⟩ = some (.int .i64 a0_2)) (ds := []) #[false, false, false, false, false] (by kernel_rfl) rfl rfl ⟨(blk_cell BK304.out 0).trans rfl, (blk_cell BK304.out 1).trans rfl, (blk_cell BK304.out 2).trans rfl, (blk_cell BK285.out 0).trans rfl, (blk_cell BK285.out 1).trans rfl, (blk_cell BK285.out 2).trans rfl⟩ (fun hHeld => ?_)
            generalize wc.drew = w62 at HO_299001 HO_305001 HO_312001 BK285 BK298 BK304 BK311 HB hHeld ⊢
            refine take_ (i := 0) (N := some 45) (v := ?_) (a' := ?_) #[true, false, false, false, false] rfl rfl (by kernel_rfl) (fun _ _ _ h => h) (Or.inl ⟨by rfl, ?_⟩) hHeld ?_ ?_
            rotate_left
            · rintro w' ⟨s0, s1, s2, s3, s4, s5⟩
              go_simp
              with_reducible rfl
            rotate_left
            · simp only [Act.put, List.setIfInBounds_toArray, List.set_cons_zero, List.set_cons_succ, i64_w, i32_w]
              rfl
            refine take_ (i := 1) (N := some 46) (v := ?_) (a' := ?_) #[true, true, false, false, false] rfl rfl (by kernel_rfl) (fun _ _ _ h => h) (Or.inl ⟨by rfl, ?_⟩) hHeld ?_ ?_
            rotate_left
            · rintro w' ⟨s0, s1, s2, s3, s4, s5⟩
              go_simp
              with_reducible rfl
            rotate_left
            · simp only [Act.put, List.setIfInBounds_toArray, List.set_cons_zero, List.set_cons_succ, i64_w, i32_w]
              rfl
            refine one_ (i := 2) (N := some 47) #[true, true, true, false, false] rfl rfl (by kernel_rfl) (by decide) (fun K hK => ?_)
            refine goes_ Tryd.func16 (by kernel_rfl) rfl #[.agg #[.bool a0_0, .slice A0_1 l0_1.length c0_1, .int .i64 a0_2]] (by rfl) rfl rfl hkL ?_
            with_reducible refine (laws_toDy.calls kj11 a0_0 _ _ l0_1 a0_2 t313 t314 t317 _ ?side1 ?side2 A57.out).mono ?_
            (case side1 => repeat (first | exact (Kd.C_below HR0_1.out HB.out) | (with_reducible refine Kd.C_alloc ?_ _) | (with_reducible refine Kd.C_drewN ?_ _) | (with_reducible refine Kd.C_drew ?_)))
            (case side2 => exact HC0_1.out)
            rintro e w63 ⟨v315, rfl, ho0, hb⟩
            refine ⟨_, rfl, ?_⟩
            have n0_ := Aside0.mk (Kd.R_elder' (hkR HO_299001) (Kd.R_base ho0) hb)
            have n1_ := Aside0.mk (Kd.R_elder' (hkR HO_305001) (Kd.R_base ho0) hb)
            have n2_ := Aside0.mk (Kd.R_elder' (hkR HO_312001) (Kd.R_base ho0) hb)
            have n3_ := Aside0.mk (Kd.R_lower (Kd.R_new' (Kd.R_new' (Kd.R_new' ho0 (Kd.R_lt (hkR HO_299001))) (Kd.R_lt (hkR HO_305001))) (Kd.R_lt (hkR HO_312001))) (below_size (hkS HB)))
            have n4_ := hkBb BK285 hb
            have n5_ := hkBb BK298 hb
            have n6_ := hkBb BK304 hb
            have n7_ := hkBb BK311 hb
            have n8_ := Aside0.mk (below_step (hkS HB) hb)
            clear HO_299001
            clear HO_305001
            clear HO_312001
            clear BK285
            clear BK298
            clear BK304
            clear BK311
            clear HB
            have HO_299001 := n0_
            have HO_305001 := n1_
            have HO_312001 := n2_
            have HO316 := n3_
            have BK285 := n4_
            have BK298 := n5_
            have BK304 := n6_
            have BK311 := n7_
            have HB := n8_
            clear n0_ n1_ n2_ n3_ n4_ n5_ n6_ n7_ n8_
            (try clear hb)
            (try clear hb2)
            (try clear hk)
            (try clear hi)
            (try clear ho0)
            obtain ⟨Ao64, co64, eo64⟩ := Kd.R_slice HO316.out
            (first | subst eo64 | (injection eo64 with f1_ f2_ f3_; have f4_ := f1_.symm; have f5_ := f3_.symm; clear f1_ f2_ f3_; subst f4_; subst f5_))
            refine hK.out _ _ ⟨(blk_cell BK304.out 0).trans rfl, (blk_cell BK304.out 1).trans rfl, (blk_cell BK304.out 2).trans rfl, (blk_cell BK285.out 0).trans rfl, (blk_cell BK285.out 1).trans rfl, (blk_cell BK285.out 2).trans rfl⟩ (fun hHeld => ?_)
            clear hK K
            refine norm_ (a' := ?_) ?_ ?_
            rotate_left
            · show Act.put _ (some 47) _ = _
              simp only [Act.put, List.setIfInBounds_toArray, List.set_cons_zero, List.set_cons_succ, i64_w, i32_w]
              rfl
            refine one_ (i := 3) (N := some 48) #[true, true, true, true, false] rfl rfl (by kernel_rfl) (by decide) (fun K hK => ?_)
            refine goes_ Tryd.func11 (by kernel_rfl) rfl #[.agg #[.bool t299, .slice Ao30 t300.length co30, .int .i64 t303], .agg #[.bool t313, .slice Ao64 t314.length co64, .int .i64 t317]] (by rfl) rfl rfl hkL ?_
            with_reducible refine (laws_eqDy.calls kj11 t299 _ _ t300 t303 t313 _ _ t314 t317 true _ ?side1 ?side2 ?side3 ?side4 A58.out).mono ?_
            (case side1 => repeat (first | exact (Kd.R_reads' HO_305001.out).2.2 | (with_reducible refine Kd.C_alloc ?_ _) | (with_reducible refine Kd.C_drewN ?_ _) | (with_reducible refine Kd.C_drew ?_)))
            (case side2 => exact (Kd.R_reads' HO_305001.out).2.1)
            (case side3 => repeat (first | exact (Kd.R_reads' HO316.out).2.2 | (with_reducible refine Kd.C_alloc ?_ _) | (with_reducible refine Kd.C_drewN ?_ _) | (with_reducible refine Kd.C_drew ?_)))
            (case side4 => exact (Kd.R_reads' HO316.out).2.1)
            rintro e w65 ⟨rfl, hb⟩
            refine ⟨_, rfl, ?_⟩
            have n0_ := hkRb HO_299001 hb
            have n1_ := hkRb HO_305001 hb
            have n2_ := hkRb HO_312001 hb
            have n3_ := hkRb HO316 hb
            have n4_ := hkBb BK285 hb
            have n5_ := hkBb BK298 hb
            have n6_ := hkBb BK304 hb
            have n7_ := hkBb BK311 hb
            have n8_ := Aside0.mk (below_step (hkS HB) hb)
            clear HO_299001
            clear HO_305001
            clear HO_312001
            clear HO316
            clear BK285
            clear BK298
            clear BK304
            clear BK311
            clear HB
            have HO_299001 := n0_
            have HO_305001 := n1_
            have HO_312001 := n2_
            have HO316 := n3_
            have BK285 := n4_
            have BK298 := n5_
            have BK304 := n6_
            have BK311 := n7_
            have HB := n8_
            clear n0_ n1_ n2_ n3_ n4_ n5_ n6_ n7_ n8_
            (try clear hb)
            (try clear hb2)
            (try clear hk)
            (try clear hi)
            refine hK.out _ _ ⟨(blk_cell BK304.out 0).trans rfl, (blk_cell BK304.out 1).trans rfl, (blk_cell BK304.out 2).trans rfl, (blk_cell BK285.out 0).trans rfl, (blk_cell BK285.out 1).trans rfl, (blk_cell BK285.out 2).trans rfl⟩ (fun hHeld => ?_)
            clear hK K
            refine norm_ (a' := ?_) ?_ ?_
            rotate_left
            · show Act.put _ (some 48) _ = _
              simp only [Act.put, List.setIfInBounds_toArray, List.set_cons_zero, List.set_cons_succ, i64_w, i32_w]
              rfl
            refine pure_ (i := 4) (N := some 49) (v := ?_) (a' := ?_) #[true, true, true, true, true] rfl rfl (by kernel_rfl) (fun _ _ _ h => h) (Or.inl ⟨by rfl, ?_⟩) ?_ ?_
            rotate_left
            · intro w'
              go_simp
              with_reducible rfl
            rotate_left
            · simp only [Act.put, List.setIfInBounds_toArray, List.set_cons_zero, List.set_cons_succ, i64_w, i32_w]
              rfl
            refine done_ (by kernel_rfl) ?_
            have hnb66 := NB304_285.out
            have hnc66 := NB285_304.out
            have hnb67 := NB304_298.out
            have hnc67 := NB298_304.out
            have hnb68 := NB304_311.out
            have hnc68 := NB311_304.out
            have hcz69_0 : w65.cell? ⟨gb304, 0, none⟩ = some (.bool t299) := (blk_cell BK304.out 0).trans rfl
            have hcz69_1 : w65.cell? ⟨gb304, 1, none⟩ = some (.slice Ao30 t300.length co30) := (blk_cell BK304.out 1).trans rfl
            have hcz69_2 : w65.cell? ⟨gb304, 2, none⟩ = some (.int .i64 t303) := (blk_cell BK304.out 2).trans rfl
            have hfz69_0 := blk_frozen BK304.out 0
            have hfz69_1 := blk_frozen BK304.out 1
            have hfz69_2 := blk_frozen BK304.out 2
            go_upto_region 14 with (first | ((with_reducible refine gate_callee (f := 12) rfl ?_); refine goesL_ (some 52) rfl rfl Tryd.func12 (by kernel_rfl) rfl #[.agg #[.bool t299, .slice Ao30 t300.length co30, .int .i64 t303], .int .i64 1] rfl hkL ?_; (with_reducible refine (laws_markDy.calls kj11 t299 (fun k_ => some k_ = (.slice Ao30 t300.length co30 : Value).ownBlock) (.slice Ao30 t300.length co30) t300 t303 1 t319 t320 w _ ?side1 ?side2 A60.out).mono ?_); (case side1 => repeat (first | (with_reducible first | exact HB.out | apply below_alloc | apply pw_below_drewN | apply below_drew1 | refine below_set ?_ GE285.out | refine below_set ?_ GE298.out | refine below_set ?_ GE304.out | refine below_set ?_ GE311.out) | exact HB.out)); (case side2 => exact Kd.R_tight rfl HO_305001.out); rintro e w70 ⟨rfl, hy0, hb, hkp⟩; refine ⟨_, rfl, ?_⟩; have n0_ := Aside0.mk (Kd.R_mono (ok' := fun k_ => some k_ ≠ (.slice Ao30 t300.length co30 : Value).ownBlock ∧ some k_ ≠ (.slice Ao37 t306.length co37 : Value).ownBlock ∧ some k_ ≠ (.slice Ao64 t314.length co64 : Value).ownBlock) (Kd.R_keptB (HO_299001.out) hkp (fun k_ hk_ hs_ => (hk_.1.1) hs_)) (fun k_ hk_ => ⟨hk_.1.1.1, hk_.1.1.2, hk_.1.2⟩)); have n1_ := Aside0.mk (Kd.R_reok rfl hy0 (fun k_ e_ => HO_305001.out.1 k_ e_)); have n2_ := Aside0.mk (Kd.R_mono (ok' := fun k_ => some k_ ≠ (.slice Ao23 t293.length co23 : Value).ownBlock ∧ some k_ ≠ (.slice Ao30 t300.length co30 : Value).ownBlock ∧ some k_ ≠ (.slice Ao64 t314.length co64 : Value).ownBlock) (Kd.R_keptB (HO_312001.out) hkp (fun k_ hk_ hs_ => (hk_.1.2) hs_)) (fun k_ hk_ => ⟨hk_.1.1.1, hk_.1.1.2, hk_.1.2⟩)); have n3_ := Aside0.mk (blk_kept (hkB BK285) hkp (fun hs_ => (fun e_ => (Kd.R_ne HO_305001.out BK285.out (by decide)) e_) hs_)); have n4_ := Aside0.mk (blk_kept (hkB BK298) hkp (fun hs_ => (fun e_ => (Kd.R_ne HO_305001.out BK298.out (by decide)) e_) hs_)); have n5_ := Aside0.mk (blk_kept (hkB BK304) hkp (fun hs_ => (fun e_ => (Kd.R_ne HO_305001.out BK304.out (by decide)) e_) hs_)); have n6_ := Aside0.mk (blk_kept (hkB BK311) hkp (fun hs_ => (fun e_ => (Kd.R_ne HO_305001.out BK311.out (by decide)) e_) hs_)); have n7_ := Aside0.mk (Kd.R_mono (ok' := fun k_ => some k_ ≠ (.slice Ao23 t293.length co23 : Value).ownBlock ∧ some k_ ≠ (.slice Ao30 t300.length co30 : Value).ownBlock ∧ some k_ ≠ (.slice Ao37 t306.length co37 : Value).ownBlock) (Kd.R_keptB (HO316.out) hkp (fun k_ hk_ hs_ => (hk_.1.2) hs_)) (fun k_ hk_ => ⟨hk_.1.1.1.2, hk_.1.1.2, hk_.1.2⟩)); have n8_ := Aside0.mk (hb); clear HO_299001; clear HO_305001; clear HO_312001; clear BK285; clear BK298; clear BK304; clear BK311; clear HO316; clear HB; have HO_299001 := n0_; have HO_305001 := n1_; have HO_312001 := n2_; have BK285 := n3_; have BK298 := n4_; have BK304 := n5_; have BK311 := n6_; have HO316 := n7_; have HB := n8_; clear n0_ n1_ n2_ n3_ n4_ n5_ n6_ n7_ n8_; (try clear hb); (try clear hkp); (try clear hy0)))
            (try simp only [Act.put, List.setIfInBounds_toArray, List.set_cons_zero, List.set_cons_succ])
            go_cut [65] (fun v65 wc => ∃ (kq : Nat) (x65_60 : Bool), v65 = .bool x65_60 ∧ Aside0 (laws_FnExactDyShift.j1 kq a1 t297 x65_60 a0_0 l0_1 a0_2 t292 t293 t296 t305 t306 t309 = some r) ∧ Aside0 (kq ≤ kj11) ∧ Aside0 (Kd.R (Kd.int .i64) 3 wc w.heap.size (fun k_ => some k_ ≠ ((.slice Ao30 t300.length co30) : Value).ownBlock ∧ some k_ ≠ ((.slice Ao37 t306.length co37) : Value).ownBlock) (.slice Ao23 t293.length co23) t293) ∧ Aside0 (Kd.R (Kd.int .i64) 3 wc w.heap.size (fun k_ => some k_ ≠ ((.slice Ao23 t293.length co23) : Value).ownBlock ∧ some k_ ≠ ((.slice Ao37 t306.length co37) : Value).ownBlock) (.slice Ao30 t300.length co30) t320) ∧ Aside0 (Kd.R (Kd.int .i64) 3 wc w.heap.size (fun k_ => some k_ ≠ ((.slice Ao23 t293.length co23) : Value).ownBlock ∧ some k_ ≠ ((.slice Ao30 t300.length co30) : Value).ownBlock) (.slice Ao37 t306.length co37) t306) ∧ Aside0 (wc.heap[gb285]? = some (.cells #[.bool a0_0, (.slice A0_1 l0_1.length c0_1), .int .i64 a0_2] 42 (0, 0))) ∧ Aside0 (wc.heap[gb298]? = some (.cells #[.bool t292, (.slice Ao23 t293.length co23), .int .i64 t296] 30 (0, 0))) ∧ Aside0 (wc.heap[gb304]? = some (.cells #[.bool t299, (.slice Ao30 t300.length co30), .int .i64 t303] 30 (0, 0))) ∧ Aside0 (wc.heap[gb311]? = some (.cells #[.bool t305, (.slice Ao37 t306.length co37), .int .i64 t309] 30 (0, 0))) ∧ Aside0 (Below w.heap.size w wc))
            case first =>
              have H := HC61.out
              clear HC61
              by_cases c71 : t319 < 0
              · rw [if_pos c71] at H
                have c71b0 : decide (t319 < 0) = true := decide_eq_true c71
                clear c71
                (first | rw [c71b0] | (simp only [i64_w, i32_w]; rw [c71b0]) | skip)
                have H' := Aside0.mk H
                clear H
                go_wp2
                go_meet
                case rel => exact ⟨_, (true), (by first | rfl | (simp; done) | (simp [*]; done)), H', ⟨by have := HJ11.out; first | omega | exact Nat.le_refl _⟩, ⟨by (with_reducible repeat (first | apply Kd.R_alloc | apply Kd.R_drewN | apply Kd.R_drew)); exact Kd.R_mono HO_299001.out (fun _ hk => ⟨hk.1, hk.2.1⟩)⟩, ⟨by (with_reducible repeat (first | apply Kd.R_alloc | apply Kd.R_drewN | apply Kd.R_drew)); exact Kd.R_mono HO_305001.out (fun _ hk => ⟨hk.1.1, hk.1.2⟩)⟩, ⟨by (with_reducible repeat (first | apply Kd.R_alloc | apply Kd.R_drewN | apply Kd.R_drew)); exact Kd.R_mono HO_312001.out (fun _ hk => ⟨hk.1, hk.2.1⟩)⟩, ⟨by (with_reducible repeat (first | refine blk_drewN ?_ _ | refine blk_drew ?_ | refine blk_alloc ?_ _)); exact BK285.out⟩, ⟨by (with_reducible repeat (first | refine blk_drewN ?_ _ | refine blk_drew ?_ | refine blk_alloc ?_ _)); exact BK298.out⟩, ⟨by (with_reducible repeat (first | refine blk_drewN ?_ _ | refine blk_drew ?_ | refine blk_alloc ?_ _)); exact BK304.out⟩, ⟨by (with_reducible repeat (first | refine blk_drewN ?_ _ | refine blk_drew ?_ | refine blk_alloc ?_ _)); exact BK311.out⟩, ⟨by repeat (first | (with_reducible first | exact HB.out | apply below_alloc | apply pw_below_drewN | apply below_drew1 | refine below_set ?_ GE285.out | refine below_set ?_ GE298.out | refine below_set ?_ GE304.out | refine below_set ?_ GE311.out) | exact HB.out)⟩⟩
              · rw [if_neg c71] at H
                have c71b0 : decide (t319 < 0) = false := decide_eq_false c71
                clear c71
                (first | rw [c71b0] | (simp only [i64_w, i32_w]; rw [c71b0]) | skip)
                replace H := Option.bind_eq_some_iff.mp H
                obtain ⟨t321, A720, H⟩ := H
                replace H : (if t321 = true then (laws_FnExactDyShift.j1 kj11 a1 t297 (t310 != t297) a0_0 l0_1 a0_2 t292 t293 t296 t305 t306 t309) else (laws_FnExactDyShift.j1 kj11 a1 t297 true a0_0 l0_1 a0_2 t292 t293 t296 t305 t306 t309)) = some r := H
                have A72 := Aside0.mk A720
                clear A720
                by_cases c73 : t321 = true
                · subst c73
                  have H1 : (laws_FnExactDyShift.j1 kj11 a1 t297 (t310 != t297) a0_0 l0_1 a0_2 t292 t293 t296 t305 t306 t309) = some r := by rw [if_pos rfl] at H; exact H
                  clear H
                  have H := H1
                  clear H1
                  have H' := Aside0.mk H
                  clear H
                  have hnb74 := NB311_285.out
                  have hnc74 := NB285_311.out
                  have hnb75 := NB311_298.out
                  have hnc75 := NB298_311.out
                  have hnb76 := NB311_304.out
                  have hnc76 := NB304_311.out
                  have hcz77_0 : w70.cell? ⟨gb311, 0, none⟩ = some (.bool t305) := (blk_cell BK311.out 0).trans rfl
                  have hcz77_1 : w70.cell? ⟨gb311, 1, none⟩ = some (.slice Ao37 t306.length co37) := (blk_cell BK311.out 1).trans rfl
                  have hcz77_2 : w70.cell? ⟨gb311, 2, none⟩ = some (.int .i64 t309) := (blk_cell BK311.out 2).trans rfl
                  have hfz77_0 := blk_frozen BK311.out 0
                  have hfz77_1 := blk_frozen BK311.out 1
                  have hfz77_2 := blk_frozen BK311.out 2
                  have hnb78 := NB298_285.out
                  have hnc78 := NB285_298.out
                  have hnb79 := NB298_304.out
                  have hnc79 := NB304_298.out
                  have hcz80_0 : w70.cell? ⟨gb298, 0, none⟩ = some (.bool t292) := (blk_cell BK298.out 0).trans rfl
                  have hcz80_1 : w70.cell? ⟨gb298, 1, none⟩ = some (.slice Ao23 t293.length co23) := (blk_cell BK298.out 1).trans rfl
                  have hcz80_2 : w70.cell? ⟨gb298, 2, none⟩ = some (.int .i64 t296) := (blk_cell BK298.out 2).trans rfl
                  have hfz80_0 := blk_frozen BK298.out 0
                  have hfz80_1 := blk_frozen BK298.out 1
                  have hfz80_2 := blk_frozen BK298.out 2
                  go_wp2_with (first | (go_at_call 11; (with_reducible refine (laws_eqDy.calls kj11 t305 _ _ t306 t309 t292 _ _ t293 t296 true _ ?side1 ?side2 ?side3 ?side4 A72.out).mono ?_); (case side1 => repeat (first | exact (Kd.R_reads' HO_312001.out).2.2 | (with_reducible refine Kd.C_alloc ?_ _) | (with_reducible refine Kd.C_drewN ?_ _) | (with_reducible refine Kd.C_drew ?_))); (case side2 => exact (Kd.R_reads' HO_312001.out).2.1); (case side3 => repeat (first | exact (Kd.R_reads' HO_299001.out).2.2 | (with_reducible refine Kd.C_alloc ?_ _) | (with_reducible refine Kd.C_drewN ?_ _) | (with_reducible refine Kd.C_drew ?_))); (case side4 => exact (Kd.R_reads' HO_299001.out).2.1); rintro e w81 ⟨rfl, hb⟩; have n0_ := hkRb HO_299001 hb; have n1_ := hkRb HO_305001 hb; have n2_ := hkRb HO_312001 hb; have n3_ := hkRb HO316 hb; have n4_ := hkBb BK285 hb; have n5_ := hkBb BK298 hb; have n6_ := hkBb BK304 hb; have n7_ := hkBb BK311 hb; have n8_ := Aside0.mk (below_step (hkS HB) hb); clear HO_299001; clear HO_305001; clear HO_312001; clear HO316; clear BK285; clear BK298; clear BK304; clear BK311; clear HB; have HO_299001 := n0_; have HO_305001 := n1_; have HO_312001 := n2_; have HO316 := n3_; have BK285 := n4_; have BK298 := n5_; have BK304 := n6_; have BK311 := n7_; have HB := n8_; clear n0_ n1_ n2_ n3_ n4_ n5_ n6_ n7_ n8_; (try clear hb); (try clear hb2); (try clear hk); (try clear hi)))
                  go_meet
                  case rel => exact ⟨_, ((t310 != t297)), (by first | rfl | (simp; done) | (simp [*]; done)), H', ⟨by have := HJ11.out; first | omega | exact Nat.le_refl _⟩, ⟨by (with_reducible repeat (first | apply Kd.R_alloc | apply Kd.R_drewN | apply Kd.R_drew)); exact Kd.R_mono HO_299001.out (fun _ hk => ⟨hk.1, hk.2.1⟩)⟩, ⟨by (with_reducible repeat (first | apply Kd.R_alloc | apply Kd.R_drewN | apply Kd.R_drew)); exact Kd.R_mono HO_305001.out (fun _ hk => ⟨hk.1.1, hk.1.2⟩)⟩, ⟨by (with_reducible repeat (first | apply Kd.R_alloc | apply Kd.R_drewN | apply Kd.R_drew)); exact Kd.R_mono HO_312001.out (fun _ hk => ⟨hk.1, hk.2.1⟩)⟩, ⟨by (with_reducible repeat (first | refine blk_drewN ?_ _ | refine blk_drew ?_ | refine blk_alloc ?_ _)); exact BK285.out⟩, ⟨by (with_reducible repeat (first | refine blk_drewN ?_ _ | refine blk_drew ?_ | refine blk_alloc ?_ _)); exact BK298.out⟩, ⟨by (with_reducible repeat (first | refine blk_drewN ?_ _ | refine blk_drew ?_ | refine blk_alloc ?_ _)); exact BK304.out⟩, ⟨by (with_reducible repeat (first | refine blk_drewN ?_ _ | refine blk_drew ?_ | refine blk_alloc ?_ _)); exact BK311.out⟩, ⟨by repeat (first | (with_reducible first | exact HB.out | apply below_alloc | apply pw_below_drewN | apply below_drew1 | refine below_set ?_ GE285.out | refine below_set ?_ GE298.out | refine below_set ?_ GE304.out | refine below_set ?_ GE311.out) | exact HB.out)⟩⟩
                · replace c73 := Bool.eq_false_iff.mpr c73
                  subst c73
                  have H1 : (laws_FnExactDyShift.j1 kj11 a1 t297 true a0_0 l0_1 a0_2 t292 t293 t296 t305 t306 t309) = some r := by rw [if_neg (show ¬ (false = true) by decide)] at H; exact H
                  clear H
                  have H := H1
                  clear H1
                  have H' := Aside0.mk H
                  clear H
                  have hnb82 := NB311_285.out
                  have hnc82 := NB285_311.out
                  have hnb83 := NB311_298.out
                  have hnc83 := NB298_311.out
                  have hnb84 := NB311_304.out
                  have hnc84 := NB304_311.out
                  have hcz85_0 : w70.cell? ⟨gb311, 0, none⟩ = some (.bool t305) := (blk_cell BK311.out 0).trans rfl
                  have hcz85_1 : w70.cell? ⟨gb311, 1, none⟩ = some (.slice Ao37 t306.length co37) := (blk_cell BK311.out 1).trans rfl
                  have hcz85_2 : w70.cell? ⟨gb311, 2, none⟩ = some (.int .i64 t309) := (blk_cell BK311.out 2).trans rfl
                  have hfz85_0 := blk_frozen BK311.out 0
                  have hfz85_1 := blk_frozen BK311.out 1
                  have hfz85_2 := blk_frozen BK311.out 2
                  have hnb86 := NB298_285.out
                  have hnc86 := NB285_298.out
                  have hnb87 := NB298_304.out
                  have hnc87 := NB304_298.out
                  have hcz88_0 : w70.cell? ⟨gb298, 0, none⟩ = some (.bool t292) := (blk_cell BK298.out 0).trans rfl
                  have hcz88_1 : w70.cell? ⟨gb298, 1, none⟩ = some (.slice Ao23 t293.length co23) := (blk_cell BK298.out 1).trans rfl
                  have hcz88_2 : w70.cell? ⟨gb298, 2, none⟩ = some (.int .i64 t296) := (blk_cell BK298.out 2).trans rfl
                  have hfz88_0 := blk_frozen BK298.out 0
                  have hfz88_1 := blk_frozen BK298.out 1
                  have hfz88_2 := blk_frozen BK298.out 2
                  go_wp2_with (first | (go_at_call 11; (with_reducible refine (laws_eqDy.calls kj11 t305 _ _ t306 t309 t292 _ _ t293 t296 false _ ?side1 ?side2 ?side3 ?side4 A72.out).mono ?_); (case side1 => repeat (first | exact (Kd.R_reads' HO_312001.out).2.2 | (with_reducible refine Kd.C_alloc ?_ _) | (with_reducible refine Kd.C_drewN ?_ _) | (with_reducible refine Kd.C_drew ?_))); (case side2 => exact (Kd.R_reads' HO_312001.out).2.1); (case side3 => repeat (first | exact (Kd.R_reads' HO_299001.out).2.2 | (with_reducible refine Kd.C_alloc ?_ _) | (with_reducible refine Kd.C_drewN ?_ _) | (with_reducible refine Kd.C_drew ?_))); (case side4 => exact (Kd.R_reads' HO_299001.out).2.1); rintro e w89 ⟨rfl, hb⟩; have n0_ := hkRb HO_299001 hb; have n1_ := hkRb HO_305001 hb; have n2_ := hkRb HO_312001 hb; have n3_ := hkRb HO316 hb; have n4_ := hkBb BK285 hb; have n5_ := hkBb BK298 hb; have n6_ := hkBb BK304 hb; have n7_ := hkBb BK311 hb; have n8_ := Aside0.mk (below_step (hkS HB) hb); clear HO_299001; clear HO_305001; clear HO_312001; clear HO316; clear BK285; clear BK298; clear BK304; clear BK311; clear HB; have HO_299001 := n0_; have HO_305001 := n1_; have HO_312001 := n2_; have HO316 := n3_; have BK285 := n4_; have BK298 := n5_; have BK304 := n6_; have BK311 := n7_; have HB := n8_; clear n0_ n1_ n2_ n3_ n4_ n5_ n6_ n7_ n8_; (try clear hb); (try clear hb2); (try clear hk); (try clear hi)))
                  go_meet
                  case rel => exact ⟨_, (true), (by first | rfl | (simp; done) | (simp [*]; done)), H', ⟨by have := HJ11.out; first | omega | exact Nat.le_refl _⟩, ⟨by (with_reducible repeat (first | apply Kd.R_alloc | apply Kd.R_drewN | apply Kd.R_drew)); exact Kd.R_mono HO_299001.out (fun _ hk => ⟨hk.1, hk.2.1⟩)⟩, ⟨by (with_reducible repeat (first | apply Kd.R_alloc | apply Kd.R_drewN | apply Kd.R_drew)); exact Kd.R_mono HO_305001.out (fun _ hk => ⟨hk.1.1, hk.1.2⟩)⟩, ⟨by (with_reducible repeat (first | apply Kd.R_alloc | apply Kd.R_drewN | apply Kd.R_drew)); exact Kd.R_mono HO_312001.out (fun _ hk => ⟨hk.1, hk.2.1⟩)⟩, ⟨by (with_reducible repeat (first | refine blk_drewN ?_ _ | refine blk_drew ?_ | refine blk_alloc ?_ _)); exact BK285.out⟩, ⟨by (with_reducible repeat (first | refine blk_drewN ?_ _ | refine blk_drew ?_ | refine blk_alloc ?_ _)); exact BK298.out⟩, ⟨by (with_reducible repeat (first | refine blk_drewN ?_ _ | refine blk_drew ?_ | refine blk_alloc ?_ _)); exact BK304.out⟩, ⟨by (with_reducible repeat (first | refine blk_drewN ?_ _ | refine blk_drew ?_ | refine blk_alloc ?_ _)); exact BK311.out⟩, ⟨by repeat (first | (with_reducible first | exact HB.out | apply below_alloc | apply pw_below_drewN | apply below_drew1 | refine below_set ?_ GE285.out | refine below_set ?_ GE298.out | refine below_set ?_ GE304.out | refine below_set ?_ GE311.out) | exact HB.out)⟩⟩
            case rest =>
              clear HC61
              try clear c1
              try clear c2
              try clear p2
              try clear c3
              try clear c4
              try clear c4b0
              try clear c5
              try clear c6
              try clear c7
              try clear c8
              try clear c11
              try clear c12
              try clear c14
              try clear c15
              try clear c16
              try clear c17
              try clear c21
              try clear c27
              try clear c28
              try clear c33
              try clear c34
              try clear c35
              try clear c39
              try clear c40
              try clear c41
              try clear c42
              try clear c44
              try clear c45
              try clear c48
              try clear c49
              try clear c50
              try clear c52
              try clear c53
              try clear c56
              try clear c59
              try clear c66
              try clear c67
              try clear c68
              try clear c71
              try clear c71b0
              try clear c73
              try clear c74
              try clear c75
              try clear c76
              try clear c78
              try clear c79
              try clear c82
              try clear c83
              try clear c84
              try clear c86
              try clear c87
              try clear hcz14_0
              try clear hcz14_1
              try clear hcz14_2
              try clear hcz16_0
              try clear hcz16_1
              try clear hcz16_2
              try clear hcz22_0
              try clear hcz22_1
              try clear hcz22_2
              try clear hcz24_0
              try clear hcz24_1
              try clear hcz24_2
              try clear hcz29_0
              try clear hcz29_1
              try clear hcz29_2
              try clear hcz36_0
              try clear hcz36_1
              try clear hcz36_2
              try clear hcz43_0
              try clear hcz43_1
              try clear hcz43_2
              try clear hcz46_0
              try clear hcz46_1
              try clear hcz46_2
              try clear hcz51_0
              try clear hcz51_1
              try clear hcz51_2
              try clear hcz54_0
              try clear hcz54_1
              try clear hcz54_2
              try clear hcz69_0
              try clear hcz69_1
              try clear hcz69_2
              try clear hcz6_0
              try clear hcz6_1
              try clear hcz6_2
              try clear hcz77_0
              try clear hcz77_1
              try clear hcz77_2
              try clear hcz80_0
              try clear hcz80_1
              try clear hcz80_2
              try clear hcz85_0
              try clear hcz85_1
              try clear hcz85_2
              try clear hcz88_0
              try clear hcz88_1
              try clear hcz88_2
              try clear hfz14_0
              try clear hfz14_1
              try clear hfz14_2
              try clear hfz16_0
              try clear hfz16_1
              try clear hfz16_2
              try clear hfz22_0
              try clear hfz22_1
              try clear hfz22_2
              try clear hfz24_0
              try clear hfz24_1
              try clear hfz24_2
              try clear hfz29_0
              try clear hfz29_1
              try clear hfz29_2
              try clear hfz36_0
              try clear hfz36_1
              try clear hfz36_2
              try clear hfz43_0
              try clear hfz43_1
              try clear hfz43_2
              try clear hfz46_0
              try clear hfz46_1
              try clear hfz46_2
              try clear hfz51_0
              try clear hfz51_1
              try clear hfz51_2
              try clear hfz54_0
              try clear hfz54_1
              try clear hfz54_2
              try clear hfz69_0
              try clear hfz69_1
              try clear hfz69_2
              try clear hfz6_0
              try clear hfz6_1
              try clear hfz6_2
              try clear hfz77_0
              try clear hfz77_1
              try clear hfz77_2
              try clear hfz80_0
              try clear hfz80_1
              try clear hfz80_2
              try clear hfz85_0
              try clear hfz85_1
              try clear hfz85_2
              try clear hfz88_0
              try clear hfz88_1
              try clear hfz88_2
              try clear p2
              obtain ⟨kq, x65_60, rfl, HA, HJ60, HO_299001, HO_305001, HO_312001, BK285, BK298, BK304, BK311, HB⟩ := hcut
              have hl305001_60 := (Kd.R_reads' HO_305001.out).1
              rw [hl305001_60] at HO_305001
              (try simp only [hl305001_60])
              (try simp only [hl305001_60] at BK285)
              (try simp only [hl305001_60] at BK298)
              (try simp only [hl305001_60] at BK304)
              (try simp only [hl305001_60] at BK311)
              (try simp only [hl305001_60] at HO_299001)
              (try simp only [hl305001_60] at HO_312001)
              cases kq with
              | zero => exact absurd HA.out (by simp [laws_FnExactDyShift.j1])
              | succ kj60 =>
                have H := HA.out
                clear HA
                simp only [laws_FnExactDyShift.j1] at H
                by_cases c90 : x65_60 = true
                · subst c90
                  have H1 : (some false) = some r := by rw [if_pos rfl] at H; exact H
                  clear H
                  have H := H1
                  clear H1
                  obtain rfl := Option.some.inj H
                  go_wp2
                  go_ret
                  exact ⟨by first | rfl | (simp [errW_none, errW_some] <;> rfl) | (simp [*, errW_none, errW_some] <;> rfl), by repeat (first | (with_reducible first | exact HB.out | apply below_alloc | apply pw_below_drewN | apply below_drew1 | refine below_set ?_ GE285.out | refine below_set ?_ GE298.out | refine below_set ?_ GE304.out | refine below_set ?_ GE311.out) | exact HB.out)⟩
                · replace c90 := Bool.eq_false_iff.mpr c90
                  subst c90
                  have H1 : ((laws_markDy.f kj60 t305 t306 t309 1).bind fun bt322 => ((laws_heldDy.f kj60 t305 bt322.2 t309 1).bind fun t324 => (if t324 < 0 then (some false) else (if t324 = bt322.1 then ((laws_toDy.f kj60 a0_0 l0_1 a0_2).bind fun bt325 => ((impl_DyShift.f kj60 bt325.1 bt325.2.1 bt325.2.2 a1).bind fun bt330 => ((laws_eqDy.f kj60 bt330.1 bt330.2.1 bt330.2.2.1 t292 t293 t296).bind fun t337 => (if t337 = true then (laws_FnExactDyShift.j2 kj60 bt322.1 (bt330.2.2.2 != t297) t305 bt322.2 t309) else (laws_FnExactDyShift.j2 kj60 bt322.1 true t305 bt322.2 t309))))) else (some false))))) = some r := by rw [if_neg (show ¬ (false = true) by decide)] at H; exact H
                  clear H
                  have H := H1
                  clear H1
                  replace H := Option.bind_eq_some_iff.mp H
                  obtain ⟨⟨t322, t323⟩, A910, H⟩ := H
                  replace H : ((laws_heldDy.f kj60 t305 t323 t309 1).bind fun t324 => (if t324 < 0 then (some false) else (if t324 = t322 then ((laws_toDy.f kj60 a0_0 l0_1 a0_2).bind fun bt325 => ((impl_DyShift.f kj60 bt325.1 bt325.2.1 bt325.2.2 a1).bind fun bt330 => ((laws_eqDy.f kj60 bt330.1 bt330.2.1 bt330.2.2.1 t292 t293 t296).bind fun t337 => (if t337 = true then (laws_FnExactDyShift.j2 kj60 t322 (bt330.2.2.2 != t297) t305 t323 t309) else (laws_FnExactDyShift.j2 kj60 t322 true t305 t323 t309))))) else (some false)))) = some r := H
                  have A91 := Aside0.mk A910
                  clear A910
                  replace H := Option.bind_eq_some_iff.mp H
                  obtain ⟨t324, A920, H⟩ := H
                  replace H : (if t324 < 0 then (some false) else (if t324 = t322 then ((laws_toDy.f kj60 a0_0 l0_1 a0_2).bind fun bt325 => ((impl_DyShift.f kj60 bt325.1 bt325.2.1 bt325.2.2 a1).bind fun bt330 => ((laws_eqDy.f kj60 bt330.1 bt330.2.1 bt330.2.2.1 t292 t293 t296).bind fun t337 => (if t337 = true then (laws_FnExactDyShift.j2 kj60 t322 (bt330.2.2.2 != t297) t305 t323 t309) else (laws_FnExactDyShift.j2 kj60 t322 true t305 t323 t309))))) else (some false))) = some r := H
                  have A92 := Aside0.mk A920
                  clear A920
                  by_cases c93 : t324 < 0
                  · rw [if_pos c93] at H
                    have c93b0 : decide (t324 < 0) = true := decide_eq_true c93
                    clear c93
                    obtain rfl := Option.some.inj H
                    have hnb94 := NB311_285.out
                    have hnc94 := NB285_311.out
                    have hnb95 := NB311_298.out
                    have hnc95 := NB298_311.out
                    have hnb96 := NB311_304.out
                    have hnc96 := NB304_311.out
                    have hcz97_0 : wc.cell? ⟨gb311, 0, none⟩ = some (.bool t305) := (blk_cell BK311.out 0).trans rfl
                    have hcz97_1 : wc.cell? ⟨gb311, 1, none⟩ = some (.slice Ao37 t306.length co37) := (blk_cell BK311.out 1).trans rfl
                    have hcz97_2 : wc.cell? ⟨gb311, 2, none⟩ = some (.int .i64 t309) := (blk_cell BK311.out 2).trans rfl
                    have hfz97_0 := blk_frozen BK311.out 0
                    have hfz97_1 := blk_frozen BK311.out 1
                    have hfz97_2 := blk_frozen BK311.out 2
                    go_wp2_with (first | ((with_reducible refine gate_callee (f := 12) rfl ?_); refine goesL_ (some 68) rfl rfl Tryd.func12 (by kernel_rfl) rfl #[.agg #[.bool t305, .slice Ao37 t306.length co37, .int .i64 t309], .int .i64 1] rfl hkL ?_; (with_reducible refine (laws_markDy.calls kj60 t305 (fun k_ => some k_ = (.slice Ao37 t306.length co37 : Value).ownBlock) (.slice Ao37 t306.length co37) t306 t309 1 t322 t323 w _ ?side1 ?side2 A91.out).mono ?_); (case side1 => repeat (first | (with_reducible first | exact HB.out | apply below_alloc | apply pw_below_drewN | apply below_drew1 | refine below_set ?_ GE285.out | refine below_set ?_ GE298.out | refine below_set ?_ GE304.out | refine below_set ?_ GE311.out) | exact HB.out)); (case side2 => exact Kd.R_tight rfl HO_312001.out); rintro e w98 ⟨rfl, hy0, hb, hkp⟩; refine ⟨_, rfl, ?_⟩; have n0_ := Aside0.mk (Kd.R_mono (ok' := fun k_ => some k_ ≠ (.slice Ao30 t320.length co30 : Value).ownBlock ∧ some k_ ≠ (.slice Ao37 t306.length co37 : Value).ownBlock) (Kd.R_keptB (HO_299001.out) hkp (fun k_ hk_ hs_ => (hk_.2) hs_)) (fun k_ hk_ => ⟨hk_.1.1, hk_.1.2⟩)); have n1_ := Aside0.mk (Kd.R_mono (ok' := fun k_ => some k_ ≠ (.slice Ao23 t293.length co23 : Value).ownBlock ∧ some k_ ≠ (.slice Ao37 t306.length co37 : Value).ownBlock) (Kd.R_keptB (HO_305001.out) hkp (fun k_ hk_ hs_ => (hk_.2) hs_)) (fun k_ hk_ => ⟨hk_.1.1, hk_.1.2⟩)); have n2_ := Aside0.mk (Kd.R_reok rfl hy0 (fun k_ e_ => HO_312001.out.1 k_ e_)); have n3_ := Aside0.mk (blk_kept (hkB BK285) hkp (fun hs_ => (fun e_ => (Kd.R_ne HO_312001.out BK285.out (by decide)) e_) hs_)); have n4_ := Aside0.mk (blk_kept (hkB BK298) hkp (fun hs_ => (fun e_ => (Kd.R_ne HO_312001.out BK298.out (by decide)) e_) hs_)); have n5_ := Aside0.mk (blk_kept (hkB BK304) hkp (fun hs_ => (fun e_ => (Kd.R_ne HO_312001.out BK304.out (by decide)) e_) hs_)); have n6_ := Aside0.mk (blk_kept (hkB BK311) hkp (fun hs_ => (fun e_ => (Kd.R_ne HO_312001.out BK311.out (by decide)) e_) hs_)); have n7_ := Aside0.mk (hb); clear HO_299001; clear HO_305001; clear HO_312001; clear BK285; clear BK298; clear BK304; clear BK311; clear HB; have HO_299001 := n0_; have HO_305001 := n1_; have HO_312001 := n2_; have BK285 := n3_; have BK298 := n4_; have BK304 := n5_; have BK311 := n6_; have HB := n7_; clear n0_ n1_ n2_ n3_ n4_ n5_ n6_ n7_; (try clear hb); (try clear hkp); (try clear hy0); have hcz99_0 : w98.cell? ⟨gb311, 0, none⟩ = some (.bool t305) := (blk_cell BK311.out 0).trans rfl; have hcz99_1 : w98.cell? ⟨gb311, 1, none⟩ = some (.slice Ao37 t306.length co37) := (blk_cell BK311.out 1).trans rfl; have hcz99_2 : w98.cell? ⟨gb311, 2, none⟩ = some (.int .i64 t309) := (blk_cell BK311.out 2).trans rfl; have hfz99_0 := blk_frozen BK311.out 0; have hfz99_1 := blk_frozen BK311.out 1; have hfz99_2 := blk_frozen BK311.out 2) | ((with_reducible refine gate_callee (f := 13) rfl ?_); refine goesL_ (some 71) rfl rfl Tryd.func13 (by kernel_rfl) rfl #[.agg #[.bool t305, .slice Ao37 t323.length co37, .int .i64 t309], .int .i64 1] rfl (by (try simp only [List.map_toArray, List.map_cons, List.map_nil]); first | done | (rw [show t323.length = t306.length from (Kd.R_reads' HO_312001.out).1.symm] <;> rfl) | rfl | (simp only [List.length_drop, List.length_take]; rfl)) ?_; (with_reducible refine (laws_heldDy.calls kj60 t305 _ _ t323 t309 1 t324 _ ?side1 ?side2 A92.out).mono ?_); (case side1 => repeat (first | exact (Kd.R_reads' HO_312001.out).2.2 | (with_reducible refine Kd.C_alloc ?_ _) | (with_reducible refine Kd.C_drewN ?_ _) | (with_reducible refine Kd.C_drew ?_))); (case side2 => rw [show t323.length = t306.length from (Kd.R_reads' HO_312001.out).1.symm]; exact (Kd.R_reads' HO_312001.out).2.1); rintro e w100 ⟨rfl, hb⟩; refine ⟨_, rfl, ?_⟩; have n0_ := hkRb HO_299001 hb; have n1_ := hkRb HO_305001 hb; have n2_ := hkRb HO_312001 hb; have n3_ := hkBb BK285 hb; have n4_ := hkBb BK298 hb; have n5_ := hkBb BK304 hb; have n6_ := hkBb BK311 hb; have n7_ := Aside0.mk (below_step (hkS HB) hb); clear HO_299001; clear HO_305001; clear HO_312001; clear BK285; clear BK298; clear BK304; clear BK311; clear HB; have HO_299001 := n0_; have HO_305001 := n1_; have HO_312001 := n2_; have BK285 := n3_; have BK298 := n4_; have BK304 := n5_; have BK311 := n6_; have HB := n7_; clear n0_ n1_ n2_ n3_ n4_ n5_ n6_ n7_; (try clear hb); (try clear hb2); (try clear hk); (try clear hi)))
                    go_ret
                    exact ⟨by first | rfl | (simp [errW_none, errW_some] <;> rfl) | (simp [*, errW_none, errW_some] <;> rfl), by repeat (first | (with_reducible first | exact HB.out | apply below_alloc | apply pw_below_drewN | apply below_drew1 | refine below_set ?_ GE285.out | refine below_set ?_ GE298.out | refine below_set ?_ GE304.out | refine below_set ?_ GE311.out) | exact HB.out)⟩
                  · rw [if_neg c93] at H
                    have c93b0 : decide (t324 < 0) = false := decide_eq_false c93
                    clear c93
                    by_cases c101 : t324 = t322
                    · rw [if_pos c101] at H
                      have c101b0 : (t324 == t322) = true := beq_iff_eq.mpr c101
                      have c101b1 : (t324 != t322) = false := bne_eq_false_iff_eq.mpr c101
                      clear c101
                      replace H := Option.bind_eq_some_iff.mp H
                      obtain ⟨⟨t325, t326, t329⟩, A1020, H⟩ := H
                      replace H : ((impl_DyShift.f kj60 t325 t326 t329 a1).bind fun bt330 => ((laws_eqDy.f kj60 bt330.1 bt330.2.1 bt330.2.2.1 t292 t293 t296).bind fun t337 => (if t337 = true then (laws_FnExactDyShift.j2 kj60 t322 (bt330.2.2.2 != t297) t305 t323 t309) else (laws_FnExactDyShift.j2 kj60 t322 true t305 t323 t309)))) = some r := H
                      have A102 := Aside0.mk A1020
                      clear A1020
                      replace H := Option.bind_eq_some_iff.mp H
                      obtain ⟨⟨t330, t331, t334, t335⟩, A1030, H⟩ := H
                      replace H : ((laws_eqDy.f kj60 t330 t331 t334 t292 t293 t296).bind fun t337 => (if t337 = true then (laws_FnExactDyShift.j2 kj60 t322 (t335 != t297) t305 t323 t309) else (laws_FnExactDyShift.j2 kj60 t322 true t305 t323 t309))) = some r := H
                      have A103 := Aside0.mk A1030
                      clear A1030
                      have HC104 := Aside0.mk H
                      clear H
                      have hnb105 := NB311_285.out
                      have hnc105 := NB285_311.out
                      have hnb106 := NB311_298.out
                      have hnc106 := NB298_311.out
                      have hnb107 := NB311_304.out
                      have hnc107 := NB304_311.out
                      have hcz108_0 : wc.cell? ⟨gb311, 0, none⟩ = some (.bool t305) := (blk_cell BK311.out 0).trans rfl
                      have hcz108_1 : wc.cell? ⟨gb311, 1, none⟩ = some (.slice Ao37 t306.length co37) := (blk_cell BK311.out 1).trans rfl
                      have hcz108_2 : wc.cell? ⟨gb311, 2, none⟩ = some (.int .i64 t309) := (blk_cell BK311.out 2).trans rfl
                      have hfz108_0 := blk_frozen BK311.out 0
                      have hfz108_1 := blk_frozen BK311.out 1
                      have hfz108_2 := blk_frozen BK311.out 2
                      go_upto_region 25 with (first | ((with_reducible refine gate_callee (f := 12) rfl ?_); refine goesL_ (some 68) rfl rfl Tryd.func12 (by kernel_rfl) rfl #[.agg #[.bool t305, .slice Ao37 t306.length co37, .int .i64 t309], .int .i64 1] rfl hkL ?_; (with_reducible refine (laws_markDy.calls kj60 t305 (fun k_ => some k_ = (.slice Ao37 t306.length co37 : Value).ownBlock) (.slice Ao37 t306.length co37) t306 t309 1 t322 t323 w _ ?side1 ?side2 A91.out).mono ?_); (case side1 => repeat (first | (with_reducible first | exact HB.out | apply below_alloc | apply pw_below_drewN | apply below_drew1 | refine below_set ?_ GE285.out | refine below_set ?_ GE298.out | refine below_set ?_ GE304.out | refine below_set ?_ GE311.out) | exact HB.out)); (case side2 => exact Kd.R_tight rfl HO_312001.out); rintro e w109 ⟨rfl, hy0, hb, hkp⟩; refine ⟨_, rfl, ?_⟩; have n0_ := Aside0.mk (Kd.R_mono (ok' := fun k_ => some k_ ≠ (.slice Ao30 t320.length co30 : Value).ownBlock ∧ some k_ ≠ (.slice Ao37 t306.length co37 : Value).ownBlock) (Kd.R_keptB (HO_299001.out) hkp (fun k_ hk_ hs_ => (hk_.2) hs_)) (fun k_ hk_ => ⟨hk_.1.1, hk_.1.2⟩)); have n1_ := Aside0.mk (Kd.R_mono (ok' := fun k_ => some k_ ≠ (.slice Ao23 t293.length co23 : Value).ownBlock ∧ some k_ ≠ (.slice Ao37 t306.length co37 : Value).ownBlock) (Kd.R_keptB (HO_305001.out) hkp (fun k_ hk_ hs_ => (hk_.2) hs_)) (fun k_ hk_ => ⟨hk_.1.1, hk_.1.2⟩)); have n2_ := Aside0.mk (Kd.R_reok rfl hy0 (fun k_ e_ => HO_312001.out.1 k_ e_)); have n3_ := Aside0.mk (blk_kept (hkB BK285) hkp (fun hs_ => (fun e_ => (Kd.R_ne HO_312001.out BK285.out (by decide)) e_) hs_)); have n4_ := Aside0.mk (blk_kept (hkB BK298) hkp (fun hs_ => (fun e_ => (Kd.R_ne HO_312001.out BK298.out (by decide)) e_) hs_)); have n5_ := Aside0.mk (blk_kept (hkB BK304) hkp (fun hs_ => (fun e_ => (Kd.R_ne HO_312001.out BK304.out (by decide)) e_) hs_)); have n6_ := Aside0.mk (blk_kept (hkB BK311) hkp (fun hs_ => (fun e_ => (Kd.R_ne HO_312001.out BK311.out (by decide)) e_) hs_)); have n7_ := Aside0.mk (hb); clear HO_299001; clear HO_305001; clear HO_312001; clear BK285; clear BK298; clear BK304; clear BK311; clear HB; have HO_299001 := n0_; have HO_305001 := n1_; have HO_312001 := n2_; have BK285 := n3_; have BK298 := n4_; have BK304 := n5_; have BK311 := n6_; have HB := n7_; clear n0_ n1_ n2_ n3_ n4_ n5_ n6_ n7_; (try clear hb); (try clear hkp); (try clear hy0); have hcz110_0 : w109.cell? ⟨gb311, 0, none⟩ = some (.bool t305) := (blk_cell BK311.out 0).trans rfl; have hcz110_1 : w109.cell? ⟨gb311, 1, none⟩ = some (.slice Ao37 t306.length co37) := (blk_cell BK311.out 1).trans rfl; have hcz110_2 : w109.cell? ⟨gb311, 2, none⟩ = some (.int .i64 t309) := (blk_cell BK311.out 2).trans rfl; have hfz110_0 := blk_frozen BK311.out 0; have hfz110_1 := blk_frozen BK311.out 1; have hfz110_2 := blk_frozen BK311.out 2) | ((with_reducible refine gate_callee (f := 13) rfl ?_); refine goesL_ (some 71) rfl rfl Tryd.func13 (by kernel_rfl) rfl #[.agg #[.bool t305, .slice Ao37 t323.length co37, .int .i64 t309], .int .i64 1] rfl (by (try simp only [List.map_toArray, List.map_cons, List.map_nil]); first | done | (rw [show t323.length = t306.length from (Kd.R_reads' HO_312001.out).1.symm] <;> rfl) | rfl | (simp only [List.length_drop, List.length_take]; rfl)) ?_; (with_reducible refine (laws_heldDy.calls kj60 t305 _ _ t323 t309 1 t324 _ ?side1 ?side2 A92.out).mono ?_); (case side1 => repeat (first | exact (Kd.R_reads' HO_312001.out).2.2 | (with_reducible refine Kd.C_alloc ?_ _) | (with_reducible refine Kd.C_drewN ?_ _) | (with_reducible refine Kd.C_drew ?_))); (case side2 => rw [show t323.length = t306.length from (Kd.R_reads' HO_312001.out).1.symm]; exact (Kd.R_reads' HO_312001.out).2.1); rintro e w111 ⟨rfl, hb⟩; refine ⟨_, rfl, ?_⟩; have n0_ := hkRb HO_299001 hb; have n1_ := hkRb HO_305001 hb; have n2_ := hkRb HO_312001 hb; have n3_ := hkBb BK285 hb; have n4_ := hkBb BK298 hb; have n5_ := hkBb BK304 hb; have n6_ := hkBb BK311 hb; have n7_ := Aside0.mk (below_step (hkS HB) hb); clear HO_299001; clear HO_305001; clear HO_312001; clear BK285; clear BK298; clear BK304; clear BK311; clear HB; have HO_299001 := n0_; have HO_305001 := n1_; have HO_312001 := n2_; have BK285 := n3_; have BK298 := n4_; have BK304 := n5_; have BK311 := n6_; have HB := n7_; clear n0_ n1_ n2_ n3_ n4_ n5_ n6_ n7_; (try clear hb); (try clear hb2); (try clear hk); (try clear hi); have hnb112 := NB285_298.out; have hnc112 := NB298_285.out; have hnb113 := NB285_304.out; have hnc113 := NB304_285.out; have hcz114_0 : w111.cell? ⟨gb285, 0, none⟩ = some (.bool a0_0) := (blk_cell BK285.out 0).trans rfl; have hcz114_1 : w111.cell? ⟨gb285, 1, none⟩ = some (.slice A0_1 l0_1.length c0_1) := (blk_cell BK285.out 1).trans rfl; have hcz114_2 : w111.cell? ⟨gb285, 2, none⟩ = some (.int .i64 a0_2) := (blk_cell BK285.out 2).trans rfl; have hfz114_0 := blk_frozen BK285.out 0; have hfz114_1 := blk_frozen BK285.out 1; have hfz114_2 := blk_frozen BK285.out 2) | ((with_reducible refine gate_callee (f := 16) rfl ?_); refine goesL_ (some 79) rfl rfl Tryd.func16 (by kernel_rfl) rfl #[.agg #[.bool a0_0, .slice A0_1 l0_1.length c0_1, .int .i64 a0_2]] rfl hkL ?_; (with_reducible refine (laws_toDy.calls kj60 a0_0 _ _ l0_1 a0_2 t325 t326 t329 _ ?side1 ?side2 A102.out).mono ?_); (case side1 => repeat (first | exact (Kd.C_below HR0_1.out HB.out) | (with_reducible refine Kd.C_alloc ?_ _) | (with_reducible refine Kd.C_drewN ?_ _) | (with_reducible refine Kd.C_drew ?_))); (case side2 => exact HC0_1.out); rintro e w115 ⟨v327, rfl, ho0, hb⟩; refine ⟨_, rfl, ?_⟩; have n0_ := Aside0.mk (Kd.R_elder' (hkR HO_299001) (Kd.R_base ho0) hb); have n1_ := Aside0.mk (Kd.R_elder' (hkR HO_305001) (Kd.R_base ho0) hb); have n2_ := Aside0.mk (Kd.R_elder' (hkR HO_312001) (Kd.R_base ho0) hb); have n3_ := Aside0.mk (Kd.R_lower (Kd.R_new' (Kd.R_new' (Kd.R_new' ho0 (Kd.R_lt (hkR HO_299001))) (Kd.R_lt (hkR HO_305001))) (Kd.R_lt (hkR HO_312001))) (below_size (hkS HB))); have n4_ := hkBb BK285 hb; have n5_ := hkBb BK298 hb; have n6_ := hkBb BK304 hb; have n7_ := hkBb BK311 hb; have n8_ := Aside0.mk (below_step (hkS HB) hb); clear HO_299001; clear HO_305001; clear HO_312001; clear BK285; clear BK298; clear BK304; clear BK311; clear HB; have HO_299001 := n0_; have HO_305001 := n1_; have HO_312001 := n2_; have HO328 := n3_; have BK285 := n4_; have BK298 := n5_; have BK304 := n6_; have BK311 := n7_; have HB := n8_; clear n0_ n1_ n2_ n3_ n4_ n5_ n6_ n7_ n8_; (try clear hb); (try clear hb2); (try clear hk); (try clear hi); (try clear ho0); obtain ⟨Ao116, co116, eo116⟩ := Kd.R_slice HO328.out; subst eo116) | ((with_reducible refine gate_callee (f := 17) rfl ?_); refine goesL_ (some 81) rfl rfl Tryd.func17 (by kernel_rfl) rfl #[.agg #[.bool t325, .slice Ao116 t326.length co116, .int .i64 t329], .int .i64 a1] rfl hkL ?_; (with_reducible refine (impl_DyShift.calls kj60 t325 _ _ t326 t329 a1 t330 t331 t334 t335 _ ?side1 ?side2 A103.out).mono ?_); (case side1 => repeat (first | exact (Kd.R_reads' HO328.out).2.2 | (with_reducible refine Kd.C_alloc ?_ _) | (with_reducible refine Kd.C_drewN ?_ _) | (with_reducible refine Kd.C_drew ?_))); (case side2 => exact (Kd.R_reads' HO328.out).2.1); rintro e w117 ⟨v332, rfl, ho0, hb⟩; refine ⟨_, rfl, ?_⟩; have n0_ := Aside0.mk (Kd.R_elder' (hkR HO_299001) (Kd.R_base ho0) hb); have n1_ := Aside0.mk (Kd.R_elder' (hkR HO_305001) (Kd.R_base ho0) hb); have n2_ := Aside0.mk (Kd.R_elder' (hkR HO_312001) (Kd.R_base ho0) hb); have n3_ := Aside0.mk (Kd.R_elder' (hkR HO328) (Kd.R_base ho0) hb); have n4_ := Aside0.mk (Kd.R_lower (Kd.R_new' (Kd.R_new' (Kd.R_new' (Kd.R_new' ho0 (Kd.R_lt (hkR HO_299001))) (Kd.R_lt (hkR HO_305001))) (Kd.R_lt (hkR HO_312001))) (Kd.R_lt (hkR HO328))) (below_size (hkS HB))); have n5_ := hkBb BK285 hb; have n6_ := hkBb BK298 hb; have n7_ := hkBb BK304 hb; have n8_ := hkBb BK311 hb; have n9_ := Aside0.mk (below_step (hkS HB) hb); clear HO_299001; clear HO_305001; clear HO_312001; clear HO328; clear BK285; clear BK298; clear BK304; clear BK311; clear HB; have HO_299001 := n0_; have HO_305001 := n1_; have HO_312001 := n2_; have HO328 := n3_; have HO333 := n4_; have BK285 := n5_; have BK298 := n6_; have BK304 := n7_; have BK311 := n8_; have HB := n9_; clear n0_ n1_ n2_ n3_ n4_ n5_ n6_ n7_ n8_ n9_; (try clear hb); (try clear hb2); (try clear hk); (try clear hi); (try clear ho0)) | ((with_reducible refine gate_dst (N := 14) rfl ?_); refine box_event ?hg (N := 14) ?hd (cs := #[.bool false, .slice none 0 0, .int .i64 0]) (t := 30) ?hr ?_; (case hd => rfl); (case hg => rfl); (case hr => first | (go_simp; done) | (go_simp; rfl)); intro gb336 hg w118 hbox hb; have n0_ := hkRb HO_299001 hb; have n1_ := hkRb HO_305001 hb; have n2_ := hkRb HO_312001 hb; have n3_ := hkRb HO328 hb; have n4_ := hkRb HO333 hb; have n5_ := hkBb BK285 hb; have n6_ := hkBb BK298 hb; have n7_ := hkBb BK304 hb; have n8_ := hkBb BK311 hb; have n9_ := Aside0.mk (below_step (hkS HB) hb); have n10_ := Aside0.mk (hbox); have n11_ := hkG hg (hkS HB); have n12_ := hkG hg (hkS HB); have n13_ := hkN hg BK285; have n14_ := hkM hg BK285; have n15_ := hkN hg BK298; have n16_ := hkM hg BK298; have n17_ := hkN hg BK304; have n18_ := hkM hg BK304; have n19_ := hkN hg BK311; have n20_ := hkM hg BK311; clear HO_299001; clear HO_305001; clear HO_312001; clear HO328; clear HO333; clear BK285; clear BK298; clear BK304; clear BK311; clear HB; have HO_299001 := n0_; have HO_305001 := n1_; have HO_312001 := n2_; have HO328 := n3_; have HO333 := n4_; have BK285 := n5_; have BK298 := n6_; have BK304 := n7_; have BK311 := n8_; have HB := n9_; have BK336 := n10_; have GW336 := n11_; have GE336 := n12_; have NB285_336 := n13_; have NB336_285 := n14_; have NB298_336 := n15_; have NB336_298 := n16_; have NB304_336 := n17_; have NB336_304 := n18_; have NB311_336 := n19_; have NB336_311 := n20_; clear n0_ n1_ n2_ n3_ n4_ n5_ n6_ n7_ n8_ n9_ n10_ n11_ n12_ n13_ n14_ n15_ n16_ n17_ n18_ n19_ n20_; clear hb hbox hg; have hnb119 := NB336_285.out; have hnc119 := NB285_336.out; have hnb120 := NB336_298.out; have hnc120 := NB298_336.out; have hnb121 := NB336_304.out; have hnc121 := NB304_336.out; have hnb122 := NB336_311.out; have hnc122 := NB311_336.out; have hcz123_0 : w118.cell? ⟨gb336, 0, none⟩ = some (.bool false) := (blk_cell BK336.out 0).trans rfl; have hcz123_1 : w118.cell? ⟨gb336, 1, none⟩ = some (.slice none 0 0) := (blk_cell BK336.out 1).trans rfl; have hcz123_2 : w118.cell? ⟨gb336, 2, none⟩ = some (.int .i64 0) := (blk_cell BK336.out 2).trans rfl; have hfz123_0 := blk_frozen BK336.out 0; have hfz123_1 := blk_frozen BK336.out 1; have hfz123_2 := blk_frozen BK336.out 2; obtain ⟨Ao124, co124, eo124⟩ := Kd.R_slice HO333.out; subst eo124))
                      (try simp only [Act.put, List.setIfInBounds_toArray, List.set_cons_zero, List.set_cons_succ])
                      go_cut [92] (fun v92 wc => ∃ (kq : Nat) (x92_103 : Bool), v92 = .bool x92_103 ∧ Aside0 (laws_FnExactDyShift.j2 kq t322 x92_103 t305 t323 t309 = some r) ∧ Aside0 (kq ≤ kj60) ∧ Aside0 (Kd.R (Kd.int .i64) 3 wc w.heap.size (fun k_ => some k_ ≠ ((.slice Ao30 t320.length co30) : Value).ownBlock ∧ some k_ ≠ ((.slice Ao37 t306.length co37) : Value).ownBlock ∧ some k_ ≠ ((.slice Ao124 t331.length co124) : Value).ownBlock) (.slice Ao23 t293.length co23) t293) ∧ Aside0 (Kd.R (Kd.int .i64) 3 wc w.heap.size (fun k_ => some k_ ≠ ((.slice Ao23 t293.length co23) : Value).ownBlock ∧ some k_ ≠ ((.slice Ao37 t306.length co37) : Value).ownBlock ∧ some k_ ≠ ((.slice Ao124 t331.length co124) : Value).ownBlock) (.slice Ao30 t320.length co30) t320) ∧ Aside0 (Kd.R (Kd.int .i64) 3 wc w.heap.size (fun k_ => some k_ ≠ ((.slice Ao23 t293.length co23) : Value).ownBlock ∧ some k_ ≠ ((.slice Ao30 t320.length co30) : Value).ownBlock ∧ some k_ ≠ ((.slice Ao124 t331.length co124) : Value).ownBlock) (.slice Ao37 t306.length co37) t323) ∧ Aside0 (Kd.R (Kd.int .i64) 3 wc w.heap.size (fun k_ => some k_ ≠ ((.slice Ao23 t293.length co23) : Value).ownBlock ∧ some k_ ≠ ((.slice Ao30 t320.length co30) : Value).ownBlock ∧ some k_ ≠ ((.slice Ao37 t306.length co37) : Value).ownBlock) (.slice Ao124 t331.length co124) t331) ∧ Aside0 (wc.heap[gb285]? = some (.cells #[.bool a0_0, (.slice A0_1 l0_1.length c0_1), .int .i64 a0_2] 42 (0, 0))) ∧ Aside0 (wc.heap[gb298]? = some (.cells #[.bool t292, (.slice Ao23 t293.length co23), .int .i64 t296] 30 (0, 0))) ∧ Aside0 (wc.heap[gb304]? = some (.cells #[.bool t299, (.slice Ao30 t320.length co30), .int .i64 t303] 30 (0, 0))) ∧ Aside0 (wc.heap[gb311]? = some (.cells #[.bool t305, (.slice Ao37 t306.length co37), .int .i64 t309] 30 (0, 0))) ∧ Aside0 (wc.heap[gb336]? = some (.cells #[.bool t330, (.slice Ao124 t331.length co124), .int .i64 t334] 30 (0, 0))) ∧ Aside0 (Below w.heap.size w wc))
                      case first =>
                        have H := HC104.out
                        clear HC104
                        replace H := Option.bind_eq_some_iff.mp H
                        obtain ⟨t337, A1250, H⟩ := H
                        replace H : (if t337 = true then (laws_FnExactDyShift.j2 kj60 t322 (t335 != t297) t305 t323 t309) else (laws_FnExactDyShift.j2 kj60 t322 true t305 t323 t309)) = some r := H
                        have A125 := Aside0.mk A1250
                        clear A1250
                        by_cases c126 : t337 = true
                        · subst c126
                          have H1 : (laws_FnExactDyShift.j2 kj60 t322 (t335 != t297) t305 t323 t309) = some r := by rw [if_pos rfl] at H; exact H
                          clear H
                          have H := H1
                          clear H1
                          have H' := Aside0.mk H
                          clear H
                          have hnb127 := NB336_285.out
                          have hnc127 := NB285_336.out
                          have hnb128 := NB336_298.out
                          have hnc128 := NB298_336.out
                          have hnb129 := NB336_304.out
                          have hnc129 := NB304_336.out
                          have hnb130 := NB336_311.out
                          have hnc130 := NB311_336.out
                          have hcz131_0 : w118.cell? ⟨gb336, 0, none⟩ = some (.bool false) := (blk_cell BK336.out 0).trans rfl
                          have hcz131_1 : w118.cell? ⟨gb336, 1, none⟩ = some (.slice none 0 0) := (blk_cell BK336.out 1).trans rfl
                          have hcz131_2 : w118.cell? ⟨gb336, 2, none⟩ = some (.int .i64 0) := (blk_cell BK336.out 2).trans rfl
                          have hfz131_0 := blk_frozen BK336.out 0
                          have hfz131_1 := blk_frozen BK336.out 1
                          have hfz131_2 := blk_frozen BK336.out 2
                          have hnb132 := NB298_285.out
                          have hnc132 := NB285_298.out
                          have hnb133 := NB298_304.out
                          have hnc133 := NB304_298.out
                          have hnb134 := NB298_311.out
                          have hnc134 := NB311_298.out
                          have hcz135_0 : w118.cell? ⟨gb298, 0, none⟩ = some (.bool t292) := (blk_cell BK298.out 0).trans rfl
                          have hcz135_1 : w118.cell? ⟨gb298, 1, none⟩ = some (.slice Ao23 t293.length co23) := (blk_cell BK298.out 1).trans rfl
                          have hcz135_2 : w118.cell? ⟨gb298, 2, none⟩ = some (.int .i64 t296) := (blk_cell BK298.out 2).trans rfl
                          have hfz135_0 := blk_frozen BK298.out 0
                          have hfz135_1 := blk_frozen BK298.out 1
                          have hfz135_2 := blk_frozen BK298.out 2
                          go_wp2_with (first | ((with_reducible refine gate_callee (f := 11) rfl ?_); refine goesL_ (some 86) rfl rfl Tryd.func11 (by kernel_rfl) rfl #[.agg #[.bool t330, .slice Ao124 t331.length co124, .int .i64 t334], .agg #[.bool t292, .slice Ao23 t293.length co23, .int .i64 t296]] rfl hkL ?_; (with_reducible refine (laws_eqDy.calls kj60 t330 _ _ t331 t334 t292 _ _ t293 t296 true _ ?side1 ?side2 ?side3 ?side4 A125.out).mono ?_); (case side1 => refine (Kd.R_reads' (e := 3) (base := w.heap.size) (ok := fun k_ => ((((True ∧ some k_ ≠ (.slice Ao23 t293.length co23 : Value).ownBlock) ∧ some k_ ≠ (.slice Ao30 t320.length co30 : Value).ownBlock) ∧ some k_ ≠ (.slice Ao37 t306.length co37 : Value).ownBlock) ∧ some k_ ≠ (.slice Ao116 t326.length co116 : Value).ownBlock)) (n := t331.length) (c := co124) ?_).2.2; exact (by (with_reducible repeat (first | apply Kd.R_alloc | apply Kd.R_drewN | apply Kd.R_drew)); exact (Kd.R_mono (Kd.R_far (p := ⟨gb336, 2, none⟩) (Kd.R_far (p := ⟨gb336, 1, none⟩) (Kd.R_far (p := ⟨gb336, 0, none⟩) (Kd.R_types HO333.out BK336.out (by decide)) (fun _ hk => hk.2) (.bool t330)) (fun _ hk => hk.2) (.slice Ao124 t331.length co124)) (fun _ hk => hk.2) (.int .i64 t334)) (fun _ h_ => h_.1)))); (case side2 => exact (Kd.R_reads' HO333.out).2.1); (case side3 => refine (Kd.R_reads' (e := 3) (base := w.heap.size) (ok := fun k_ => (((some k_ ≠ (.slice Ao30 t320.length co30 : Value).ownBlock ∧ some k_ ≠ (.slice Ao37 t306.length co37 : Value).ownBlock) ∧ some k_ ≠ (.slice Ao116 t326.length co116 : Value).ownBlock) ∧ some k_ ≠ (.slice Ao124 t331.length co124 : Value).ownBlock)) (n := t293.length) (c := co23) ?_).2.2; exact (by (with_reducible repeat (first | apply Kd.R_alloc | apply Kd.R_drewN | apply Kd.R_drew)); exact (Kd.R_mono (Kd.R_far (p := ⟨gb336, 2, none⟩) (Kd.R_far (p := ⟨gb336, 1, none⟩) (Kd.R_far (p := ⟨gb336, 0, none⟩) (Kd.R_types HO_299001.out BK336.out (by decide)) (fun _ hk => hk.2) (.bool t330)) (fun _ hk => hk.2) (.slice Ao124 t331.length co124)) (fun _ hk => hk.2) (.int .i64 t334)) (fun _ h_ => h_.1)))); (case side4 => exact (Kd.R_reads' HO_299001.out).2.1); rintro e w136 ⟨rfl, hb⟩; refine ⟨_, rfl, ?_⟩; have n0_ := Aside0.mk (Kd.R_below (by (with_reducible repeat (first | apply Kd.R_alloc | apply Kd.R_drewN | apply Kd.R_drew)); exact (Kd.R_mono (Kd.R_far (p := ⟨gb336, 2, none⟩) (Kd.R_far (p := ⟨gb336, 1, none⟩) (Kd.R_far (p := ⟨gb336, 0, none⟩) (Kd.R_types HO_299001.out BK336.out (by decide)) (fun _ hk => hk.2) (.bool t330)) (fun _ hk => hk.2) (.slice Ao124 t331.length co124)) (fun _ hk => hk.2) (.int .i64 t334)) (fun _ h_ => h_.1))) hb); have n1_ := Aside0.mk (Kd.R_below (by (with_reducible repeat (first | apply Kd.R_alloc | apply Kd.R_drewN | apply Kd.R_drew)); exact (Kd.R_mono (Kd.R_far (p := ⟨gb336, 2, none⟩) (Kd.R_far (p := ⟨gb336, 1, none⟩) (Kd.R_far (p := ⟨gb336, 0, none⟩) (Kd.R_types HO_305001.out BK336.out (by decide)) (fun _ hk => hk.2) (.bool t330)) (fun _ hk => hk.2) (.slice Ao124 t331.length co124)) (fun _ hk => hk.2) (.int .i64 t334)) (fun _ h_ => h_.1))) hb); have n2_ := Aside0.mk (Kd.R_below (by (with_reducible repeat (first | apply Kd.R_alloc | apply Kd.R_drewN | apply Kd.R_drew)); exact (Kd.R_mono (Kd.R_far (p := ⟨gb336, 2, none⟩) (Kd.R_far (p := ⟨gb336, 1, none⟩) (Kd.R_far (p := ⟨gb336, 0, none⟩) (Kd.R_types HO_312001.out BK336.out (by decide)) (fun _ hk => hk.2) (.bool t330)) (fun _ hk => hk.2) (.slice Ao124 t331.length co124)) (fun _ hk => hk.2) (.int .i64 t334)) (fun _ h_ => h_.1))) hb); have n3_ := Aside0.mk (Kd.R_below (by (with_reducible repeat (first | apply Kd.R_alloc | apply Kd.R_drewN | apply Kd.R_drew)); exact (Kd.R_mono (Kd.R_far (p := ⟨gb336, 2, none⟩) (Kd.R_far (p := ⟨gb336, 1, none⟩) (Kd.R_far (p := ⟨gb336, 0, none⟩) (Kd.R_types HO328.out BK336.out (by decide)) (fun _ hk => hk.2) (.bool t330)) (fun _ hk => hk.2) (.slice Ao124 t331.length co124)) (fun _ hk => hk.2) (.int .i64 t334)) (fun _ h_ => h_.1))) hb); have n4_ := Aside0.mk (Kd.R_below (by (with_reducible repeat (first | apply Kd.R_alloc | apply Kd.R_drewN | apply Kd.R_drew)); exact (Kd.R_mono (Kd.R_far (p := ⟨gb336, 2, none⟩) (Kd.R_far (p := ⟨gb336, 1, none⟩) (Kd.R_far (p := ⟨gb336, 0, none⟩) (Kd.R_types HO333.out BK336.out (by decide)) (fun _ hk => hk.2) (.bool t330)) (fun _ hk => hk.2) (.slice Ao124 t331.length co124)) (fun _ hk => hk.2) (.int .i64 t334)) (fun _ h_ => h_.1))) hb); have n5_ := Aside0.mk (blk_below (g := gb285) (o := .cells #[.bool a0_0, .slice A0_1 l0_1.length c0_1, .int .i64 a0_2] 42 (0, 0)) (by (with_reducible repeat (first | refine blk_drewN ?_ _ | refine blk_drew ?_ | refine blk_alloc ?_ _)); refine blk_far ?_ NB285_336.out _; (with_reducible repeat (first | refine blk_drewN ?_ _ | refine blk_drew ?_ | refine blk_alloc ?_ _)); refine blk_far ?_ NB285_336.out _; (with_reducible repeat (first | refine blk_drewN ?_ _ | refine blk_drew ?_ | refine blk_alloc ?_ _)); refine blk_far ?_ NB285_336.out _; (with_reducible repeat (first | refine blk_drewN ?_ _ | refine blk_drew ?_ | refine blk_alloc ?_ _)); exact BK285.out) hb); have n6_ := Aside0.mk (blk_below (g := gb298) (o := .cells #[.bool t292, .slice Ao23 t293.length co23, .int .i64 t296] 30 (0, 0)) (by (with_reducible repeat (first | refine blk_drewN ?_ _ | refine blk_drew ?_ | refine blk_alloc ?_ _)); refine blk_far ?_ NB298_336.out _; (with_reducible repeat (first | refine blk_drewN ?_ _ | refine blk_drew ?_ | refine blk_alloc ?_ _)); refine blk_far ?_ NB298_336.out _; (with_reducible repeat (first | refine blk_drewN ?_ _ | refine blk_drew ?_ | refine blk_alloc ?_ _)); refine blk_far ?_ NB298_336.out _; (with_reducible repeat (first | refine blk_drewN ?_ _ | refine blk_drew ?_ | refine blk_alloc ?_ _)); exact BK298.out) hb); have n7_ := Aside0.mk (blk_below (g := gb304) (o := .cells #[.bool t299, .slice Ao30 t320.length co30, .int .i64 t303] 30 (0, 0)) (by (with_reducible repeat (first | refine blk_drewN ?_ _ | refine blk_drew ?_ | refine blk_alloc ?_ _)); refine blk_far ?_ NB304_336.out _; (with_reducible repeat (first | refine blk_drewN ?_ _ | refine blk_drew ?_ | refine blk_alloc ?_ _)); refine blk_far ?_ NB304_336.out _; (with_reducible repeat (first | refine blk_drewN ?_ _ | refine blk_drew ?_ | refine blk_alloc ?_ _)); refine blk_far ?_ NB304_336.out _; (with_reducible repeat (first | refine blk_drewN ?_ _ | refine blk_drew ?_ | refine blk_alloc ?_ _)); exact BK304.out) hb); have n8_ := Aside0.mk (blk_below (g := gb311) (o := .cells #[.bool t305, .slice Ao37 t306.length co37, .int .i64 t309] 30 (0, 0)) (by (with_reducible repeat (first | refine blk_drewN ?_ _ | refine blk_drew ?_ | refine blk_alloc ?_ _)); refine blk_far ?_ NB311_336.out _; (with_reducible repeat (first | refine blk_drewN ?_ _ | refine blk_drew ?_ | refine blk_alloc ?_ _)); refine blk_far ?_ NB311_336.out _; (with_reducible repeat (first | refine blk_drewN ?_ _ | refine blk_drew ?_ | refine blk_alloc ?_ _)); refine blk_far ?_ NB311_336.out _; (with_reducible repeat (first | refine blk_drewN ?_ _ | refine blk_drew ?_ | refine blk_alloc ?_ _)); exact BK311.out) hb); have n9_ := Aside0.mk (blk_below (g := gb336) (o := .cells #[.bool t330, .slice Ao124 t331.length co124, .int .i64 t334] 30 (0, 0)) (by (with_reducible repeat (first | refine blk_drewN ?_ _ | refine blk_drew ?_ | refine blk_alloc ?_ _)); refine blk_put (cs := #[.bool t330, .slice Ao124 t331.length co124, .int .i64 0]) ?_ 2 _ rfl; (with_reducible repeat (first | refine blk_drewN ?_ _ | refine blk_drew ?_ | refine blk_alloc ?_ _)); refine blk_put (cs := #[.bool t330, .slice none 0 0, .int .i64 0]) ?_ 1 _ rfl; (with_reducible repeat (first | refine blk_drewN ?_ _ | refine blk_drew ?_ | refine blk_alloc ?_ _)); refine blk_put (cs := #[.bool false, .slice none 0 0, .int .i64 0]) ?_ 0 _ rfl; (with_reducible repeat (first | refine blk_drewN ?_ _ | refine blk_drew ?_ | refine blk_alloc ?_ _)); exact BK336.out) hb); have n10_ := Aside0.mk (below_step (hkS HB) hb); clear HO_299001; clear HO_305001; clear HO_312001; clear HO328; clear HO333; clear BK285; clear BK298; clear BK304; clear BK311; clear BK336; clear HB; have HO_299001 := n0_; have HO_305001 := n1_; have HO_312001 := n2_; have HO328 := n3_; have HO333 := n4_; have BK285 := n5_; have BK298 := n6_; have BK304 := n7_; have BK311 := n8_; have BK336 := n9_; have HB := n10_; clear n0_ n1_ n2_ n3_ n4_ n5_ n6_ n7_ n8_ n9_ n10_; (try clear hb); (try clear hb2); (try clear hk); (try clear hi)))
                          go_meet
                          case rel => exact ⟨_, ((t335 != t297)), (by first | rfl | (simp; done) | (simp [*]; done)), H', ⟨by have := HJ11.out; have := HJ60.out; first | omega | exact Nat.le_refl _⟩, ⟨by (try simp only [hl305001_60]); (with_reducible repeat (first | apply Kd.R_alloc | apply Kd.R_drewN | apply Kd.R_drew)); exact Kd.R_mono HO_299001.out (fun _ hk => ⟨hk.1.1.1, ⟨hk.1.1.2, hk.2⟩⟩)⟩, ⟨by (try simp only [hl305001_60]); (with_reducible repeat (first | apply Kd.R_alloc | apply Kd.R_drewN | apply Kd.R_drew)); exact Kd.R_mono HO_305001.out (fun _ hk => ⟨hk.1.1.1, ⟨hk.1.1.2, hk.2⟩⟩)⟩, ⟨by (try simp only [hl305001_60]); (with_reducible repeat (first | apply Kd.R_alloc | apply Kd.R_drewN | apply Kd.R_drew)); exact Kd.R_mono HO_312001.out (fun _ hk => ⟨hk.1.1.1, ⟨hk.1.1.2, hk.2⟩⟩)⟩, ⟨by (try simp only [hl305001_60]); (with_reducible repeat (first | apply Kd.R_alloc | apply Kd.R_drewN | apply Kd.R_drew)); exact Kd.R_mono HO333.out (fun _ hk => ⟨hk.1.1.1.2, ⟨hk.1.1.2, hk.1.2⟩⟩)⟩, ⟨by (try simp only [hl305001_60]); (with_reducible repeat (first | refine blk_drewN ?_ _ | refine blk_drew ?_ | refine blk_alloc ?_ _)); exact BK285.out⟩, ⟨by (try simp only [hl305001_60]); (with_reducible repeat (first | refine blk_drewN ?_ _ | refine blk_drew ?_ | refine blk_alloc ?_ _)); exact BK298.out⟩, ⟨by (try simp only [hl305001_60]); (with_reducible repeat (first | refine blk_drewN ?_ _ | refine blk_drew ?_ | refine blk_alloc ?_ _)); exact BK304.out⟩, ⟨by (try simp only [hl305001_60]); (with_reducible repeat (first | refine blk_drewN ?_ _ | refine blk_drew ?_ | refine blk_alloc ?_ _)); exact BK311.out⟩, ⟨by (try simp only [hl305001_60]); (with_reducible repeat (first | refine blk_drewN ?_ _ | refine blk_drew ?_ | refine blk_alloc ?_ _)); exact BK336.out⟩, ⟨by repeat (first | (with_reducible first | exact HB.out | apply below_alloc | apply pw_below_drewN | apply below_drew1 | refine below_set ?_ GE285.out | refine below_set ?_ GE298.out | refine below_set ?_ GE304.out | refine below_set ?_ GE311.out | refine below_set ?_ GE336.out) | exact HB.out)⟩⟩
                        · replace c126 := Bool.eq_false_iff.mpr c126
                          subst c126
                          have H1 : (laws_FnExactDyShift.j2 kj60 t322 true t305 t323 t309) = some r := by rw [if_neg (show ¬ (false = true) by decide)] at H; exact H
                          clear H
                          have H := H1
                          clear H1
                          have H' := Aside0.mk H
                          clear H
                          have hnb137 := NB336_285.out
                          have hnc137 := NB285_336.out
                          have hnb138 := NB336_298.out
                          have hnc138 := NB298_336.out
                          have hnb139 := NB336_304.out
                          have hnc139 := NB304_336.out
                          have hnb140 := NB336_311.out
                          have hnc140 := NB311_336.out
                          have hcz141_0 : w118.cell? ⟨gb336, 0, none⟩ = some (.bool false) := (blk_cell BK336.out 0).trans rfl
                          have hcz141_1 : w118.cell? ⟨gb336, 1, none⟩ = some (.slice none 0 0) := (blk_cell BK336.out 1).trans rfl
                          have hcz141_2 : w118.cell? ⟨gb336, 2, none⟩ = some (.int .i64 0) := (blk_cell BK336.out 2).trans rfl
                          have hfz141_0 := blk_frozen BK336.out 0
                          have hfz141_1 := blk_frozen BK336.out 1
                          have hfz141_2 := blk_frozen BK336.out 2
                          have hnb142 := NB298_285.out
                          have hnc142 := NB285_298.out
                          have hnb143 := NB298_304.out
                          have hnc143 := NB304_298.out
                          have hnb144 := NB298_311.out
                          have hnc144 := NB311_298.out
                          have hcz145_0 : w118.cell? ⟨gb298, 0, none⟩ = some (.bool t292) := (blk_cell BK298.out 0).trans rfl
                          have hcz145_1 : w118.cell? ⟨gb298, 1, none⟩ = some (.slice Ao23 t293.length co23) := (blk_cell BK298.out 1).trans rfl
                          have hcz145_2 : w118.cell? ⟨gb298, 2, none⟩ = some (.int .i64 t296) := (blk_cell BK298.out 2).trans rfl
                          have hfz145_0 := blk_frozen BK298.out 0
                          have hfz145_1 := blk_frozen BK298.out 1
                          have hfz145_2 := blk_frozen BK298.out 2
                          go_wp2_with (first | ((with_reducible refine gate_callee (f := 11) rfl ?_); refine goesL_ (some 86) rfl rfl Tryd.func11 (by kernel_rfl) rfl #[.agg #[.bool t330, .slice Ao124 t331.length co124, .int .i64 t334], .agg #[.bool t292, .slice Ao23 t293.length co23, .int .i64 t296]] rfl hkL ?_; (with_reducible refine (laws_eqDy.calls kj60 t330 _ _ t331 t334 t292 _ _ t293 t296 false _ ?side1 ?side2 ?side3 ?side4 A125.out).mono ?_); (case side1 => refine (Kd.R_reads' (e := 3) (base := w.heap.size) (ok := fun k_ => ((((True ∧ some k_ ≠ (.slice Ao23 t293.length co23 : Value).ownBlock) ∧ some k_ ≠ (.slice Ao30 t320.length co30 : Value).ownBlock) ∧ some k_ ≠ (.slice Ao37 t306.length co37 : Value).ownBlock) ∧ some k_ ≠ (.slice Ao116 t326.length co116 : Value).ownBlock)) (n := t331.length) (c := co124) ?_).2.2; exact (by (with_reducible repeat (first | apply Kd.R_alloc | apply Kd.R_drewN | apply Kd.R_drew)); exact (Kd.R_mono (Kd.R_far (p := ⟨gb336, 2, none⟩) (Kd.R_far (p := ⟨gb336, 1, none⟩) (Kd.R_far (p := ⟨gb336, 0, none⟩) (Kd.R_types HO333.out BK336.out (by decide)) (fun _ hk => hk.2) (.bool t330)) (fun _ hk => hk.2) (.slice Ao124 t331.length co124)) (fun _ hk => hk.2) (.int .i64 t334)) (fun _ h_ => h_.1)))); (case side2 => exact (Kd.R_reads' HO333.out).2.1); (case side3 => refine (Kd.R_reads' (e := 3) (base := w.heap.size) (ok := fun k_ => (((some k_ ≠ (.slice Ao30 t320.length co30 : Value).ownBlock ∧ some k_ ≠ (.slice Ao37 t306.length co37 : Value).ownBlock) ∧ some k_ ≠ (.slice Ao116 t326.length co116 : Value).ownBlock) ∧ some k_ ≠ (.slice Ao124 t331.length co124 : Value).ownBlock)) (n := t293.length) (c := co23) ?_).2.2; exact (by (with_reducible repeat (first | apply Kd.R_alloc | apply Kd.R_drewN | apply Kd.R_drew)); exact (Kd.R_mono (Kd.R_far (p := ⟨gb336, 2, none⟩) (Kd.R_far (p := ⟨gb336, 1, none⟩) (Kd.R_far (p := ⟨gb336, 0, none⟩) (Kd.R_types HO_299001.out BK336.out (by decide)) (fun _ hk => hk.2) (.bool t330)) (fun _ hk => hk.2) (.slice Ao124 t331.length co124)) (fun _ hk => hk.2) (.int .i64 t334)) (fun _ h_ => h_.1)))); (case side4 => exact (Kd.R_reads' HO_299001.out).2.1); rintro e w146 ⟨rfl, hb⟩; refine ⟨_, rfl, ?_⟩; have n0_ := Aside0.mk (Kd.R_below (by (with_reducible repeat (first | apply Kd.R_alloc | apply Kd.R_drewN | apply Kd.R_drew)); exact (Kd.R_mono (Kd.R_far (p := ⟨gb336, 2, none⟩) (Kd.R_far (p := ⟨gb336, 1, none⟩) (Kd.R_far (p := ⟨gb336, 0, none⟩) (Kd.R_types HO_299001.out BK336.out (by decide)) (fun _ hk => hk.2) (.bool t330)) (fun _ hk => hk.2) (.slice Ao124 t331.length co124)) (fun _ hk => hk.2) (.int .i64 t334)) (fun _ h_ => h_.1))) hb); have n1_ := Aside0.mk (Kd.R_below (by (with_reducible repeat (first | apply Kd.R_alloc | apply Kd.R_drewN | apply Kd.R_drew)); exact (Kd.R_mono (Kd.R_far (p := ⟨gb336, 2, none⟩) (Kd.R_far (p := ⟨gb336, 1, none⟩) (Kd.R_far (p := ⟨gb336, 0, none⟩) (Kd.R_types HO_305001.out BK336.out (by decide)) (fun _ hk => hk.2) (.bool t330)) (fun _ hk => hk.2) (.slice Ao124 t331.length co124)) (fun _ hk => hk.2) (.int .i64 t334)) (fun _ h_ => h_.1))) hb); have n2_ := Aside0.mk (Kd.R_below (by (with_reducible repeat (first | apply Kd.R_alloc | apply Kd.R_drewN | apply Kd.R_drew)); exact (Kd.R_mono (Kd.R_far (p := ⟨gb336, 2, none⟩) (Kd.R_far (p := ⟨gb336, 1, none⟩) (Kd.R_far (p := ⟨gb336, 0, none⟩) (Kd.R_types HO_312001.out BK336.out (by decide)) (fun _ hk => hk.2) (.bool t330)) (fun _ hk => hk.2) (.slice Ao124 t331.length co124)) (fun _ hk => hk.2) (.int .i64 t334)) (fun _ h_ => h_.1))) hb); have n3_ := Aside0.mk (Kd.R_below (by (with_reducible repeat (first | apply Kd.R_alloc | apply Kd.R_drewN | apply Kd.R_drew)); exact (Kd.R_mono (Kd.R_far (p := ⟨gb336, 2, none⟩) (Kd.R_far (p := ⟨gb336, 1, none⟩) (Kd.R_far (p := ⟨gb336, 0, none⟩) (Kd.R_types HO328.out BK336.out (by decide)) (fun _ hk => hk.2) (.bool t330)) (fun _ hk => hk.2) (.slice Ao124 t331.length co124)) (fun _ hk => hk.2) (.int .i64 t334)) (fun _ h_ => h_.1))) hb); have n4_ := Aside0.mk (Kd.R_below (by (with_reducible repeat (first | apply Kd.R_alloc | apply Kd.R_drewN | apply Kd.R_drew)); exact (Kd.R_mono (Kd.R_far (p := ⟨gb336, 2, none⟩) (Kd.R_far (p := ⟨gb336, 1, none⟩) (Kd.R_far (p := ⟨gb336, 0, none⟩) (Kd.R_types HO333.out BK336.out (by decide)) (fun _ hk => hk.2) (.bool t330)) (fun _ hk => hk.2) (.slice Ao124 t331.length co124)) (fun _ hk => hk.2) (.int .i64 t334)) (fun _ h_ => h_.1))) hb); have n5_ := Aside0.mk (blk_below (g := gb285) (o := .cells #[.bool a0_0, .slice A0_1 l0_1.length c0_1, .int .i64 a0_2] 42 (0, 0)) (by (with_reducible repeat (first | refine blk_drewN ?_ _ | refine blk_drew ?_ | refine blk_alloc ?_ _)); refine blk_far ?_ NB285_336.out _; (with_reducible repeat (first | refine blk_drewN ?_ _ | refine blk_drew ?_ | refine blk_alloc ?_ _)); refine blk_far ?_ NB285_336.out _; (with_reducible repeat (first | refine blk_drewN ?_ _ | refine blk_drew ?_ | refine blk_alloc ?_ _)); refine blk_far ?_ NB285_336.out _; (with_reducible repeat (first | refine blk_drewN ?_ _ | refine blk_drew ?_ | refine blk_alloc ?_ _)); exact BK285.out) hb); have n6_ := Aside0.mk (blk_below (g := gb298) (o := .cells #[.bool t292, .slice Ao23 t293.length co23, .int .i64 t296] 30 (0, 0)) (by (with_reducible repeat (first | refine blk_drewN ?_ _ | refine blk_drew ?_ | refine blk_alloc ?_ _)); refine blk_far ?_ NB298_336.out _; (with_reducible repeat (first | refine blk_drewN ?_ _ | refine blk_drew ?_ | refine blk_alloc ?_ _)); refine blk_far ?_ NB298_336.out _; (with_reducible repeat (first | refine blk_drewN ?_ _ | refine blk_drew ?_ | refine blk_alloc ?_ _)); refine blk_far ?_ NB298_336.out _; (with_reducible repeat (first | refine blk_drewN ?_ _ | refine blk_drew ?_ | refine blk_alloc ?_ _)); exact BK298.out) hb); have n7_ := Aside0.mk (blk_below (g := gb304) (o := .cells #[.bool t299, .slice Ao30 t320.length co30, .int .i64 t303] 30 (0, 0)) (by (with_reducible repeat (first | refine blk_drewN ?_ _ | refine blk_drew ?_ | refine blk_alloc ?_ _)); refine blk_far ?_ NB304_336.out _; (with_reducible repeat (first | refine blk_drewN ?_ _ | refine blk_drew ?_ | refine blk_alloc ?_ _)); refine blk_far ?_ NB304_336.out _; (with_reducible repeat (first | refine blk_drewN ?_ _ | refine blk_drew ?_ | refine blk_alloc ?_ _)); refine blk_far ?_ NB304_336.out _; (with_reducible repeat (first | refine blk_drewN ?_ _ | refine blk_drew ?_ | refine blk_alloc ?_ _)); exact BK304.out) hb); have n8_ := Aside0.mk (blk_below (g := gb311) (o := .cells #[.bool t305, .slice Ao37 t306.length co37, .int .i64 t309] 30 (0, 0)) (by (with_reducible repeat (first | refine blk_drewN ?_ _ | refine blk_drew ?_ | refine blk_alloc ?_ _)); refine blk_far ?_ NB311_336.out _; (with_reducible repeat (first | refine blk_drewN ?_ _ | refine blk_drew ?_ | refine blk_alloc ?_ _)); refine blk_far ?_ NB311_336.out _; (with_reducible repeat (first | refine blk_drewN ?_ _ | refine blk_drew ?_ | refine blk_alloc ?_ _)); refine blk_far ?_ NB311_336.out _; (with_reducible repeat (first | refine blk_drewN ?_ _ | refine blk_drew ?_ | refine blk_alloc ?_ _)); exact BK311.out) hb); have n9_ := Aside0.mk (blk_below (g := gb336) (o := .cells #[.bool t330, .slice Ao124 t331.length co124, .int .i64 t334] 30 (0, 0)) (by (with_reducible repeat (first | refine blk_drewN ?_ _ | refine blk_drew ?_ | refine blk_alloc ?_ _)); refine blk_put (cs := #[.bool t330, .slice Ao124 t331.length co124, .int .i64 0]) ?_ 2 _ rfl; (with_reducible repeat (first | refine blk_drewN ?_ _ | refine blk_drew ?_ | refine blk_alloc ?_ _)); refine blk_put (cs := #[.bool t330, .slice none 0 0, .int .i64 0]) ?_ 1 _ rfl; (with_reducible repeat (first | refine blk_drewN ?_ _ | refine blk_drew ?_ | refine blk_alloc ?_ _)); refine blk_put (cs := #[.bool false, .slice none 0 0, .int .i64 0]) ?_ 0 _ rfl; (with_reducible repeat (first | refine blk_drewN ?_ _ | refine blk_drew ?_ | refine blk_alloc ?_ _)); exact BK336.out) hb); have n10_ := Aside0.mk (below_step (hkS HB) hb); clear HO_299001; clear HO_305001; clear HO_312001; clear HO328; clear HO333; clear BK285; clear BK298; clear BK304; clear BK311; clear BK336; clear HB; have HO_299001 := n0_; have HO_305001 := n1_; have HO_312001 := n2_; have HO328 := n3_; have HO333 := n4_; have BK285 := n5_; have BK298 := n6_; have BK304 := n7_; have BK311 := n8_; have BK336 := n9_; have HB := n10_; clear n0_ n1_ n2_ n3_ n4_ n5_ n6_ n7_ n8_ n9_ n10_; (try clear hb); (try clear hb2); (try clear hk); (try clear hi)))
                          go_meet
                          case rel => exact ⟨_, (true), (by first | rfl | (simp; done) | (simp [*]; done)), H', ⟨by have := HJ11.out; have := HJ60.out; first | omega | exact Nat.le_refl _⟩, ⟨by (try simp only [hl305001_60]); (with_reducible repeat (first | apply Kd.R_alloc | apply Kd.R_drewN | apply Kd.R_drew)); exact Kd.R_mono HO_299001.out (fun _ hk => ⟨hk.1.1.1, ⟨hk.1.1.2, hk.2⟩⟩)⟩, ⟨by (try simp only [hl305001_60]); (with_reducible repeat (first | apply Kd.R_alloc | apply Kd.R_drewN | apply Kd.R_drew)); exact Kd.R_mono HO_305001.out (fun _ hk => ⟨hk.1.1.1, ⟨hk.1.1.2, hk.2⟩⟩)⟩, ⟨by (try simp only [hl305001_60]); (with_reducible repeat (first | apply Kd.R_alloc | apply Kd.R_drewN | apply Kd.R_drew)); exact Kd.R_mono HO_312001.out (fun _ hk => ⟨hk.1.1.1, ⟨hk.1.1.2, hk.2⟩⟩)⟩, ⟨by (try simp only [hl305001_60]); (with_reducible repeat (first | apply Kd.R_alloc | apply Kd.R_drewN | apply Kd.R_drew)); exact Kd.R_mono HO333.out (fun _ hk => ⟨hk.1.1.1.2, ⟨hk.1.1.2, hk.1.2⟩⟩)⟩, ⟨by (try simp only [hl305001_60]); (with_reducible repeat (first | refine blk_drewN ?_ _ | refine blk_drew ?_ | refine blk_alloc ?_ _)); exact BK285.out⟩, ⟨by (try simp only [hl305001_60]); (with_reducible repeat (first | refine blk_drewN ?_ _ | refine blk_drew ?_ | refine blk_alloc ?_ _)); exact BK298.out⟩, ⟨by (try simp only [hl305001_60]); (with_reducible repeat (first | refine blk_drewN ?_ _ | refine blk_drew ?_ | refine blk_alloc ?_ _)); exact BK304.out⟩, ⟨by (try simp only [hl305001_60]); (with_reducible repeat (first | refine blk_drewN ?_ _ | refine blk_drew ?_ | refine blk_alloc ?_ _)); exact BK311.out⟩, ⟨by (try simp only [hl305001_60]); (with_reducible repeat (first | refine blk_drewN ?_ _ | refine blk_drew ?_ | refine blk_alloc ?_ _)); exact BK336.out⟩, ⟨by repeat (first | (with_reducible first | exact HB.out | apply below_alloc | apply pw_below_drewN | apply below_drew1 | refine below_set ?_ GE285.out | refine below_set ?_ GE298.out | refine below_set ?_ GE304.out | refine below_set ?_ GE311.out | refine below_set ?_ GE336.out) | exact HB.out)⟩⟩
                      case rest =>
                        clear HC104
                        try clear c1
                        try clear c2
                        try clear p2
                        try clear c3
                        try clear c4
                        try clear c4b0
                        try clear c5
                        try clear c6
                        try clear c7
                        try clear c8
                        try clear c9
                        try clear c10
                        try clear c11
                        try clear c12
                        try clear c13
                        try clear c14
                        try clear c15
                        try clear c16
                        try clear c17
                        try clear c21
                        try clear c27
                        try clear c28
                        try clear c33
                        try clear c34
                        try clear c35
                        try clear c39
                        try clear c40
                        try clear c41
                        try clear c42
                        try clear c44
                        try clear c45
                        try clear c48
                        try clear c49
                        try clear c50
                        try clear c52
                        try clear c53
                        try clear c56
                        try clear c59
                        try clear c66
                        try clear c67
                        try clear c68
                        try clear c71
                        try clear c71b0
                        try clear c73
                        try clear c74
                        try clear c75
                        try clear c76
                        try clear c78
                        try clear c79
                        try clear c82
                        try clear c83
                        try clear c84
                        try clear c86
                        try clear c87
                        try clear c90
                        try clear c93
                        try clear c93b0
                        try clear c94
                        try clear c95
                        try clear c96
                        try clear c101
                        try clear c101b0
                        try clear c101b1
                        try clear c105
                        try clear c106
                        try clear c107
                        try clear c112
                        try clear c113
                        try clear c119
                        try clear c120
                        try clear c121
                        try clear c122
                        try clear c126
                        try clear c127
                        try clear c128
                        try clear c129
                        try clear c130
                        try clear c132
                        try clear c133
                        try clear c134
                        try clear c137
                        try clear c138
                        try clear c139
                        try clear c140
                        try clear c142
                        try clear c143
                        try clear c144
                        try clear hcz108_0
                        try clear hcz108_1
                        try clear hcz108_2
                        try clear hcz110_0
                        try clear hcz110_1
                        try clear hcz110_2
                        try clear hcz114_0
                        try clear hcz114_1
                        try clear hcz114_2
                        try clear hcz123_0
                        try clear hcz123_1
                        try clear hcz123_2
                        try clear hcz131_0
                        try clear hcz131_1
                        try clear hcz131_2
                        try clear hcz135_0
                        try clear hcz135_1
                        try clear hcz135_2
                        try clear hcz141_0
                        try clear hcz141_1
                        try clear hcz141_2
                        try clear hcz145_0
                        try clear hcz145_1
                        try clear hcz145_2
                        try clear hcz14_0
                        try clear hcz14_1
                        try clear hcz14_2
                        try clear hcz16_0
                        try clear hcz16_1
                        try clear hcz16_2
                        try clear hcz22_0
                        try clear hcz22_1
                        try clear hcz22_2
                        try clear hcz24_0
                        try clear hcz24_1
                        try clear hcz24_2
                        try clear hcz29_0
                        try clear hcz29_1
                        try clear hcz29_2
                        try clear hcz36_0
                        try clear hcz36_1
                        try clear hcz36_2
                        try clear hcz43_0
                        try clear hcz43_1
                        try clear hcz43_2
                        try clear hcz46_0
                        try clear hcz46_1
                        try clear hcz46_2
                        try clear hcz51_0
                        try clear hcz51_1
                        try clear hcz51_2
                        try clear hcz54_0
                        try clear hcz54_1
                        try clear hcz54_2
                        try clear hcz69_0
                        try clear hcz69_1
                        try clear hcz69_2
                        try clear hcz6_0
                        try clear hcz6_1
                        try clear hcz6_2
                        try clear hcz77_0
                        try clear hcz77_1
                        try clear hcz77_2
                        try clear hcz80_0
                        try clear hcz80_1
                        try clear hcz80_2
                        try clear hcz85_0
                        try clear hcz85_1
                        try clear hcz85_2
                        try clear hcz88_0
                        try clear hcz88_1
                        try clear hcz88_2
                        try clear hcz97_0
                        try clear hcz97_1
                        try clear hcz97_2
                        try clear hcz99_0
                        try clear hcz99_1
                        try clear hcz99_2
                        try clear hfz108_0
                        try clear hfz108_1
                        try clear hfz108_2
                        try clear hfz110_0
                        try clear hfz110_1
                        try clear hfz110_2
                        try clear hfz114_0
                        try clear hfz114_1
                        try clear hfz114_2
                        try clear hfz123_0
                        try clear hfz123_1
                        try clear hfz123_2
                        try clear hfz131_0
                        try clear hfz131_1
                        try clear hfz131_2
                        try clear hfz135_0
                        try clear hfz135_1
                        try clear hfz135_2
                        try clear hfz141_0
                        try clear hfz141_1
                        try clear hfz141_2
                        try clear hfz145_0
                        try clear hfz145_1
                        try clear hfz145_2
                        try clear hfz14_0
                        try clear hfz14_1
                        try clear hfz14_2
                        try clear hfz16_0
                        try clear hfz16_1
                        try clear hfz16_2
                        try clear hfz22_0
                        try clear hfz22_1
                        try clear hfz22_2
                        try clear hfz24_0
                        try clear hfz24_1
                        try clear hfz24_2
                        try clear hfz29_0
                        try clear hfz29_1
                        try clear hfz29_2
                        try clear hfz36_0
                        try clear hfz36_1
                        try clear hfz36_2
                        try clear hfz43_0
                        try clear hfz43_1
                        try clear hfz43_2
                        try clear hfz46_0
                        try clear hfz46_1
                        try clear hfz46_2
                        try clear hfz51_0
                        try clear hfz51_1
                        try clear hfz51_2
                        try clear hfz54_0
                        try clear hfz54_1
                        try clear hfz54_2
                        try clear hfz69_0
                        try clear hfz69_1
                        try clear hfz69_2
                        try clear hfz6_0
                        try clear hfz6_1
                        try clear hfz6_2
                        try clear hfz77_0
                        try clear hfz77_1
                        try clear hfz77_2
                        try clear hfz80_0
                        try clear hfz80_1
                        try clear hfz80_2
                        try clear hfz85_0
                        try clear hfz85_1
                        try clear hfz85_2
                        try clear hfz88_0
                        try clear hfz88_1
                        try clear hfz88_2
                        try clear hfz97_0
                        try clear hfz97_1
                        try clear hfz97_2
                        try clear hfz99_0
                        try clear hfz99_1
                        try clear hfz99_2
                        try clear p2
                        obtain ⟨kq, x92_103, rfl, HA, HJ103, HO_299001, HO_305001, HO_312001, HO_337001, BK285, BK298, BK304, BK311, BK336, HB⟩ := hcut
                        have hl312001_103 := (Kd.R_reads' HO_312001.out).1
                        rw [hl312001_103] at HO_312001
                        (try simp only [hl312001_103])
                        (try simp only [hl312001_103] at BK285)
                        (try simp only [hl312001_103] at BK298)
                        (try simp only [hl312001_103] at BK304)
                        (try simp only [hl312001_103] at BK311)
                        (try simp only [hl312001_103] at BK336)
                        (try simp only [hl312001_103] at HO_299001)
                        (try simp only [hl312001_103] at HO_305001)
                        (try simp only [hl312001_103] at HO_337001)
                        cases kq with
                        | zero => exact absurd HA.out (by simp [laws_FnExactDyShift.j2])
                        | succ kj103 =>
                          have H := HA.out
                          clear HA
                          simp only [laws_FnExactDyShift.j2] at H
                          by_cases c147 : x92_103 = true
                          · subst c147
                            have H1 : (some false) = some r := by rw [if_pos rfl] at H; exact H
                            clear H
                            have H := H1
                            clear H1
                            obtain rfl := Option.some.inj H
                            go_wp2
                            go_ret
                            exact ⟨by first | rfl | (simp [errW_none, errW_some] <;> rfl) | (simp [*, errW_none, errW_some] <;> rfl), by repeat (first | (with_reducible first | exact HB.out | apply below_alloc | apply pw_below_drewN | apply below_drew1 | refine below_set ?_ GE285.out | refine below_set ?_ GE298.out | refine below_set ?_ GE304.out | refine below_set ?_ GE311.out | refine below_set ?_ GE336.out) | exact HB.out)⟩
                          · replace c147 := Bool.eq_false_iff.mpr c147
                            subst c147
                            have H1 : ((laws_heldDy.f kj103 t305 t323 t309 1).bind fun t338 => (if t338 < 0 then (some false) else (if t338 = t322 then (some true) else (some false)))) = some r := by rw [if_neg (show ¬ (false = true) by decide)] at H; exact H
                            clear H
                            have H := H1
                            clear H1
                            replace H := Option.bind_eq_some_iff.mp H
                            obtain ⟨t338, A1480, H⟩ := H
                            replace H : (if t338 < 0 then (some false) else (if t338 = t322 then (some true) else (some false))) = some r := H
                            have A148 := Aside0.mk A1480
                            clear A1480
                            by_cases c149 : t338 < 0
                            · rw [if_pos c149] at H
                              have c149b0 : decide (t338 < 0) = true := decide_eq_true c149
                              clear c149
                              obtain rfl := Option.some.inj H
                              have hnb150 := NB311_285.out
                              have hnc150 := NB285_311.out
                              have hnb151 := NB311_298.out
                              have hnc151 := NB298_311.out
                              have hnb152 := NB311_304.out
                              have hnc152 := NB304_311.out
                              have hnb153 := NB311_336.out
                              have hnc153 := NB336_311.out
                              have hcz154_0 : wc.cell? ⟨gb311, 0, none⟩ = some (.bool t305) := (blk_cell BK311.out 0).trans rfl
                              have hcz154_1 : wc.cell? ⟨gb311, 1, none⟩ = some (.slice Ao37 t323.length co37) := (blk_cell BK311.out 1).trans rfl
                              have hcz154_2 : wc.cell? ⟨gb311, 2, none⟩ = some (.int .i64 t309) := (blk_cell BK311.out 2).trans rfl
                              have hfz154_0 := blk_frozen BK311.out 0
                              have hfz154_1 := blk_frozen BK311.out 1
                              have hfz154_2 := blk_frozen BK311.out 2
                              go_wp2_with (first | ((with_reducible refine gate_callee (f := 13) rfl ?_); refine goesL_ (some 95) rfl rfl Tryd.func13 (by kernel_rfl) rfl #[.agg #[.bool t305, .slice Ao37 t323.length co37, .int .i64 t309], .int .i64 1] rfl hkL ?_; (with_reducible refine (laws_heldDy.calls kj103 t305 _ _ t323 t309 1 t338 _ ?side1 ?side2 A148.out).mono ?_); (case side1 => repeat (first | exact (Kd.R_reads' HO_312001.out).2.2 | (with_reducible refine Kd.C_alloc ?_ _) | (with_reducible refine Kd.C_drewN ?_ _) | (with_reducible refine Kd.C_drew ?_))); (case side2 => exact (Kd.R_reads' HO_312001.out).2.1); rintro e w155 ⟨rfl, hb⟩; refine ⟨_, rfl, ?_⟩; have n0_ := hkRb HO_299001 hb; have n1_ := hkRb HO_305001 hb; have n2_ := hkRb HO_312001 hb; have n3_ := hkRb HO_337001 hb; have n4_ := hkBb BK285 hb; have n5_ := hkBb BK298 hb; have n6_ := hkBb BK304 hb; have n7_ := hkBb BK311 hb; have n8_ := hkBb BK336 hb; have n9_ := Aside0.mk (below_step (hkS HB) hb); clear HO_299001; clear HO_305001; clear HO_312001; clear HO_337001; clear BK285; clear BK298; clear BK304; clear BK311; clear BK336; clear HB; have HO_299001 := n0_; have HO_305001 := n1_; have HO_312001 := n2_; have HO_337001 := n3_; have BK285 := n4_; have BK298 := n5_; have BK304 := n6_; have BK311 := n7_; have BK336 := n8_; have HB := n9_; clear n0_ n1_ n2_ n3_ n4_ n5_ n6_ n7_ n8_ n9_; (try clear hb); (try clear hb2); (try clear hk); (try clear hi)))
                              go_ret
                              exact ⟨by first | rfl | (simp [errW_none, errW_some] <;> rfl) | (simp [*, errW_none, errW_some] <;> rfl), by repeat (first | (with_reducible first | exact HB.out | apply below_alloc | apply pw_below_drewN | apply below_drew1 | refine below_set ?_ GE285.out | refine below_set ?_ GE298.out | refine below_set ?_ GE304.out | refine below_set ?_ GE311.out | refine below_set ?_ GE336.out) | exact HB.out)⟩
                            · rw [if_neg c149] at H
                              have c149b0 : decide (t338 < 0) = false := decide_eq_false c149
                              clear c149
                              by_cases c156 : t338 = t322
                              · rw [if_pos c156] at H
                                have c156b0 : (t338 == t322) = true := beq_iff_eq.mpr c156
                                have c156b1 : (t338 != t322) = false := bne_eq_false_iff_eq.mpr c156
                                clear c156
                                obtain rfl := Option.some.inj H
                                have hnb157 := NB311_285.out
                                have hnc157 := NB285_311.out
                                have hnb158 := NB311_298.out
                                have hnc158 := NB298_311.out
                                have hnb159 := NB311_304.out
                                have hnc159 := NB304_311.out
                                have hnb160 := NB311_336.out
                                have hnc160 := NB336_311.out
                                have hcz161_0 : wc.cell? ⟨gb311, 0, none⟩ = some (.bool t305) := (blk_cell BK311.out 0).trans rfl
                                have hcz161_1 : wc.cell? ⟨gb311, 1, none⟩ = some (.slice Ao37 t323.length co37) := (blk_cell BK311.out 1).trans rfl
                                have hcz161_2 : wc.cell? ⟨gb311, 2, none⟩ = some (.int .i64 t309) := (blk_cell BK311.out 2).trans rfl
                                have hfz161_0 := blk_frozen BK311.out 0
                                have hfz161_1 := blk_frozen BK311.out 1
                                have hfz161_2 := blk_frozen BK311.out 2
                                go_wp2_with (first | ((with_reducible refine gate_callee (f := 13) rfl ?_); refine goesL_ (some 95) rfl rfl Tryd.func13 (by kernel_rfl) rfl #[.agg #[.bool t305, .slice Ao37 t323.length co37, .int .i64 t309], .int .i64 1] rfl hkL ?_; (with_reducible refine (laws_heldDy.calls kj103 t305 _ _ t323 t309 1 t338 _ ?side1 ?side2 A148.out).mono ?_); (case side1 => repeat (first | exact (Kd.R_reads' HO_312001.out).2.2 | (with_reducible refine Kd.C_alloc ?_ _) | (with_reducible refine Kd.C_drewN ?_ _) | (with_reducible refine Kd.C_drew ?_))); (case side2 => exact (Kd.R_reads' HO_312001.out).2.1); rintro e w162 ⟨rfl, hb⟩; refine ⟨_, rfl, ?_⟩; have n0_ := hkRb HO_299001 hb; have n1_ := hkRb HO_305001 hb; have n2_ := hkRb HO_312001 hb; have n3_ := hkRb HO_337001 hb; have n4_ := hkBb BK285 hb; have n5_ := hkBb BK298 hb; have n6_ := hkBb BK304 hb; have n7_ := hkBb BK311 hb; have n8_ := hkBb BK336 hb; have n9_ := Aside0.mk (below_step (hkS HB) hb); clear HO_299001; clear HO_305001; clear HO_312001; clear HO_337001; clear BK285; clear BK298; clear BK304; clear BK311; clear BK336; clear HB; have HO_299001 := n0_; have HO_305001 := n1_; have HO_312001 := n2_; have HO_337001 := n3_; have BK285 := n4_; have BK298 := n5_; have BK304 := n6_; have BK311 := n7_; have BK336 := n8_; have HB := n9_; clear n0_ n1_ n2_ n3_ n4_ n5_ n6_ n7_ n8_ n9_; (try clear hb); (try clear hb2); (try clear hk); (try clear hi)))
                                go_ret
                                exact ⟨by first | rfl | (simp [errW_none, errW_some] <;> rfl) | (simp [*, errW_none, errW_some] <;> rfl), by repeat (first | (with_reducible first | exact HB.out | apply below_alloc | apply pw_below_drewN | apply below_drew1 | refine below_set ?_ GE285.out | refine below_set ?_ GE298.out | refine below_set ?_ GE304.out | refine below_set ?_ GE311.out | refine below_set ?_ GE336.out) | exact HB.out)⟩
                              · rw [if_neg c156] at H
                                have c156b0 : (t338 == t322) = false := beq_eq_false_iff_ne.mpr c156
                                have c156b1 : (t338 != t322) = true := bne_iff_ne.mpr c156
                                obtain rfl := Option.some.inj H
                                have hnb163 := NB311_285.out
                                have hnc163 := NB285_311.out
                                have hnb164 := NB311_298.out
                                have hnc164 := NB298_311.out
                                have hnb165 := NB311_304.out
                                have hnc165 := NB304_311.out
                                have hnb166 := NB311_336.out
                                have hnc166 := NB336_311.out
                                have hcz167_0 : wc.cell? ⟨gb311, 0, none⟩ = some (.bool t305) := (blk_cell BK311.out 0).trans rfl
                                have hcz167_1 : wc.cell? ⟨gb311, 1, none⟩ = some (.slice Ao37 t323.length co37) := (blk_cell BK311.out 1).trans rfl
                                have hcz167_2 : wc.cell? ⟨gb311, 2, none⟩ = some (.int .i64 t309) := (blk_cell BK311.out 2).trans rfl
                                have hfz167_0 := blk_frozen BK311.out 0
                                have hfz167_1 := blk_frozen BK311.out 1
                                have hfz167_2 := blk_frozen BK311.out 2
                                go_wp2_with (first | ((with_reducible refine gate_callee (f := 13) rfl ?_); refine goesL_ (some 95) rfl rfl Tryd.func13 (by kernel_rfl) rfl #[.agg #[.bool t305, .slice Ao37 t323.length co37, .int .i64 t309], .int .i64 1] rfl hkL ?_; (with_reducible refine (laws_heldDy.calls kj103 t305 _ _ t323 t309 1 t338 _ ?side1 ?side2 A148.out).mono ?_); (case side1 => repeat (first | exact (Kd.R_reads' HO_312001.out).2.2 | (with_reducible refine Kd.C_alloc ?_ _) | (with_reducible refine Kd.C_drewN ?_ _) | (with_reducible refine Kd.C_drew ?_))); (case side2 => exact (Kd.R_reads' HO_312001.out).2.1); rintro e w168 ⟨rfl, hb⟩; refine ⟨_, rfl, ?_⟩; have n0_ := hkRb HO_299001 hb; have n1_ := hkRb HO_305001 hb; have n2_ := hkRb HO_312001 hb; have n3_ := hkRb HO_337001 hb; have n4_ := hkBb BK285 hb; have n5_ := hkBb BK298 hb; have n6_ := hkBb BK304 hb; have n7_ := hkBb BK311 hb; have n8_ := hkBb BK336 hb; have n9_ := Aside0.mk (below_step (hkS HB) hb); clear HO_299001; clear HO_305001; clear HO_312001; clear HO_337001; clear BK285; clear BK298; clear BK304; clear BK311; clear BK336; clear HB; have HO_299001 := n0_; have HO_305001 := n1_; have HO_312001 := n2_; have HO_337001 := n3_; have BK285 := n4_; have BK298 := n5_; have BK304 := n6_; have BK311 := n7_; have BK336 := n8_; have HB := n9_; clear n0_ n1_ n2_ n3_ n4_ n5_ n6_ n7_ n8_ n9_; (try clear hb); (try clear hb2); (try clear hk); (try clear hi)))
                                go_ret
                                exact ⟨by first | rfl | (simp [errW_none, errW_some] <;> rfl) | (simp [*, errW_none, errW_some] <;> rfl), by repeat (first | (with_reducible first | exact HB.out | apply below_alloc | apply pw_below_drewN | apply below_drew1 | refine below_set ?_ GE285.out | refine below_set ?_ GE298.out | refine below_set ?_ GE304.out | refine below_set ?_ GE311.out | refine below_set ?_ GE336.out) | exact HB.out)⟩
                    · rw [if_neg c101] at H
                      have c101b0 : (t324 == t322) = false := beq_eq_false_iff_ne.mpr c101
                      have c101b1 : (t324 != t322) = true := bne_iff_ne.mpr c101
                      obtain rfl := Option.some.inj H
                      have hnb169 := NB311_285.out
                      have hnc169 := NB285_311.out
                      have hnb170 := NB311_298.out
                      have hnc170 := NB298_311.out
                      have hnb171 := NB311_304.out
                      have hnc171 := NB304_311.out
                      have hcz172_0 : wc.cell? ⟨gb311, 0, none⟩ = some (.bool t305) := (blk_cell BK311.out 0).trans rfl
                      have hcz172_1 : wc.cell? ⟨gb311, 1, none⟩ = some (.slice Ao37 t306.length co37) := (blk_cell BK311.out 1).trans rfl
                      have hcz172_2 : wc.cell? ⟨gb311, 2, none⟩ = some (.int .i64 t309) := (blk_cell BK311.out 2).trans rfl
                      have hfz172_0 := blk_frozen BK311.out 0
                      have hfz172_1 := blk_frozen BK311.out 1
                      have hfz172_2 := blk_frozen BK311.out 2
                      go_wp2_with (first | ((with_reducible refine gate_callee (f := 12) rfl ?_); refine goesL_ (some 68) rfl rfl Tryd.func12 (by kernel_rfl) rfl #[.agg #[.bool t305, .slice Ao37 t306.length co37, .int .i64 t309], .int .i64 1] rfl hkL ?_; (with_reducible refine (laws_markDy.calls kj60 t305 (fun k_ => some k_ = (.slice Ao37 t306.length co37 : Value).ownBlock) (.slice Ao37 t306.length co37) t306 t309 1 t322 t323 w _ ?side1 ?side2 A91.out).mono ?_); (case side1 => repeat (first | (with_reducible first | exact HB.out | apply below_alloc | apply pw_below_drewN | apply below_drew1 | refine below_set ?_ GE285.out | refine below_set ?_ GE298.out | refine below_set ?_ GE304.out | refine below_set ?_ GE311.out) | exact HB.out)); (case side2 => exact Kd.R_tight rfl HO_312001.out); rintro e w173 ⟨rfl, hy0, hb, hkp⟩; refine ⟨_, rfl, ?_⟩; have n0_ := Aside0.mk (Kd.R_mono (ok' := fun k_ => some k_ ≠ (.slice Ao30 t320.length co30 : Value).ownBlock ∧ some k_ ≠ (.slice Ao37 t306.length co37 : Value).ownBlock) (Kd.R_keptB (HO_299001.out) hkp (fun k_ hk_ hs_ => (hk_.2) hs_)) (fun k_ hk_ => ⟨hk_.1.1, hk_.1.2⟩)); have n1_ := Aside0.mk (Kd.R_mono (ok' := fun k_ => some k_ ≠ (.slice Ao23 t293.length co23 : Value).ownBlock ∧ some k_ ≠ (.slice Ao37 t306.length co37 : Value).ownBlock) (Kd.R_keptB (HO_305001.out) hkp (fun k_ hk_ hs_ => (hk_.2) hs_)) (fun k_ hk_ => ⟨hk_.1.1, hk_.1.2⟩)); have n2_ := Aside0.mk (Kd.R_reok rfl hy0 (fun k_ e_ => HO_312001.out.1 k_ e_)); have n3_ := Aside0.mk (blk_kept (hkB BK285) hkp (fun hs_ => (fun e_ => (Kd.R_ne HO_312001.out BK285.out (by decide)) e_) hs_)); have n4_ := Aside0.mk (blk_kept (hkB BK298) hkp (fun hs_ => (fun e_ => (Kd.R_ne HO_312001.out BK298.out (by decide)) e_) hs_)); have n5_ := Aside0.mk (blk_kept (hkB BK304) hkp (fun hs_ => (fun e_ => (Kd.R_ne HO_312001.out BK304.out (by decide)) e_) hs_)); have n6_ := Aside0.mk (blk_kept (hkB BK311) hkp (fun hs_ => (fun e_ => (Kd.R_ne HO_312001.out BK311.out (by decide)) e_) hs_)); have n7_ := Aside0.mk (hb); clear HO_299001; clear HO_305001; clear HO_312001; clear BK285; clear BK298; clear BK304; clear BK311; clear HB; have HO_299001 := n0_; have HO_305001 := n1_; have HO_312001 := n2_; have BK285 := n3_; have BK298 := n4_; have BK304 := n5_; have BK311 := n6_; have HB := n7_; clear n0_ n1_ n2_ n3_ n4_ n5_ n6_ n7_; (try clear hb); (try clear hkp); (try clear hy0); have hcz174_0 : w173.cell? ⟨gb311, 0, none⟩ = some (.bool t305) := (blk_cell BK311.out 0).trans rfl; have hcz174_1 : w173.cell? ⟨gb311, 1, none⟩ = some (.slice Ao37 t306.length co37) := (blk_cell BK311.out 1).trans rfl; have hcz174_2 : w173.cell? ⟨gb311, 2, none⟩ = some (.int .i64 t309) := (blk_cell BK311.out 2).trans rfl; have hfz174_0 := blk_frozen BK311.out 0; have hfz174_1 := blk_frozen BK311.out 1; have hfz174_2 := blk_frozen BK311.out 2) | ((with_reducible refine gate_callee (f := 13) rfl ?_); refine goesL_ (some 71) rfl rfl Tryd.func13 (by kernel_rfl) rfl #[.agg #[.bool t305, .slice Ao37 t323.length co37, .int .i64 t309], .int .i64 1] rfl (by (try simp only [List.map_toArray, List.map_cons, List.map_nil]); first | done | (rw [show t323.length = t306.length from (Kd.R_reads' HO_312001.out).1.symm] <;> rfl) | rfl | (simp only [List.length_drop, List.length_take]; rfl)) ?_; (with_reducible refine (laws_heldDy.calls kj60 t305 _ _ t323 t309 1 t324 _ ?side1 ?side2 A92.out).mono ?_); (case side1 => repeat (first | exact (Kd.R_reads' HO_312001.out).2.2 | (with_reducible refine Kd.C_alloc ?_ _) | (with_reducible refine Kd.C_drewN ?_ _) | (with_reducible refine Kd.C_drew ?_))); (case side2 => rw [show t323.length = t306.length from (Kd.R_reads' HO_312001.out).1.symm]; exact (Kd.R_reads' HO_312001.out).2.1); rintro e w175 ⟨rfl, hb⟩; refine ⟨_, rfl, ?_⟩; have n0_ := hkRb HO_299001 hb; have n1_ := hkRb HO_305001 hb; have n2_ := hkRb HO_312001 hb; have n3_ := hkBb BK285 hb; have n4_ := hkBb BK298 hb; have n5_ := hkBb BK304 hb; have n6_ := hkBb BK311 hb; have n7_ := Aside0.mk (below_step (hkS HB) hb); clear HO_299001; clear HO_305001; clear HO_312001; clear BK285; clear BK298; clear BK304; clear BK311; clear HB; have HO_299001 := n0_; have HO_305001 := n1_; have HO_312001 := n2_; have BK285 := n3_; have BK298 := n4_; have BK304 := n5_; have BK311 := n6_; have HB := n7_; clear n0_ n1_ n2_ n3_ n4_ n5_ n6_ n7_; (try clear hb); (try clear hb2); (try clear hk); (try clear hi)))
                      go_ret
                      exact ⟨by first | rfl | (simp [errW_none, errW_some] <;> rfl) | (simp [*, errW_none, errW_some] <;> rfl), by repeat (first | (with_reducible first | exact HB.out | apply below_alloc | apply pw_below_drewN | apply below_drew1 | refine below_set ?_ GE285.out | refine below_set ?_ GE298.out | refine below_set ?_ GE304.out | refine below_set ?_ GE311.out) | exact HB.out)⟩
          · replace c59 := Bool.eq_false_iff.mpr c59
            subst c59
            have H1 : (some false) = some r := by rw [if_neg (show ¬ (false = true) by decide)] at H; exact H
            clear H
            have H := H1
            clear H1
            obtain rfl := Option.some.inj H
            try go_wp2
            have n0_ := Aside0.mk (Kd.R_drew HO_299001.out)
            have n1_ := Aside0.mk (Kd.R_drew HO_305001.out)
            have n2_ := Aside0.mk (Kd.R_drew HO_312001.out)
            have n3_ := Aside0.mk (blk_drew BK285.out)
            have n4_ := Aside0.mk (blk_drew BK298.out)
            have n5_ := Aside0.mk (blk_drew BK304.out)
            have n6_ := Aside0.mk (blk_drew BK311.out)
            have n7_ := Aside0.mk (below_drew1 HB.out)
            clear HO_299001
            clear HO_305001
            clear HO_312001
            clear BK285
            clear BK298
            clear BK304
            clear BK311
            clear HB
            have HO_299001 := n0_
            have HO_305001 := n1_
            have HO_312001 := n2_
            have BK285 := n3_
            have BK298 := n4_
            have BK304 := n5_
            have BK311 := n6_
            have HB := n7_
            clear n0_ n1_ n2_ n3_ n4_ n5_ n6_ n7_
            refine start_ (n := 5) (S := fun w' => w'.cell? ⟨gb304, 0, none⟩ = some (.bool t299) ∧ w'.cell? ⟨gb304, 1, none⟩ = some (.slice Ao30 t300.length co30) ∧ w'.cell? ⟨gb304, 2, none⟩ = some (.int .i64 t303) ∧ w'.cell? ⟨gb285, 0, none⟩ = some (.bool a0_0) ∧ w'.cell? ⟨gb285, 1, none⟩ = some (.slice A0_1 l0_1.length c0_1) ∧ w'.cell? ⟨gb285, 2, none⟩ = some (.int .i64 a0_2)) (ds := []) #[false, false, false, false, false] (by kernel_rfl) rfl rfl ⟨(blk_cell BK304.out 0).trans rfl, (blk_cell BK304.out 1).trans rfl, (blk_cell BK304.out 2).trans rfl, (blk_cell BK285.out 0).trans rfl, (blk_cell BK285.out 1).trans rfl, (blk_cell BK285.out 2).trans rfl⟩ (fun hHeld => ?_)
            generalize wc.drew = w176 at HO_299001 HO_305001 HO_312001 BK285 BK298 BK304 BK311 HB hHeld ⊢
            refine take_ (i := 0) (N := some 45) (v := ?_) (a' := ?_) #[true, false, false, false, false] rfl rfl (by kernel_rfl) (fun _ _ _ h => h) (Or.inl ⟨by rfl, ?_⟩) hHeld ?_ ?_
            rotate_left
            · rintro w' ⟨s0, s1, s2, s3, s4, s5⟩
              go_simp
              with_reducible rfl
            rotate_left
            · simp only [Act.put, List.setIfInBounds_toArray, List.set_cons_zero, List.set_cons_succ, i64_w, i32_w]
              rfl
            refine take_ (i := 1) (N := some 46) (v := ?_) (a' := ?_) #[true, true, false, false, false] rfl rfl (by kernel_rfl) (fun _ _ _ h => h) (Or.inl ⟨by rfl, ?_⟩) hHeld ?_ ?_
            rotate_left
            · rintro w' ⟨s0, s1, s2, s3, s4, s5⟩
              go_simp
              with_reducible rfl
            rotate_left
            · simp only [Act.put, List.setIfInBounds_toArray, List.set_cons_zero, List.set_cons_succ, i64_w, i32_w]
              rfl
            refine one_ (i := 2) (N := some 47) #[true, true, true, false, false] rfl rfl (by kernel_rfl) (by decide) (fun K hK => ?_)
            refine goes_ Tryd.func16 (by kernel_rfl) rfl #[.agg #[.bool a0_0, .slice A0_1 l0_1.length c0_1, .int .i64 a0_2]] (by rfl) rfl rfl hkL ?_
            with_reducible refine (laws_toDy.calls kj11 a0_0 _ _ l0_1 a0_2 t313 t314 t317 _ ?side1 ?side2 A57.out).mono ?_
            (case side1 => repeat (first | exact (Kd.C_below HR0_1.out HB.out) | (with_reducible refine Kd.C_alloc ?_ _) | (with_reducible refine Kd.C_drewN ?_ _) | (with_reducible refine Kd.C_drew ?_)))
            (case side2 => exact HC0_1.out)
            rintro e w177 ⟨v315, rfl, ho0, hb⟩
            refine ⟨_, rfl, ?_⟩
            have n0_ := Aside0.mk (Kd.R_elder' (hkR HO_299001) (Kd.R_base ho0) hb)
            have n1_ := Aside0.mk (Kd.R_elder' (hkR HO_305001) (Kd.R_base ho0) hb)
            have n2_ := Aside0.mk (Kd.R_elder' (hkR HO_312001) (Kd.R_base ho0) hb)
            have n3_ := Aside0.mk (Kd.R_lower (Kd.R_new' (Kd.R_new' (Kd.R_new' ho0 (Kd.R_lt (hkR HO_299001))) (Kd.R_lt (hkR HO_305001))) (Kd.R_lt (hkR HO_312001))) (below_size (hkS HB)))
            have n4_ := hkBb BK285 hb
            have n5_ := hkBb BK298 hb
            have n6_ := hkBb BK304 hb
            have n7_ := hkBb BK311 hb
            have n8_ := Aside0.mk (below_step (hkS HB) hb)
            clear HO_299001
            clear HO_305001
            clear HO_312001
            clear BK285
            clear BK298
            clear BK304
            clear BK311
            clear HB
            have HO_299001 := n0_
            have HO_305001 := n1_
            have HO_312001 := n2_
            have HO316 := n3_
            have BK285 := n4_
            have BK298 := n5_
            have BK304 := n6_
            have BK311 := n7_
            have HB := n8_
            clear n0_ n1_ n2_ n3_ n4_ n5_ n6_ n7_ n8_
            (try clear hb)
            (try clear hb2)
            (try clear hk)
            (try clear hi)
            (try clear ho0)
            obtain ⟨Ao178, co178, eo178⟩ := Kd.R_slice HO316.out
            (first | subst eo178 | (injection eo178 with f1_ f2_ f3_; have f4_ := f1_.symm; have f5_ := f3_.symm; clear f1_ f2_ f3_; subst f4_; subst f5_))
            refine hK.out _ _ ⟨(blk_cell BK304.out 0).trans rfl, (blk_cell BK304.out 1).trans rfl, (blk_cell BK304.out 2).trans rfl, (blk_cell BK285.out 0).trans rfl, (blk_cell BK285.out 1).trans rfl, (blk_cell BK285.out 2).trans rfl⟩ (fun hHeld => ?_)
            clear hK K
            refine norm_ (a' := ?_) ?_ ?_
            rotate_left
            · show Act.put _ (some 47) _ = _
              simp only [Act.put, List.setIfInBounds_toArray, List.set_cons_zero, List.set_cons_succ, i64_w, i32_w]
              rfl
            refine one_ (i := 3) (N := some 48) #[true, true, true, true, false] rfl rfl (by kernel_rfl) (by decide) (fun K hK => ?_)
            refine goes_ Tryd.func11 (by kernel_rfl) rfl #[.agg #[.bool t299, .slice Ao30 t300.length co30, .int .i64 t303], .agg #[.bool t313, .slice Ao178 t314.length co178, .int .i64 t317]] (by rfl) rfl rfl hkL ?_
            with_reducible refine (laws_eqDy.calls kj11 t299 _ _ t300 t303 t313 _ _ t314 t317 false _ ?side1 ?side2 ?side3 ?side4 A58.out).mono ?_
            (case side1 => repeat (first | exact (Kd.R_reads' HO_305001.out).2.2 | (with_reducible refine Kd.C_alloc ?_ _) | (with_reducible refine Kd.C_drewN ?_ _) | (with_reducible refine Kd.C_drew ?_)))
            (case side2 => exact (Kd.R_reads' HO_305001.out).2.1)
            (case side3 => repeat (first | exact (Kd.R_reads' HO316.out).2.2 | (with_reducible refine Kd.C_alloc ?_ _) | (with_reducible refine Kd.C_drewN ?_ _) | (with_reducible refine Kd.C_drew ?_)))
            (case side4 => exact (Kd.R_reads' HO316.out).2.1)
            rintro e w179 ⟨rfl, hb⟩
            refine ⟨_, rfl, ?_⟩
            have n0_ := hkRb HO_299001 hb
            have n1_ := hkRb HO_305001 hb
            have n2_ := hkRb HO_312001 hb
            have n3_ := hkRb HO316 hb
            have n4_ := hkBb BK285 hb
            have n5_ := hkBb BK298 hb
            have n6_ := hkBb BK304 hb
            have n7_ := hkBb BK311 hb
            have n8_ := Aside0.mk (below_step (hkS HB) hb)
            clear HO_299001
            clear HO_305001
            clear HO_312001
            clear HO316
            clear BK285
            clear BK298
            clear BK304
            clear BK311
            clear HB
            have HO_299001 := n0_
            have HO_305001 := n1_
            have HO_312001 := n2_
            have HO316 := n3_
            have BK285 := n4_
            have BK298 := n5_
            have BK304 := n6_
            have BK311 := n7_
            have HB := n8_
            clear n0_ n1_ n2_ n3_ n4_ n5_ n6_ n7_ n8_
            (try clear hb)
            (try clear hb2)
            (try clear hk)
            (try clear hi)
            refine hK.out _ _ ⟨(blk_cell BK304.out 0).trans rfl, (blk_cell BK304.out 1).trans rfl, (blk_cell BK304.out 2).trans rfl, (blk_cell BK285.out 0).trans rfl, (blk_cell BK285.out 1).trans rfl, (blk_cell BK285.out 2).trans rfl⟩ (fun hHeld => ?_)
            clear hK K
            refine norm_ (a' := ?_) ?_ ?_
            rotate_left
            · show Act.put _ (some 48) _ = _
              simp only [Act.put, List.setIfInBounds_toArray, List.set_cons_zero, List.set_cons_succ, i64_w, i32_w]
              rfl
            refine pure_ (i := 4) (N := some 49) (v := ?_) (a' := ?_) #[true, true, true, true, true] rfl rfl (by kernel_rfl) (fun _ _ _ h => h) (Or.inl ⟨by rfl, ?_⟩) ?_ ?_
            rotate_left
            · intro w'
              go_simp
              with_reducible rfl
            rotate_left
            · simp only [Act.put, List.setIfInBounds_toArray, List.set_cons_zero, List.set_cons_succ, i64_w, i32_w]
              rfl
            refine done_ (by kernel_rfl) ?_
            try go_wp2
            go_ret
            exact ⟨by first | rfl | (simp [errW_none, errW_some] <;> rfl) | (simp [*, errW_none, errW_some] <;> rfl), by repeat (first | (with_reducible first | exact HB.out | apply below_alloc | apply pw_below_drewN | apply below_drew1 | refine below_set ?_ GE285.out | refine below_set ?_ GE298.out | refine below_set ?_ GE304.out | refine below_set ?_ GE311.out) | exact HB.out)⟩

/-- THE ONE PURE STATEMENT of laws_FnExactDyShift. -/
def laws_FnExactDyShift.Pure : Prop := ∀ (a0_0 : Bool) (l0_1 : List Int) (a0_2 : Int) (a1 : Int), l0_1.length ≤ maxLen → (∀ x ∈ l0_1, (Lit.int .i64 x).wf = true) → (Lit.int .i64 a0_2).wf = true → (Lit.int .i64 a1).wf = true → ∃ k, laws_FnExactDyShift.f k a0_0 l0_1 a0_2 a1 = some true
theorem laws_FnExactDyShift.walk (P : laws_FnExactDyShift.Pure) (a0_0 : Bool) (a0_1 : Option Addr) (len0_1 cap0_1 : Nat) (z0_1 : List Int) (a0_2 : Int) (a1 : Int) (w : World) (w0_1 : ((a0_1 = none ∧ len0_1 = 0 ∧ cap0_1 = 0 ∧ z0_1 = []) ∨ ∃ x, a0_1 = some x ∧ len0_1 ≤ cap0_1 ∧ cap0_1 ≤ maxLen ∧ z0_1.length = cap0_1 ∧ (∀ i, i < z0_1.length → w.cell? (x.add i) = some (.int .i64 (z0_1.getD i 0))) ∧ ∀ n ∈ z0_1, (Lit.int .i64 n).wf = true)) (w0_2 : (Lit.int .i64 a0_2).wf = true) (w1 : (Lit.int .i64 a1).wf = true) (hT : hTab w) :
    Calls Tryd.prog 4 #[.agg #[.bool a0_0, .slice a0_1 len0_1 cap0_1, .int .i64 a0_2], .int .i64 a1] w fun e w' => e = .returned (.bool true) ∧ Below w.heap.size w w' := by
  have HT0 := Aside0.mk hT
  clear hT
  obtain ⟨l0_1, rfl, hr0_1, hm0_1, hw0_1, hc0_1⟩ := ReadsInt.ofRowC w0_1
  obtain ⟨k, h⟩ := P a0_0 l0_1 a0_2 a1 hm0_1 hw0_1 w0_2 w1
  refine (laws_FnExactDyShift.calls k a0_0 _ _ l0_1 a0_2 a1 true w (Kd.C_of_reads (d := (0 : Int)) (h1 := fun _ => rfl) hr0_1) hc0_1 h).mono ?_
  rintro e w' ⟨rfl, hd⟩
  exact ⟨rfl, hd⟩

end Go.Proofs.YtgjpahofopoflaaDoor.PFnExactDyShift
