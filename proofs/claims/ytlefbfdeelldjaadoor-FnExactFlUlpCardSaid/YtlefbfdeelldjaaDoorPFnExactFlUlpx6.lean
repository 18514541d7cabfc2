-- Written by our own driver (wip/hand/hprint.py) over the seat's translation.
import Derived.Test.YtlefbfdeelldjaaDoorPFnExactFlUlpx0
import Derived.Test.YtlefbfdeelldjaaDoorPFnExactFlUlpx2
import Derived.Test.YtlefbfdeelldjaaDoorPFnExactFlUlpx4
import Derived.Test.YtlefbfdeelldjaaDoorPFnExactFlUlpx5
namespace Go.Proofs.YtlefbfdeelldjaaDoor.PFnExactFlUlp
open Go.RowKit Go.Proofs.YtlefbfdeelldjaaDoorW.PrintWords Go.Proofs.YtlefbfdeelldjaaDoorW.PrintLast Go.Proofs.YtlefbfdeelldjaaDoorW.PrintMore
attribute [local go_sem] max2_int min2_int max_two min_two max_three min_three max_four min_four   -- for this text's walks alone
set_option linter.unusedVariables false
set_option linter.unusedSimpArgs false

/-! ### laws_FnExactFlUlp: function 3 -/
mutual
def laws_FnExactFlUlp.j0 : Nat → Bool → Bool → Int → Bool → Int → Int → Bool → List Int → Int → Bool → List Int → Int → Option (Bool)
  | 0, _, _, _, _, _, _, _, _, _, _, _, _ => none
  | k + 1, x4, x31, x297000, x297001, x297002, x297003, x308000, x308001, x308002, x319000, x319001, x319002 => if x31 = true then (some false) else ((laws_markDy.f k x319000 x319001 x319002 1).bind fun bt320 => ((laws_heldDy.f k x319000 bt320.2 x319002 1).bind fun t322 => (if t322 < 0 then (some false) else (if t322 = bt320.1 then ((laws_toFl.f x297000 x297001 x297002 x297003).bind fun bt323 => ((impl_FlUlp.f k bt323.1 bt323.2.1 bt323.2.2.1 bt323.2.2.2).bind fun bt327 => ((laws_eqDy.f k bt327.1 bt327.2.1 bt327.2.2.1 x308000 x308001 x308002).bind fun t334 => (if t334 = true then (laws_FnExactFlUlp.j1 k bt320.1 (bt327.2.2.2 != x4) x319000 bt320.2 x319002) else (laws_FnExactFlUlp.j1 k bt320.1 true x319000 bt320.2 x319002))))) else (some false)))))
def laws_FnExactFlUlp.j1 : Nat → Int → Bool → Bool → List Int → Int → Option (Bool)
  | 0, _, _, _, _, _ => none
  | k + 1, x7, x57, x319000, x319001, x319002 => if x57 = true then (some false) else ((laws_heldDy.f k x319000 x319001 x319002 1).bind fun t335 => (if t335 < 0 then (some false) else (if t335 = x7 then (some true) else (some false))))
end
def laws_FnExactFlUlp.f (k : Nat) (a0_0 : Int) (a0_1 : Bool) (a0_2 : Int) (a0_3 : Int) : Option (Bool) := (laws_toFl.f a0_0 a0_1 a0_2 a0_3).bind fun bt297 => ((spec_FlUlp.f k bt297.1 bt297.2.1 bt297.2.2.1 bt297.2.2.2).bind fun bt301 => ((laws_toFl.f a0_0 a0_1 a0_2 a0_3).bind fun bt308 => ((impl_FlUlp.f k bt308.1 bt308.2.1 bt308.2.2.1 bt308.2.2.2).bind fun bt312 => ((laws_eqDy.f k bt312.1 bt312.2.1 bt312.2.2.1 bt301.1 bt301.2.1 bt301.2.2.1).bind fun t319 => (if t319 = true then (laws_FnExactFlUlp.j0 k bt301.2.2.2 (bt312.2.2.2 != bt301.2.2.2) a0_0 a0_1 a0_2 a0_3 bt301.1 bt301.2.1 bt301.2.2.1 bt312.1 bt312.2.1 bt312.2.2.1) else (laws_FnExactFlUlp.j0 k bt301.2.2.2 true a0_0 a0_1 a0_2 a0_3 bt301.1 bt301.2.1 bt301.2.2.1 bt312.1 bt312.2.1 bt312.2.2.1))))))
theorem laws_FnExactFlUlp.mono_l : ∀ k, (∀ y0 y1 y2 y3 y4 y5 y6 y7 y8 y9 y10 y11, LeO (laws_FnExactFlUlp.j0 k y0 y1 y2 y3 y4 y5 y6 y7 y8 y9 y10 y11) (laws_FnExactFlUlp.j0 (k + 1) y0 y1 y2 y3 y4 y5 y6 y7 y8 y9 y10 y11)) ∧ (∀ y0 y1 y2 y3 y4, LeO (laws_FnExactFlUlp.j1 k y0 y1 y2 y3 y4) (laws_FnExactFlUlp.j1 (k + 1) y0 y1 y2 y3 y4))
  | 0 => ⟨fun _ _ _ _ _ _ _ _ _ _ _ _ r h => by simp [laws_FnExactFlUlp.j0] at h, fun _ _ _ _ _ r h => by simp [laws_FnExactFlUlp.j1] at h⟩
  | k + 1 => by
    obtain ⟨ih0, ih1⟩ := laws_FnExactFlUlp.mono_l k
    refine ⟨?_, ?_⟩
    · intro y0 y1 y2 y3 y4 y5 y6 y7 y8 y9 y10 y11
      unfold laws_FnExactFlUlp.j0
      repeat' first
      | (with_reducible exact ih0 _ _ _ _ _ _ _ _ _ _ _ _)
      | (with_reducible exact ih1 _ _ _ _ _)
      | (with_reducible exact impl_FlUlp.mono _ _ _ _ _)
      | (with_reducible exact laws_eqDy.mono _ _ _ _ _ _ _)
      | (with_reducible exact laws_heldDy.mono _ _ _ _ _)
      | (with_reducible exact laws_markDy.mono _ _ _ _ _)
      | (with_reducible exact spec_FlUlp.mono _ _ _ _ _)
      | (with_reducible exact LeO.refl _)
      | (with_reducible exact LeO.none _)
      | (with_reducible refine LeO.ite ?_ ?_)
      | (with_reducible refine LeO.bind ?_ (fun _ => ?_))
      | exact ih0 _ _ _ _ _ _ _ _ _ _ _ _
      | exact ih1 _ _ _ _ _
      | exact impl_FlUlp.mono _ _ _ _ _
      | exact laws_eqDy.mono _ _ _ _ _ _ _
      | exact laws_heldDy.mono _ _ _ _ _
      | exact laws_markDy.mono _ _ _ _ _
      | exact spec_FlUlp.mono _ _ _ _ _
      | exact LeO.none _
      | refine LeO.ite ?_ ?_
      | refine LeO.bind ?_ (fun _ => ?_)
    · intro y0 y1 y2 y3 y4
      unfold laws_FnExactFlUlp.j1
      repeat' first
      | (with_reducible exact ih0 _ _ _ _ _ _ _ _ _ _ _ _)
      | (with_reducible exact ih1 _ _ _ _ _)
      | (with_reducible exact impl_FlUlp.mono _ _ _ _ _)
      | (with_reducible exact laws_eqDy.mono _ _ _ _ _ _ _)
      | (with_reducible exact laws_heldDy.mono _ _ _ _ _)
      | (with_reducible exact laws_markDy.mono _ _ _ _ _)
      | (with_reducible exact spec_FlUlp.mono _ _ _ _ _)
      | (with_reducible exact LeO.refl _)
      | (with_reducible exact LeO.none _)
      | (with_reducible refine LeO.ite ?_ ?_)
      | (with_reducible refine LeO.bind ?_ (fun _ => ?_))
      | exact ih0 _ _ _ _ _ _ _ _ _ _ _ _
      | exact ih1 _ _ _ _ _
      | exact impl_FlUlp.mono _ _ _ _ _
      | exact laws_eqDy.mono _ _ _ _ _ _ _
      | exact laws_heldDy.mono _ _ _ _ _
      | exact laws_markDy.mono _ _ _ _ _
      | exact spec_FlUlp.mono _ _ _ _ _
      | exact LeO.none _
      | refine LeO.ite ?_ ?_
      | refine LeO.bind ?_ (fun _ => ?_)
theorem laws_FnExactFlUlp.mono : ∀ a0 a1 a2 a3 k, LeO (laws_FnExactFlUlp.f k a0 a1 a2 a3) (laws_FnExactFlUlp.f (k + 1) a0 a1 a2 a3) := by
  intro a0 a1 a2 a3 k
  obtain ⟨ih0, ih1⟩ := laws_FnExactFlUlp.mono_l k
  unfold laws_FnExactFlUlp.f
  repeat' first
      | (with_reducible exact ih0 _ _ _ _ _ _ _ _ _ _ _ _)
      | (with_reducible exact ih1 _ _ _ _ _)
      | (with_reducible exact impl_FlUlp.mono _ _ _ _ _)
      | (with_reducible exact laws_eqDy.mono _ _ _ _ _ _ _)
      | (with_reducible exact laws_heldDy.mono _ _ _ _ _)
      | (with_reducible exact laws_markDy.mono _ _ _ _ _)
      | (with_reducible exact spec_FlUlp.mono _ _ _ _ _)
      | (with_reducible exact LeO.refl _)
      | (with_reducible exact LeO.none _)
      | (with_reducible refine LeO.ite ?_ ?_)
      | (with_reducible refine LeO.bind ?_ (fun _ => ?_))
      | exact ih0 _ _ _ _ _ _ _ _ _ _ _ _
      | exact ih1 _ _ _ _ _
      | exact impl_FlUlp.mono _ _ _ _ _
      | exact laws_eqDy.mono _ _ _ _ _ _ _
      | exact laws_heldDy.mono _ _ _ _ _
      | exact laws_markDy.mono _ _ _ _ _
      | exact spec_FlUlp.mono _ _ _ _ _
      | exact LeO.none _
      | refine LeO.ite ?_ ?_
      | refine LeO.bind ?_ (fun _ => ?_)
set_option maxHeartbeats 8000000 in
set_option maxRecDepth 100000 in
theorem laws_FnExactFlUlp.calls (k : Nat) (a0_0 : Int) (a0_1 : Bool) (a0_2 : Int) (a0_3 : Int) (r : Bool) (w : World) (h : laws_FnExactFlUlp.f k a0_0 a0_1 a0_2 a0_3 = some r) (hT : hTab w := by exact hTab_use (by assumption)) :
    Calls Tryd.prog 3 #[.agg #[.int .i64 a0_0, .bool a0_1, .int .i64 a0_2, .int .i64 a0_3]] w fun e w' => e = .returned (.bool r) ∧ Below w.heap.size w w' := by
  have HT0 := Aside0.mk hT
  clear hT
  have hu23 := Tryd.underlying23
  have hu30 := Tryd.underlying30
  have HB := Aside0.mk (Below.refl w.heap.size w)
  have H : ((laws_toFl.f a0_0 a0_1 a0_2 a0_3).bind fun bt297 => ((spec_FlUlp.f k bt297.1 bt297.2.1 bt297.2.2.1 bt297.2.2.2).bind fun bt301 => ((laws_toFl.f a0_0 a0_1 a0_2 a0_3).bind fun bt308 => ((impl_FlUlp.f k bt308.1 bt308.2.1 bt308.2.2.1 bt308.2.2.2).bind fun bt312 => ((laws_eqDy.f k bt312.1 bt312.2.1 bt312.2.2.1 bt301.1 bt301.2.1 bt301.2.2.1).bind fun t319 => (if t319 = true then (laws_FnExactFlUlp.j0 k bt301.2.2.2 (bt312.2.2.2 != bt301.2.2.2) a0_0 a0_1 a0_2 a0_3 bt301.1 bt301.2.1 bt301.2.2.1 bt312.1 bt312.2.1 bt312.2.2.1) else (laws_FnExactFlUlp.j0 k bt301.2.2.2 true a0_0 a0_1 a0_2 a0_3 bt301.1 bt301.2.1 bt301.2.2.1 bt312.1 bt312.2.1 bt312.2.2.1))))))) = some r := h
  clear h
  replace H := Option.bind_eq_some_iff.mp H
  obtain ⟨⟨t297, t298, t299, t300⟩, A20, H⟩ := H
  replace H : ((spec_FlUlp.f k t297 t298 t299 t300).bind fun bt301 => ((laws_toFl.f a0_0 a0_1 a0_2 a0_3).bind fun bt308 => ((impl_FlUlp.f k bt308.1 bt308.2.1 bt308.2.2.1 bt308.2.2.2).bind fun bt312 => ((laws_eqDy.f k bt312.1 bt312.2.1 bt312.2.2.1 bt301.1 bt301.2.1 bt301.2.2.1).bind fun t319 => (if t319 = true then (laws_FnExactFlUlp.j0 k bt301.2.2.2 (bt312.2.2.2 != bt301.2.2.2) a0_0 a0_1 a0_2 a0_3 bt301.1 bt301.2.1 bt301.2.2.1 bt312.1 bt312.2.1 bt312.2.2.1) else (laws_FnExactFlUlp.j0 k bt301.2.2.2 true a0_0 a0_1 a0_2 a0_3 bt301.1 bt301.2.1 bt301.2.2.1 bt312.1 bt312.2.1 bt312.2.2.1)))))) = some r := H
  have A2 := Aside0.mk A20
  clear A20
  replace H := Option.bind_eq_some_iff.mp H
  obtain ⟨⟨t301, t302, t305, t306⟩, A30, H⟩ := H
  replace H : ((laws_toFl.f a0_0 a0_1 a0_2 a0_3).bind fun bt308 => ((impl_FlUlp.f k bt308.1 bt308.2.1 bt308.2.2.1 bt308.2.2.2).bind fun bt312 => ((laws_eqDy.f k bt312.1 bt312.2.1 bt312.2.2.1 t301 t302 t305).bind fun t319 => (if t319 = true then (laws_FnExactFlUlp.j0 k t306 (bt312.2.2.2 != t306) a0_0 a0_1 a0_2 a0_3 t301 t302 t305 bt312.1 bt312.2.1 bt312.2.2.1) else (laws_FnExactFlUlp.j0 k t306 true a0_0 a0_1 a0_2 a0_3 t301 t302 t305 bt312.1 bt312.2.1 bt312.2.2.1))))) = some r := H
  have A3 := Aside0.mk A30
  clear A30
  replace H := Option.bind_eq_some_iff.mp H
  obtain ⟨⟨t308, t309, t310, t311⟩, A40, H⟩ := H
  replace H : ((impl_FlUlp.f k t308 t309 t310 t311).bind fun bt312 => ((laws_eqDy.f k bt312.1 bt312.2.1 bt312.2.2.1 t301 t302 t305).bind fun t319 => (if t319 = true then (laws_FnExactFlUlp.j0 k t306 (bt312.2.2.2 != t306) a0_0 a0_1 a0_2 a0_3 t301 t302 t305 bt312.1 bt312.2.1 bt312.2.2.1) else (laws_FnExactFlUlp.j0 k t306 true a0_0 a0_1 a0_2 a0_3 t301 t302 t305 bt312.1 bt312.2.1 bt312.2.2.1)))) = some r := H
  have A4 := Aside0.mk A40
  clear A40
  replace H := Option.bind_eq_some_iff.mp H
  obtain ⟨⟨t312, t313, t316, t317⟩, A50, H⟩ := H
  replace H : ((laws_eqDy.f k t312 t313 t316 t301 t302 t305).bind fun t319 => (if t319 = true then (laws_FnExactFlUlp.j0 k t306 (t317 != t306) a0_0 a0_1 a0_2 a0_3 t301 t302 t305 t312 t313 t316) else (laws_FnExactFlUlp.j0 k t306 true a0_0 a0_1 a0_2 a0_3 t301 t302 t305 t312 t313 t316))) = some r := H
  have A5 := Aside0.mk A50
  clear A50
  have HC6 := Aside0.mk H
  clear H
  go_enter Tryd.func3, Tryd.ntmps3
  go_upto_region 3 with (first | ((with_reducible refine gate_dst (N := 1) rfl ?_); refine box_event ?hg (N := 1) ?hd (cs := #[.int .i64 a0_0, .bool a0_1, .int .i64 a0_2, .int .i64 a0_3]) (t := 23) ?hr ?_; (case hd => rfl); (case hg => rfl); (case hr => first | (go_simp; done) | (go_simp; rfl)); intro gb296 hg w7 hbox hb; have n0_ := Aside0.mk (below_step (hkS HB) hb); have n1_ := Aside0.mk (hbox); have n2_ := hkG hg (hkS HB); have n3_ := hkG hg (hkS HB); clear HB; have HB := n0_; have BK296 := n1_; have GW296 := n2_; have GE296 := n3_; clear n0_ n1_ n2_ n3_; clear hb hbox hg; have hcz8_0 : w7.cell? ⟨gb296, 0, none⟩ = some (.int .i64 a0_0) := (blk_cell BK296.out 0).trans rfl; have hcz8_1 : w7.cell? ⟨gb296, 1, none⟩ = some (.bool a0_1) := (blk_cell BK296.out 1).trans rfl; have hcz8_2 : w7.cell? ⟨gb296, 2, none⟩ = some (.int .i64 a0_2) := (blk_cell BK296.out 2).trans rfl; have hcz8_3 : w7.cell? ⟨gb296, 3, none⟩ = some (.int .i64 a0_3) := (blk_cell BK296.out 3).trans rfl; have hfz8_0 := blk_frozen BK296.out 0; have hfz8_1 := blk_frozen BK296.out 1; have hfz8_2 := blk_frozen BK296.out 2; have hfz8_3 := blk_frozen BK296.out 3) | ((with_reducible refine gate_callee (f := 5) rfl ?_); refine goesL_ (some 13) rfl rfl Tryd.func5 (by kernel_rfl) rfl #[.agg #[.int .i64 a0_0, .bool a0_1, .int .i64 a0_2, .int .i64 a0_3]] rfl hkL ?_; (with_reducible refine (laws_toFl.calls a0_0 a0_1 a0_2 a0_3 t297 t298 t299 t300 _ A2.out).mono ?_); rintro e w9 ⟨rfl, hb⟩; refine ⟨_, rfl, ?_⟩; have n0_ := hkBb BK296 hb; have n1_ := Aside0.mk (below_step (hkS HB) hb); clear BK296; clear HB; have BK296 := n0_; have HB := n1_; clear n0_ n1_; (try clear hb); (try clear hb2); (try clear hk); (try clear hi)) | ((with_reducible refine gate_callee (f := 4) rfl ?_); refine goesL_ (some 14) rfl rfl Tryd.func4 (by kernel_rfl) rfl #[.agg #[.int .i64 t297, .bool t298, .int .i64 t299, .int .i64 t300]] rfl hkL ?_; (with_reducible refine (spec_FlUlp.calls k t297 t298 t299 t300 t301 t302 t305 t306 _ A3.out).mono ?_); rintro e w10 ⟨v303, rfl, ho0, hb⟩; refine ⟨_, rfl, ?_⟩; have n0_ := Aside0.mk (Kd.R_lower ho0 (below_size (hkS HB))); have n1_ := hkBb BK296 hb; have n2_ := Aside0.mk (below_step (hkS HB) hb); clear BK296; clear HB; have HO304 := n0_; have BK296 := n1_; have HB := n2_; clear n0_ n1_ n2_; (try clear hb); (try clear hb2); (try clear hk); (try clear hi); (try clear ho0)) | ((with_reducible refine gate_dst (N := 3) rfl ?_); refine box_event ?hg (N := 3) ?hd (cs := #[.bool false, .slice none 0 0, .int .i64 0]) (t := 30) ?hr ?_; (case hd => rfl); (case hg => rfl); (case hr => first | (go_simp; done) | (go_simp; rfl)); intro gb307 hg w11 hbox hb; have n0_ := hkRb HO304 hb; have n1_ := hkBb BK296 hb; have n2_ := Aside0.mk (below_step (hkS HB) hb); have n3_ := Aside0.mk (hbox); have n4_ := hkG hg (hkS HB); have n5_ := hkG hg (hkS HB); have n6_ := hkN hg BK296; have n7_ := hkM hg BK296; clear HO304; clear BK296; clear HB; have HO304 := n0_; have BK296 := n1_; have HB := n2_; have BK307 := n3_; have GW307 := n4_; have GE307 := n5_; have NB296_307 := n6_; have NB307_296 := n7_; clear n0_ n1_ n2_ n3_ n4_ n5_ n6_ n7_; clear hb hbox hg; have hnb12 := NB307_296.out; have hnc12 := NB296_307.out; have hcz13_0 : w11.cell? ⟨gb307, 0, none⟩ = some (.bool false) := (blk_cell BK307.out 0).trans rfl; have hcz13_1 : w11.cell? ⟨gb307, 1, none⟩ = some (.slice none 0 0) := (blk_cell BK307.out 1).trans rfl; have hcz13_2 : w11.cell? ⟨gb307, 2, none⟩ = some (.int .i64 0) := (blk_cell BK307.out 2).trans rfl; have hfz13_0 := blk_frozen BK307.out 0; have hfz13_1 := blk_frozen BK307.out 1; have hfz13_2 := blk_frozen BK307.out 2; obtain ⟨Ao14, co14, eo14⟩ := Kd.R_slice HO304.out; subst eo14; have hcz15_0 : w11.cell? ⟨gb296, 0, none⟩ = some (.int .i64 a0_0) := (blk_cell BK296.out 0).trans rfl; have hcz15_1 : w11.cell? ⟨gb296, 1, none⟩ = some (.bool a0_1) := (blk_cell BK296.out 1).trans rfl; have hcz15_2 : w11.cell? ⟨gb296, 2, none⟩ = some (.int .i64 a0_2) := (blk_cell BK296.out 2).trans rfl; have hcz15_3 : w11.cell? ⟨gb296, 3, none⟩ = some (.int .i64 a0_3) := (blk_cell BK296.out 3).trans rfl; have hfz15_0 := blk_frozen BK296.out 0; have hfz15_1 := blk_frozen BK296.out 1; have hfz15_2 := blk_frozen BK296.out 2; have hfz15_3 := blk_frozen BK296.out 3) | ((with_reducible refine gate_callee (f := 5) rfl ?_); refine goesL_ (some 19) rfl rfl Tryd.func5 (by kernel_rfl) rfl #[.agg #[.int .i64 a0_0, .bool a0_1, .int .i64 a0_2, .int .i64 a0_3]] rfl hkL ?_; (with_reducible refine (laws_toFl.calls a0_0 a0_1 a0_2 a0_3 t308 t309 t310 t311 _ A4.out).mono ?_); rintro e w16 ⟨rfl, hb⟩; refine ⟨_, rfl, ?_⟩; have n0_ := Aside0.mk (Kd.R_below (by (with_reducible repeat (first | apply Kd.R_alloc | apply Kd.R_drewN | apply Kd.R_drew)); exact (Kd.R_mono (Kd.R_far (p := ⟨gb307, 2, none⟩) (Kd.R_far (p := ⟨gb307, 1, none⟩) (Kd.R_far (p := ⟨gb307, 0, none⟩) (Kd.R_types HO304.out BK307.out (by decide)) (fun _ hk => hk.2) (.bool t301)) (fun _ hk => hk.2) (.slice Ao14 t302.length co14)) (fun _ hk => hk.2) (.int .i64 t305)) (fun _ h_ => h_.1))) hb); have n1_ := Aside0.mk (blk_below (g := gb296) (o := .cells #[.int .i64 a0_0, .bool a0_1, .int .i64 a0_2, .int .i64 a0_3] 23 (0, 0)) (by (with_reducible repeat (first | refine blk_drewN ?_ _ | refine blk_drew ?_ | refine blk_alloc ?_ _)); refine blk_far ?_ NB296_307.out _; (with_reducible repeat (first | refine blk_drewN ?_ _ | refine blk_drew ?_ | refine blk_alloc ?_ _)); refine blk_far ?_ NB296_307.out _; (with_reducible repeat (first | refine blk_drewN ?_ _ | refine blk_drew ?_ | refine blk_alloc ?_ _)); refine blk_far ?_ NB296_307.out _; (with_reducible repeat (first | refine blk_drewN ?_ _ | refine blk_drew ?_ | refine blk_alloc ?_ _)); exact BK296.out) hb); have n2_ := Aside0.mk (blk_below (g := gb307) (o := .cells #[.bool t301, .slice Ao14 t302.length co14, .int .i64 t305] 30 (0, 0)) (by (with_reducible repeat (first | refine blk_drewN ?_ _ | refine blk_drew ?_ | refine blk_alloc ?_ _)); refine blk_put (cs := #[.bool t301, .slice Ao14 t302.length co14, .int .i64 0]) ?_ 2 _ rfl; (with_reducible repeat (first | refine blk_drewN ?_ _ | refine blk_drew ?_ | refine blk_alloc ?_ _)); refine blk_put (cs := #[.bool t301, .slice none 0 0, .int .i64 0]) ?_ 1 _ rfl; (with_reducible repeat (first | refine blk_drewN ?_ _ | refine blk_drew ?_ | refine blk_alloc ?_ _)); refine blk_put (cs := #[.bool false, .slice none 0 0, .int .i64 0]) ?_ 0 _ rfl; (with_reducible repeat (first | refine blk_drewN ?_ _ | refine blk_drew ?_ | refine blk_alloc ?_ _)); exact BK307.out) hb); have n3_ := Aside0.mk (below_step (hkS HB) hb); clear HO304; clear BK296; clear BK307; clear HB; have HO304 := n0_; have BK296 := n1_; have BK307 := n2_; have HB := n3_; clear n0_ n1_ n2_ n3_; (try clear hb); (try clear hb2); (try clear hk); (try clear hi)) | ((with_reducible refine gate_callee (f := 6) rfl ?_); refine goesL_ (some 20) rfl rfl Tryd.func6 (by kernel_rfl) rfl #[.agg #[.int .i64 t308, .bool t309, .int .i64 t310, .int .i64 t311]] rfl hkL ?_; (with_reducible refine (impl_FlUlp.calls k t308 t309 t310 t311 t312 t313 t316 t317 _ A5.out).mono ?_); rintro e w17 ⟨v314, rfl, ho0, hb⟩; refine ⟨_, rfl, ?_⟩; have n0_ := Aside0.mk (Kd.R_elder' (hkR HO304) (Kd.R_base ho0) hb); have n1_ := Aside0.mk (Kd.R_lower (Kd.R_new' ho0 (Kd.R_lt (hkR HO304))) (below_size (hkS HB))); have n2_ := hkBb BK296 hb; have n3_ := hkBb BK307 hb; have n4_ := Aside0.mk (below_step (hkS HB) hb); clear HO304; clear BK296; clear BK307; clear HB; have HO304 := n0_; have HO315 := n1_; have BK296 := n2_; have BK307 := n3_; have HB := n4_; clear n0_ n1_ n2_ n3_ n4_; (try clear hb); (try clear hb2); (try clear hk); (try clear hi); (try clear ho0)) | ((with_reducible refine gate_dst (N := 5) rfl ?_); refine box_event ?hg (N := 5) ?hd (cs := #[.bool false, .slice none 0 0, .int .i64 0]) (t := 30) ?hr ?_; (case hd => rfl); (case hg => rfl); (case hr => first | (go_simp; done) | (go_simp; rfl)); intro gb318 hg w18 hbox hb; have n0_ := hkRb HO304 hb; have n1_ := hkRb HO315 hb; have n2_ := hkBb BK296 hb; have n3_ := hkBb BK307 hb; have n4_ := Aside0.mk (below_step (hkS HB) hb); have n5_ := Aside0.mk (hbox); have n6_ := hkG hg (hkS HB); have n7_ := hkG hg (hkS HB); have n8_ := hkN hg BK296; have n9_ := hkM hg BK296; have n10_ := hkN hg BK307; have n11_ := hkM hg BK307; clear HO304; clear HO315; clear BK296; clear BK307; clear HB; have HO304 := n0_; have HO315 := n1_; have BK296 := n2_; have BK307 := n3_; have HB := n4_; have BK318 := n5_; have GW318 := n6_; have GE318 := n7_; have NB296_318 := n8_; have NB318_296 := n9_; have NB307_318 := n10_; have NB318_307 := n11_; clear n0_ n1_ n2_ n3_ n4_ n5_ n6_ n7_ n8_ n9_ n10_ n11_; clear hb hbox hg; have hnb19 := NB318_296.out; have hnc19 := NB296_318.out; have hnb20 := NB318_307.out; have hnc20 := NB307_318.out; have hcz21_0 : w18.cell? ⟨gb318, 0, none⟩ = some (.bool false) := (blk_cell BK318.out 0).trans rfl; have hcz21_1 : w18.cell? ⟨gb318, 1, none⟩ = some (.slice none 0 0) := (blk_cell BK318.out 1).trans rfl; have hcz21_2 : w18.cell? ⟨gb318, 2, none⟩ = some (.int .i64 0) := (blk_cell BK318.out 2).trans rfl; have hfz21_0 := blk_frozen BK318.out 0; have hfz21_1 := blk_frozen BK318.out 1; have hfz21_2 := blk_frozen BK318.out 2; obtain ⟨Ao22, co22, eo22⟩ := Kd.R_slice HO315.out; subst eo22))
  (try simp only [Act.put, List.setIfInBounds_toArray, List.set_cons_zero, List.set_cons_succ])
  go_cut [31] (fun v31 wc => ∃ (kq : Nat) (x31_5 : Bool), v31 = .bool x31_5 ∧ Aside0 (laws_FnExactFlUlp.j0 kq t306 x31_5 a0_0 a0_1 a0_2 a0_3 t301 t302 t305 t312 t313 t316 = some r) ∧ Aside0 (kq ≤ k) ∧ Aside0 (Kd.R (Kd.int .i64) 3 wc w.heap.size (fun k_ => some k_ ≠ ((.slice Ao22 t313.length co22) : Value).ownBlock) (.slice Ao14 t302.length co14) t302) ∧ Aside0 (Kd.R (Kd.int .i64) 3 wc w.heap.size (fun k_ => some k_ ≠ ((.slice Ao14 t302.length co14) : Value).ownBlock) (.slice Ao22 t313.length co22) t313) ∧ Aside0 (wc.heap[gb296]? = some (.cells #[.int .i64 a0_0, .bool a0_1, .int .i64 a0_2, .int .i64 a0_3] 23 (0, 0))) ∧ Aside0 (wc.heap[gb307]? = some (.cells #[.bool t301, (.slice Ao14 t302.length co14), .int .i64 t305] 30 (0, 0))) ∧ Aside0 (wc.heap[gb318]? = some (.cells #[.bool t312, (.slice Ao22 t313.length co22), .int .i64 t316] 30 (0, 0))) ∧ Aside0 (Below w.heap.size w wc))
  case first =>
    have H := HC6.out
    clear HC6
    replace H := Option.bind_eq_some_iff.mp H
    obtain ⟨t319, A230, H⟩ := H
    replace H : (if t319 = true then (laws_FnExactFlUlp.j0 k t306 (t317 != t306) a0_0 a0_1 a0_2 a0_3 t301 t302 t305 t312 t313 t316) else (laws_FnExactFlUlp.j0 k t306 true a0_0 a0_1 a0_2 a0_3 t301 t302 t305 t312 t313 t316)) = some r := H
    have A23 := Aside0.mk A230
    clear A230
    by_cases c24 : t319 = true
    · subst c24
      have H1 : (laws_FnExactFlUlp.j0 k t306 (t317 != t306) a0_0 a0_1 a0_2 a0_3 t301 t302 t305 t312 t313 t316) = some r := by rw [if_pos rfl] at H; exact H
      clear H
      have H := H1
      clear H1
      have H' := Aside0.mk H
      clear H
      have hnb25 := NB318_296.out
      have hnc25 := NB296_318.out
      have hnb26 := NB318_307.out
      have hnc26 := NB307_318.out
      have hcz27_0 : w18.cell? ⟨gb318, 0, none⟩ = some (.bool false) := (blk_cell BK318.out 0).trans rfl
      have hcz27_1 : w18.cell? ⟨gb318, 1, none⟩ = some (.slice none 0 0) := (blk_cell BK318.out 1).trans rfl
      have hcz27_2 : w18.cell? ⟨gb318, 2, none⟩ = some (.int .i64 0) := (blk_cell BK318.out 2).trans rfl
      have hfz27_0 := blk_frozen BK318.out 0
      have hfz27_1 := blk_frozen BK318.out 1
      have hfz27_2 := blk_frozen BK318.out 2
      have hnb28 := NB307_296.out
      have hnc28 := NB296_307.out
      have hcz29_0 : w18.cell? ⟨gb307, 0, none⟩ = some (.bool t301) := (blk_cell BK307.out 0).trans rfl
      have hcz29_1 : w18.cell? ⟨gb307, 1, none⟩ = some (.slice Ao14 t302.length co14) := (blk_cell BK307.out 1).trans rfl
      have hcz29_2 : w18.cell? ⟨gb307, 2, none⟩ = some (.int .i64 t305) := (blk_cell BK307.out 2).trans rfl
      have hfz29_0 := blk_frozen BK307.out 0
      have hfz29_1 := blk_frozen BK307.out 1
      have hfz29_2 := blk_frozen BK307.out 2
      go_wp2_with (first | ((with_reducible refine gate_callee (f := 7) rfl ?_); refine goesL_ (some 25) rfl rfl Tryd.func7 (by kernel_rfl) rfl #[.agg #[.bool t312, .slice Ao22 t313.length co22, .int .i64 t316], .agg #[.bool t301, .slice Ao14 t302.length co14, .int .i64 t305]] rfl hkL ?_; (with_reducible refine (laws_eqDy.calls k t312 _ _ t313 t316 t301 _ _ t302 t305 true _ ?side1 ?side2 ?side3 ?side4 A23.out).mono ?_); (case side1 => refine (Kd.R_reads' (e := 3) (base := w.heap.size) (ok := fun k_ => (True ∧ some k_ ≠ (.slice Ao14 t302.length co14 : Value).ownBlock)) (n := t313.length) (c := co22) ?_).2.2; exact (by (with_reducible repeat (first | apply Kd.R_alloc | apply Kd.R_drewN | apply Kd.R_drew)); exact (Kd.R_mono (Kd.R_far (p := ⟨gb318, 2, none⟩) (Kd.R_far (p := ⟨gb318, 1, none⟩) (Kd.R_far (p := ⟨gb318, 0, none⟩) (Kd.R_types HO315.out BK318.out (by decide)) (fun _ hk => hk.2) (.bool t312)) (fun _ hk => hk.2) (.slice Ao22 t313.length co22)) (fun _ hk => hk.2) (.int .i64 t316)) (fun _ h_ => h_.1)))); (case side2 => exact (Kd.R_reads' HO315.out).2.1); (case side3 => refine (Kd.R_reads' (e := 3) (base := w.heap.size) (ok := fun k_ => (True ∧ some k_ ≠ (.slice Ao22 t313.length co22 : Value).ownBlock)) (n := t302.length) (c := co14) ?_).2.2; exact (by (with_reducible repeat (first | apply Kd.R_alloc | apply Kd.R_drewN | apply Kd.R_drew)); exact (Kd.R_mono (Kd.R_far (p := ⟨gb318, 2, none⟩) (Kd.R_far (p := ⟨gb318, 1, none⟩) (Kd.R_far (p := ⟨gb318, 0, none⟩) (Kd.R_types HO304.out BK318.out (by decide)) (fun _ hk => hk.2) (.bool t312)) (fun _ hk => hk.2) (.slice Ao22 t313.length co22)) (fun _ hk => hk.2) (.int .i64 t316)) (fun _ h_ => h_.1)))); (case side4 => exact (Kd.R_reads' HO304.out).2.1); rintro e w30 ⟨rfl, hb⟩; refine ⟨_, rfl, ?_⟩; have n0_ := Aside0.mk (Kd.R_below (by (with_reducible repeat (first | apply Kd.R_alloc | apply Kd.R_drewN | apply Kd.R_drew)); exact (Kd.R_mono (Kd.R_far (p := ⟨gb318, 2, none⟩) (Kd.R_far (p := ⟨gb318, 1, none⟩) (Kd.R_far (p := ⟨gb318, 0, none⟩) (Kd.R_types HO304.out BK318.out (by decide)) (fun _ hk => hk.2) (.bool t312)) (fun _ hk => hk.2) (.slice Ao22 t313.length co22)) (fun _ hk => hk.2) (.int .i64 t316)) (fun _ h_ => h_.1))) hb); have n1_ := Aside0.mk (Kd.R_below (by (with_reducible repeat (first | apply Kd.R_alloc | apply Kd.R_drewN | apply Kd.R_drew)); exact (Kd.R_mono (Kd.R_far (p := ⟨gb318, 2, none⟩) (Kd.R_far (p := ⟨gb318, 1, none⟩) (Kd.R_far (p := ⟨gb318, 0, none⟩) (Kd.R_types HO315.out BK318.out (by decide)) (fun _ hk => hk.2) (.bool t312)) (fun _ hk => hk.2) (.slice Ao22 t313.length co22)) (fun _ hk => hk.2) (.int .i64 t316)) (fun _ h_ => h_.1))) hb); have n2_ := Aside0.mk (blk_below (g := gb296) (o := .cells #[.int .i64 a0_0, .bool a0_1, .int .i64 a0_2, .int .i64 a0_3] 23 (0, 0)) (by (with_reducible repeat (first | refine blk_drewN ?_ _ | refine blk_drew ?_ | refine blk_alloc ?_ _)); refine blk_far ?_ NB296_318.out _; (with_reducible repeat (first | refine blk_drewN ?_ _ | refine blk_drew ?_ | refine blk_alloc ?_ _)); refine blk_far ?_ NB296_318.out _; (with_reducible repeat (first | refine blk_drewN ?_ _ | refine blk_drew ?_ | refine blk_alloc ?_ _)); refine blk_far ?_ NB296_318.out _; (with_reducible repeat (first | refine blk_drewN ?_ _ | refine blk_drew ?_ | refine blk_alloc ?_ _)); exact BK296.out) hb); have n3_ := Aside0.mk (blk_below (g := gb307) (o := .cells #[.bool t301, .slice Ao14 t302.length co14, .int .i64 t305] 30 (0, 0)) (by (with_reducible repeat (first | refine blk_drewN ?_ _ | refine blk_drew ?_ | refine blk_alloc ?_ _)); refine blk_far ?_ NB307_318.out _; (with_reducible repeat (first | refine blk_drewN ?_ _ | refine blk_drew ?_ | refine blk_alloc ?_ _)); refine blk_far ?_ NB307_318.out _; (with_reducible repeat (first | refine blk_drewN ?_ _ | refine blk_drew ?_ | refine blk_alloc ?_ _)); refine blk_far ?_ NB307_318.out _; (with_reducible repeat (first | refine blk_drewN ?_ _ | refine blk_drew ?_ | refine blk_alloc ?_ _)); exact BK307.out) hb); have n4_ := Aside0.mk (blk_below (g := gb318) (o := .cells #[.bool t312, .slice Ao22 t313.length co22, .int .i64 t316] 30 (0, 0)) (by (with_reducible repeat (first | refine blk_drewN ?_ _ | refine blk_drew ?_ | refine blk_alloc ?_ _)); refine blk_put (cs := #[.bool t312, .slice Ao22 t313.length co22, .int .i64 0]) ?_ 2 _ rfl; (with_reducible repeat (first | refine blk_drewN ?_ _ | refine blk_drew ?_ | refine blk_alloc ?_ _)); refine blk_put (cs := #[.bool t312, .slice none 0 0, .int .i64 0]) ?_ 1 _ rfl; (with_reducible repeat (first | refine blk_drewN ?_ _ | refine blk_drew ?_ | refine blk_alloc ?_ _)); refine blk_put (cs := #[.bool false, .slice none 0 0, .int .i64 0]) ?_ 0 _ rfl; (with_reducible repeat (first | refine blk_drewN ?_ _ | refine blk_drew ?_ | refine blk_alloc ?_ _)); exact BK318.out) hb); have n5_ := Aside0.mk (below_step (hkS HB) hb); clear HO304; clear HO315; clear BK296; clear BK307; clear BK318; clear HB; have HO304 := n0_; have HO315 := n1_; have BK296 := n2_; have BK307 := n3_; have BK318 := n4_; have HB := n5_; clear n0_ n1_ n2_ n3_ n4_ n5_; (try clear hb); (try clear hb2); (try clear hk); (try clear hi)))
      go_meet
      case rel => exact ⟨_, ((t317 != t306)), (by first | rfl | (simp; done) | (simp [*]; done)), H', ⟨by first | omega | exact Nat.le_refl _⟩, ⟨by (with_reducible repeat (first | apply Kd.R_alloc | apply Kd.R_drewN | apply Kd.R_drew)); exact Kd.R_mono HO304.out (fun _ hk => hk.2)⟩, ⟨by (with_reducible repeat (first | apply Kd.R_alloc | apply Kd.R_drewN | apply Kd.R_drew)); exact Kd.R_mono HO315.out (fun _ hk => hk.2)⟩, ⟨by (with_reducible repeat (first | refine blk_drewN ?_ _ | refine blk_drew ?_ | refine blk_alloc ?_ _)); exact BK296.out⟩, ⟨by (with_reducible repeat (first | refine blk_drewN ?_ _ | refine blk_drew ?_ | refine blk_alloc ?_ _)); exact BK307.out⟩, ⟨by (with_reducible repeat (first | refine blk_drewN ?_ _ | refine blk_drew ?_ | refine blk_alloc ?_ _)); exact BK318.out⟩, ⟨by repeat (first | (with_reducible first | exact HB.out | apply below_alloc | apply pw_below_drewN | apply below_drew1 | refine below_set ?_ GE296.out | refine below_set ?_ GE307.out | refine below_set ?_ GE318.out) | exact HB.out)⟩⟩
    · replace c24 := Bool.eq_false_iff.mpr c24
      subst c24
      have H1 : (laws_FnExactFlUlp.j0 k t306 true a0_0 a0_1 a0_2 a0_3 t301 t302 t305 t312 t313 t316) = some r := by rw [if_neg (show ¬ (false = true) by decide)] at H; exact H
      clear H
      have H := H1
      clear H1
      have H' := Aside0.mk H
      clear H
      have hnb31 := NB318_296.out
      have hnc31 := NB296_318.out
      have hnb32 := NB318_307.out
      have hnc32 := NB307_318.out
      have hcz33_0 : w18.cell? ⟨gb318, 0, none⟩ = some (.bool false) := (blk_cell BK318.out 0).trans rfl
      have hcz33_1 : w18.cell? ⟨gb318, 1, none⟩ = some (.slice none 0 0) := (blk_cell BK318.out 1).trans rfl
      have hcz33_2 : w18.cell? ⟨gb318, 2, none⟩ = some (.int .i64 0) := (blk_cell BK318.out 2).trans rfl
      have hfz33_0 := blk_frozen BK318.out 0
      have hfz33_1 := blk_frozen BK318.out 1
      have hfz33_2 := blk_frozen BK318.out 2
      have hnb34 := NB307_296.out
      have hnc34 := NB296_307.out
      have hcz35_0 : w18.cell? ⟨gb307, 0, none⟩ = some (.bool t301) := (blk_cell BK307.out 0).trans rfl
      have hcz35_1 : w18.cell? ⟨gb307, 1, none⟩ = some (.slice Ao14 t302.length co14) := (blk_cell BK307.out 1).trans rfl
      have hcz35_2 : w18.cell? ⟨gb307, 2, none⟩ = some (.int .i64 t305) := (blk_cell BK307.out 2).trans rfl
      have hfz35_0 := blk_frozen BK307.out 0
      have hfz35_1 := blk_frozen BK307.out 1
      have hfz35_2 := blk_frozen BK307.out 2
      go_wp2_with (first | ((with_reducible refine gate_callee (f := 7) rfl ?_); refine goesL_ (some 25) rfl rfl Tryd.func7 (by kernel_rfl) rfl #[.agg #[.bool t312, .slice Ao22 t313.length co22, .int .i64 t316], .agg #[.bool t301, .slice Ao14 t302.length co14, .int .i64 t305]] rfl hkL ?_; (with_reducible refine (laws_eqDy.calls k t312 _ _ t313 t316 t301 _ _ t302 t305 false _ ?side1 ?side2 ?side3 ?side4 A23.out).mono ?_); (case side1 => refine (Kd.R_reads' (e := 3) (base := w.heap.size) (ok := fun k_ => (True ∧ some k_ ≠ (.slice Ao14 t302.length co14 : Value).ownBlock)) (n := t313.length) (c := co22) ?_).2.2; exact (by (with_reducible repeat (first | apply Kd.R_alloc | apply Kd.R_drewN | apply Kd.R_drew)); exact (Kd.R_mono (Kd.R_far (p := ⟨gb318, 2, none⟩) (Kd.R_far (p := ⟨gb318, 1, none⟩) (Kd.R_far (p := ⟨gb318, 0, none⟩) (Kd.R_types HO315.out BK318.out (by decide)) (fun _ hk => hk.2) (.bool t312)) (fun _ hk => hk.2) (.slice Ao22 t313.length co22)) (fun _ hk => hk.2) (.int .i64 t316)) (fun _ h_ => h_.1)))); (case side2 => exact (Kd.R_reads' HO315.out).2.1); (case side3 => refine (Kd.R_reads' (e := 3) (base := w.heap.size) (ok := fun k_ => (True ∧ some k_ ≠ (.slice Ao22 t313.length co22 : Value).ownBlock)) (n := t302.length) (c := co14) ?_).2.2; exact (by (with_reducible repeat (first | apply Kd.R_alloc | apply Kd.R_drewN | apply Kd.R_drew)); exact (Kd.R_mono (Kd.R_far (p := ⟨gb318, 2, none⟩) (Kd.R_far (p := ⟨gb318, 1, none⟩) (Kd.R_far (p := ⟨gb318, 0, none⟩) (Kd.R_types HO304.out BK318.out (by decide)) (fun _ hk => hk.2) (.bool t312)) (fun _ hk => hk.2) (.slice Ao22 t313.length co22)) (fun _ hk => hk.2) (.int .i64 t316)) (fun _ h_ => h_.1)))); (case side4 => exact (Kd.R_reads' HO304.out).2.1); rintro e w36 ⟨rfl, hb⟩; refine ⟨_, rfl, ?_⟩; have n0_ := Aside0.mk (Kd.R_below (by (with_reducible repeat (first | apply Kd.R_alloc | apply Kd.R_drewN | apply Kd.R_drew)); exact (Kd.R_mono (Kd.R_far (p := ⟨gb318, 2, none⟩) (Kd.R_far (p := ⟨gb318, 1, none⟩) (Kd.R_far (p := ⟨gb318, 0, none⟩) (Kd.R_types HO304.out BK318.out (by decide)) (fun _ hk => hk.2) (.bool t312)) (fun _ hk => hk.2) (.slice Ao22 t313.length co22)) (fun _ hk => hk.2) (.int .i64 t316)) (fun _ h_ => h_.1))) hb); have n1_ := Aside0.mk (Kd.R_below (by (with_reducible repeat (first | apply Kd.R_alloc | apply Kd.R_drewN | apply Kd.R_drew)); exact (Kd.R_mono (Kd.R_far (p := ⟨gb318, 2, none⟩) (Kd.R_far (p := ⟨gb318, 1, none⟩) (Kd.R_far (p := ⟨gb318, 0, none⟩) (Kd.R_types HO315.out BK318.out (by decide)) (fun _ hk => hk.2) (.bool t312)) (fun _ hk => hk.2) (.slice Ao22 t313.length co22)) (fun _ hk => hk.2) (.int .i64 t316)) (fun _ h_ => h_.1))) hb); have n2_ := Aside0.mk (blk_below (g := gb296) (o := .cells #[.int .i64 a0_0, .bool a0_1, .int .i64 a0_2, .int .i64 a0_3] 23 (0, 0)) (by (with_reducible repeat (first | refine blk_drewN ?_ _ | refine blk_drew ?_ | refine blk_alloc ?_ _)); refine blk_far ?_ NB296_318.out _; (with_reducible repeat (first | refine blk_drewN ?_ _ | refine blk_drew ?_ | refine blk_alloc ?_ _)); refine blk_far ?_ NB296_318.out _; (with_reducible repeat (first | refine blk_drewN ?_ _ | refine blk_drew ?_ | refine blk_alloc ?_ _)); refine blk_far ?_ NB296_318.out _; (with_reducible repeat (first | refine blk_drewN ?_ _ | refine blk_drew ?_ | refine blk_alloc ?_ _)); exact BK296.out) hb); have n3_ := Aside0.mk (blk_below (g := gb307) (o := .cells #[.bool t301, .slice Ao14 t302.length co14, .int .i64 t305] 30 (0, 0)) (by (with_reducible repeat (first | refine blk_drewN ?_ _ | refine blk_drew ?_ | refine blk_alloc ?_ _)); refine blk_far ?_ NB307_318.out _; (with_reducible repeat (first | refine blk_drewN ?_ _ | refine blk_drew ?_ | refine blk_alloc ?_ _)); refine blk_far ?_ NB307_318.out _; (with_reducible repeat (first | refine blk_drewN ?_ _ | refine blk_drew ?_ | refine blk_alloc ?_ _)); refine blk_far ?_ NB307_318.out _; (with_reducible repeat (first | refine blk_drewN ?_ _ | refine blk_drew ?_ | refine blk_alloc ?_ _)); exact BK307.out) hb); have n4_ := Aside0.mk (blk_below (g := gb318) (o := .cells #[.bool t312, .slice Ao22 t313.length co22, .int .i64 t316] 30 (0, 0)) (by (with_reducible repeat (first | refine blk_drewN ?_ _ | refine blk_drew ?_ | refine blk_alloc ?_ _)); refine blk_put (cs := #[.bool t312, .slice Ao22 t313.length co22, .int .i64 0]) ?_ 2 _ rfl; (with_reducible repeat (first | refine blk_drewN ?_ _ | refine blk_drew ?_ | refine blk_alloc ?_ _)); refine blk_put (cs := #[.bool t312, .slice none 0 0, .int .i64 0]) ?_ 1 _ rfl; (with_reducible repeat (first | refine blk_drewN ?_ _ | refine blk_drew ?_ | refine blk_alloc ?_ _)); refine blk_put (cs := #[.bool false, .slice none 0 0, .int .i64 0]) ?_ 0 _ rfl; (with_reducible repeat (first | refine blk_drewN ?_ _ | refine blk_drew ?_ | refine blk_alloc ?_ _)); exact BK318.out) hb); have n5_ := Aside0.mk (below_step (hkS HB) hb); clear HO304; clear HO315; clear BK296; clear BK307; clear BK318; clear HB; have HO304 := n0_; have HO315 := n1_; have BK296 := n2_; have BK307 := n3_; have BK318 := n4_; have HB := n5_; clear n0_ n1_ n2_ n3_ n4_ n5_; (try clear hb); (try clear hb2); (try clear hk); (try clear hi)))
      go_meet
      case rel => exact ⟨_, (true), (by first | rfl | (simp; done) | (simp [*]; done)), H', ⟨by first | omega | exact Nat.le_refl _⟩, ⟨by (with_reducible repeat (first | apply Kd.R_alloc | apply Kd.R_drewN | apply Kd.R_drew)); exact Kd.R_mono HO304.out (fun _ hk => hk.2)⟩, ⟨by (with_reducible repeat (first | apply Kd.R_alloc | apply Kd.R_drewN | apply Kd.R_drew)); exact Kd.R_mono HO315.out (fun _ hk => hk.2)⟩, ⟨by (with_reducible repeat (first | refine blk_drewN ?_ _ | refine blk_drew ?_ | refine blk_alloc ?_ _)); exact BK296.out⟩, ⟨by (with_reducible repeat (first | refine blk_drewN ?_ _ | refine blk_drew ?_ | refine blk_alloc ?_ _)); exact BK307.out⟩, ⟨by (with_reducible repeat (first | refine blk_drewN ?_ _ | refine blk_drew ?_ | refine blk_alloc ?_ _)); exact BK318.out⟩, ⟨by repeat (first | (with_reducible first | exact HB.out | apply below_alloc | apply pw_below_drewN | apply below_drew1 | refine below_set ?_ GE296.out | refine below_set ?_ GE307.out | refine below_set ?_ GE318.out) | exact HB.out)⟩⟩
  case rest =>
    clear HC6
    try clear c1
    try clear c2
    try clear p2
    try clear c3
    try clear c4
    try clear c5
    try clear c6
    try clear c7
    try clear c12
    try clear c19
    try clear c20
    try clear c24
    try clear c25
    try clear c26
    try clear c28
    try clear c31
    try clear c32
    try clear c34
    try clear hcz13_0
    try clear hcz13_1
    try clear hcz13_2
    try clear hcz15_0
    try clear hcz15_1
    try clear hcz15_2
    try clear hcz15_3
    try clear hcz21_0
    try clear hcz21_1
    try clear hcz21_2
    try clear hcz27_0
    try clear hcz27_1
    try clear hcz27_2
    try clear hcz29_0
    try clear hcz29_1
    try clear hcz29_2
    try clear hcz33_0
    try clear hcz33_1
    try clear hcz33_2
    try clear hcz35_0
    try clear hcz35_1
    try clear hcz35_2
    try clear hcz8_0
    try clear hcz8_1
    try clear hcz8_2
    try clear hcz8_3
    try clear hfz13_0
    try clear hfz13_1
    try clear hfz13_2
    try clear hfz15_0
    try clear hfz15_1
    try clear hfz15_2
    try clear hfz15_3
    try clear hfz21_0
    try clear hfz21_1
    try clear hfz21_2
    try clear hfz27_0
    try clear hfz27_1
    try clear hfz27_2
    try clear hfz29_0
    try clear hfz29_1
    try clear hfz29_2
    try clear hfz33_0
    try clear hfz33_1
    try clear hfz33_2
    try clear hfz35_0
    try clear hfz35_1
    try clear hfz35_2
    try clear hfz8_0
    try clear hfz8_1
    try clear hfz8_2
    try clear hfz8_3
    obtain ⟨kq, x31_5, rfl, HA, HJ5, HO_308001, HO_319001, BK296, BK307, BK318, HB⟩ := hcut
    cases kq with
    | zero => exact absurd HA.out (by simp [laws_FnExactFlUlp.j0])
    | succ kj5 =>
      have H := HA.out
      clear HA
      simp only [laws_FnExactFlUlp.j0] at H
      by_cases c37 : x31_5 = true
      · subst c37
        have H1 : (some false) = some r := by rw [if_pos rfl] at H; exact H
        clear H
        have H := H1
        clear H1
        obtain rfl := Option.some.inj H
        go_wp2
        go_ret
        exact ⟨by first | rfl | (simp [errW_none, errW_some] <;> rfl) | (simp [*, errW_none, errW_some] <;> rfl), by repeat (first | (with_reducible first | exact HB.out | apply below_alloc | apply pw_below_drewN | apply below_drew1 | refine below_set ?_ GE296.out | refine below_set ?_ GE307.out | refine below_set ?_ GE318.out) | exact HB.out)⟩
      · replace c37 := Bool.eq_false_iff.mpr c37
        subst c37
        have H1 : ((laws_markDy.f kj5 t312 t313 t316 1).bind fun bt320 => ((laws_heldDy.f kj5 t312 bt320.2 t316 1).bind fun t322 => (if t322 < 0 then (some false) else (if t322 = bt320.1 then ((laws_toFl.f a0_0 a0_1 a0_2 a0_3).bind fun bt323 => ((impl_FlUlp.f kj5 bt323.1 bt323.2.1 bt323.2.2.1 bt323.2.2.2).bind fun bt327 => ((laws_eqDy.f kj5 bt327.1 bt327.2.1 bt327.2.2.1 t301 t302 t305).bind fun t334 => (if t334 = true then (laws_FnExactFlUlp.j1 kj5 bt320.1 (bt327.2.2.2 != t306) t312 bt320.2 t316) else (laws_FnExactFlUlp.j1 kj5 bt320.1 true t312 bt320.2 t316))))) else (some false))))) = some r := by rw [if_neg (show ¬ (false = true) by decide)] at H; exact H
        clear H
        have H := H1
        clear H1
        replace H := Option.bind_eq_some_iff.mp H
        obtain ⟨⟨t320, t321⟩, A380, H⟩ := H
        replace H : ((laws_heldDy.f kj5 t312 t321 t316 1).bind fun t322 => (if t322 < 0 then (some false) else (if t322 = t320 then ((laws_toFl.f a0_0 a0_1 a0_2 a0_3).bind fun bt323 => ((impl_FlUlp.f kj5 bt323.1 bt323.2.1 bt323.2.2.1 bt323.2.2.2).bind fun bt327 => ((laws_eqDy.f kj5 bt327.1 bt327.2.1 bt327.2.2.1 t301 t302 t305).bind fun t334 => (if t334 = true then (laws_FnExactFlUlp.j1 kj5 t320 (bt327.2.2.2 != t306) t312 t321 t316) else (laws_FnExactFlUlp.j1 kj5 t320 true t312 t321 t316))))) else (some false)))) = some r := H
        have A38 := Aside0.mk A380
        clear A380
        replace H := Option.bind_eq_some_iff.mp H
        obtain ⟨t322, A390, H⟩ := H
        replace H : (if t322 < 0 then (some false) else (if t322 = t320 then ((laws_toFl.f a0_0 a0_1 a0_2 a0_3).bind fun bt323 => ((impl_FlUlp.f kj5 bt323.1 bt323.2.1 bt323.2.2.1 bt323.2.2.2).bind fun bt327 => ((laws_eqDy.f kj5 bt327.1 bt327.2.1 bt327.2.2.1 t301 t302 t305).bind fun t334 => (if t334 = true then (laws_FnExactFlUlp.j1 kj5 t320 (bt327.2.2.2 != t306) t312 t321 t316) else (laws_FnExactFlUlp.j1 kj5 t320 true t312 t321 t316))))) else (some false))) = some r := H
        have A39 := Aside0.mk A390
        clear A390
        by_cases c40 : t322 < 0
        · rw [if_pos c40] at H
          have c40b0 : decide (t322 < 0) = true := decide_eq_true c40
          clear c40
          obtain rfl := Option.some.inj H
          have hnb41 := NB318_296.out
          have hnc41 := NB296_318.out
          have hnb42 := NB318_307.out
          have hnc42 := NB307_318.out
          have hcz43_0 : wc.cell? ⟨gb318, 0, none⟩ = some (.bool t312) := (blk_cell BK318.out 0).trans rfl
          have hcz43_1 : wc.cell? ⟨gb318, 1, none⟩ = some (.slice Ao22 t313.length co22) := (blk_cell BK318.out 1).trans rfl
          have hcz43_2 : wc.cell? ⟨gb318, 2, none⟩ = some (.int .i64 t316) := (blk_cell BK318.out 2).trans rfl
          have hfz43_0 := blk_frozen BK318.out 0
          have hfz43_1 := blk_frozen BK318.out 1
          have hfz43_2 := blk_frozen BK318.out 2
          go_wp2_with (first | ((with_reducible refine gate_callee (f := 8) rfl ?_); refine goesL_ (some 34) rfl rfl Tryd.func8 (by kernel_rfl) rfl #[.agg #[.bool t312, .slice Ao22 t313.length co22, .int .i64 t316], .int .i64 1] rfl hkL ?_; (with_reducible refine (laws_markDy.calls kj5 t312 (fun k_ => some k_ = (.slice Ao22 t313.length co22 : Value).ownBlock) (.slice Ao22 t313.length co22) t313 t316 1 t320 t321 w _ ?side1 ?side2 A38.out).mono ?_); (case side1 => repeat (first | (with_reducible first | exact HB.out | apply below_alloc | apply pw_below_drewN | apply below_drew1 | refine below_set ?_ GE296.out | refine below_set ?_ GE307.out | refine below_set ?_ GE318.out) | exact HB.out)); (case side2 => exact Kd.R_tight rfl HO_319001.out); rintro e w44 ⟨rfl, hy0, hb, hkp⟩; refine ⟨_, rfl, ?_⟩; have n0_ := Aside0.mk (Kd.R_mono (ok' := fun k_ => some k_ ≠ (.slice Ao22 t313.length co22 : Value).ownBlock) (Kd.R_keptB (HO_308001.out) hkp (fun k_ hk_ hs_ => (hk_) hs_)) (fun k_ hk_ => hk_.1)); have n1_ := Aside0.mk (Kd.R_reok rfl hy0 (fun k_ e_ => HO_319001.out.1 k_ e_)); have n2_ := Aside0.mk (blk_kept (hkB BK296) hkp (fun hs_ => (fun e_ => (Kd.R_ne HO_319001.out BK296.out (by decide)) e_) hs_)); have n3_ := Aside0.mk (blk_kept (hkB BK307) hkp (fun hs_ => (fun e_ => (Kd.R_ne HO_319001.out BK307.out (by decide)) e_) hs_)); have n4_ := Aside0.mk (blk_kept (hkB BK318) hkp (fun hs_ => (fun e_ => (Kd.R_ne HO_319001.out BK318.out (by decide)) e_) hs_)); have n5_ := Aside0.mk (hb); clear HO_308001; clear HO_319001; clear BK296; clear BK307; clear BK318; clear HB; have HO_308001 := n0_; have HO_319001 := n1_; have BK296 := n2_; have BK307 := n3_; have BK318 := n4_; have HB := n5_; clear n0_ n1_ n2_ n3_ n4_ n5_; (try clear hb); (try clear hkp); (try clear hy0); have hcz45_0 : w44.cell? ⟨gb318, 0, none⟩ = some (.bool t312) := (blk_cell BK318.out 0).trans rfl; have hcz45_1 : w44.cell? ⟨gb318, 1, none⟩ = some (.slice Ao22 t313.length co22) := (blk_cell BK318.out 1).trans rfl; have hcz45_2 : w44.cell? ⟨gb318, 2, none⟩ = some (.int .i64 t316) := (blk_cell BK318.out 2).trans rfl; have hfz45_0 := blk_frozen BK318.out 0; have hfz45_1 := blk_frozen BK318.out 1; have hfz45_2 := blk_frozen BK318.out 2) | ((with_reducible refine gate_callee (f := 9) rfl ?_); refine goesL_ (some 37) rfl rfl Tryd.func9 (by kernel_rfl) rfl #[.agg #[.bool t312, .slice Ao22 t321.length co22, .int .i64 t316], .int .i64 1] rfl (by (try simp only [List.map_toArray, List.map_cons, List.map_nil]); first | done | (rw [show t321.length = t313.length from (Kd.R_reads' HO_319001.out).1.symm] <;> rfl) | rfl | (simp only [List.length_drop, List.length_take]; rfl)) ?_; (with_reducible refine (laws_heldDy.calls kj5 t312 _ _ t321 t316 1 t322 _ ?side1 ?side2 A39.out).mono ?_); (case side1 => repeat (first | exact (Kd.R_reads' HO_319001.out).2.2 | (with_reducible refine Kd.C_alloc ?_ _) | (with_reducible refine Kd.C_drewN ?_ _) | (with_reducible refine Kd.C_drew ?_))); (case side2 => rw [show t321.length = t313.length from (Kd.R_reads' HO_319001.out).1.symm]; exact (Kd.R_reads' HO_319001.out).2.1); rintro e w46 ⟨rfl, hb⟩; refine ⟨_, rfl, ?_⟩; have n0_ := hkRb HO_308001 hb; have n1_ := hkRb HO_319001 hb; have n2_ := hkBb BK296 hb; have n3_ := hkBb BK307 hb; have n4_ := hkBb BK318 hb; have n5_ := Aside0.mk (below_step (hkS HB) hb); clear HO_308001; clear HO_319001; clear BK296; clear BK307; clear BK318; clear HB; have HO_308001 := n0_; have HO_319001 := n1_; have BK296 := n2_; have BK307 := n3_; have BK318 := n4_; have HB := n5_; clear n0_ n1_ n2_ n3_ n4_ n5_; (try clear hb); (try clear hb2); (try clear hk); (try clear hi)))
          go_ret
          exact ⟨by first | rfl | (simp [errW_none, errW_some] <;> rfl) | (simp [*, errW_none, errW_some] <;> rfl), by repeat (first | (with_reducible first | exact HB.out | apply below_alloc | apply pw_below_drewN | apply below_drew1 | refine below_set ?_ GE296.out | refine below_set ?_ GE307.out | refine below_set ?_ GE318.out) | exact HB.out)⟩
        · rw [if_neg c40] at H
          have c40b0 : decide (t322 < 0) = false := decide_eq_false c40
          clear c40
          by_cases c47 : t322 = t320
          · rw [if_pos c47] at H
            have c47b0 : (t322 == t320) = true := beq_iff_eq.mpr c47
            have c47b1 : (t322 != t320) = false := bne_eq_false_iff_eq.mpr c47
            clear c47
            replace H := Option.bind_eq_some_iff.mp H
            obtain ⟨⟨t323, t324, t325, t326⟩, A480, H⟩ := H
            replace H : ((impl_FlUlp.f kj5 t323 t324 t325 t326).bind fun bt327 => ((laws_eqDy.f kj5 bt327.1 bt327.2.1 bt327.2.2.1 t301 t302 t305).bind fun t334 => (if t334 = true then (laws_FnExactFlUlp.j1 kj5 t320 (bt327.2.2.2 != t306) t312 t321 t316) else (laws_FnExactFlUlp.j1 kj5 t320 true t312 t321 t316)))) = some r := H
            have A48 := Aside0.mk A480
            clear A480
            replace H := Option.bind_eq_some_iff.mp H
            obtain ⟨⟨t327, t328, t331, t332⟩, A490, H⟩ := H
            replace H : ((laws_eqDy.f kj5 t327 t328 t331 t301 t302 t305).bind fun t334 => (if t334 = true then (laws_FnExactFlUlp.j1 kj5 t320 (t332 != t306) t312 t321 t316) else (laws_FnExactFlUlp.j1 kj5 t320 true t312 t321 t316))) = some r := H
            have A49 := Aside0.mk A490
            clear A490
            have HC50 := Aside0.mk H
            clear H
            have hnb51 := NB318_296.out
            have hnc51 := NB296_318.out
            have hnb52 := NB318_307.out
            have hnc52 := NB307_318.out
            have hcz53_0 : wc.cell? ⟨gb318, 0, none⟩ = some (.bool t312) := (blk_cell BK318.out 0).trans rfl
            have hcz53_1 : wc.cell? ⟨gb318, 1, none⟩ = some (.slice Ao22 t313.length co22) := (blk_cell BK318.out 1).trans rfl
            have hcz53_2 : wc.cell? ⟨gb318, 2, none⟩ = some (.int .i64 t316) := (blk_cell BK318.out 2).trans rfl
            have hfz53_0 := blk_frozen BK318.out 0
            have hfz53_1 := blk_frozen BK318.out 1
            have hfz53_2 := blk_frozen BK318.out 2
            go_upto_region 14 with (first | ((with_reducible refine gate_callee (f := 8) rfl ?_); refine goesL_ (some 34) rfl rfl Tryd.func8 (by kernel_rfl) rfl #[.agg #[.bool t312, .slice Ao22 t313.length co22, .int .i64 t316], .int .i64 1] rfl hkL ?_; (with_reducible refine (laws_markDy.calls kj5 t312 (fun k_ => some k_ = (.slice Ao22 t313.length co22 : Value).ownBlock) (.slice Ao22 t313.length co22) t313 t316 1 t320 t321 w _ ?side1 ?side2 A38.out).mono ?_); (case side1 => repeat (first | (with_reducible first | exact HB.out | apply below_alloc | apply pw_below_drewN | apply below_drew1 | refine below_set ?_ GE296.out | refine below_set ?_ GE307.out | refine below_set ?_ GE318.out) | exact HB.out)); (case side2 => exact Kd.R_tight rfl HO_319001.out); rintro e w54 ⟨rfl, hy0, hb, hkp⟩; refine ⟨_, rfl, ?_⟩; have n0_ := Aside0.mk (Kd.R_mono (ok' := fun k_ => some k_ ≠ (.slice Ao22 t313.length co22 : Value).ownBlock) (Kd.R_keptB (HO_308001.out) hkp (fun k_ hk_ hs_ => (hk_) hs_)) (fun k_ hk_ => hk_.1)); have n1_ := Aside0.mk (Kd.R_reok rfl hy0 (fun k_ e_ => HO_319001.out.1 k_ e_)); have n2_ := Aside0.mk (blk_kept (hkB BK296) hkp (fun hs_ => (fun e_ => (Kd.R_ne HO_319001.out BK296.out (by decide)) e_) hs_)); have n3_ := Aside0.mk (blk_kept (hkB BK307) hkp (fun hs_ => (fun e_ => (Kd.R_ne HO_319001.out BK307.out (by decide)) e_) hs_)); have n4_ := Aside0.mk (blk_kept (hkB BK318) hkp (fun hs_ => (fun e_ => (Kd.R_ne HO_319001.out BK318.out (by decide)) e_) hs_)); have n5_ := Aside0.mk (hb); clear HO_308001; clear HO_319001; clear BK296; clear BK307; clear BK318; clear HB; have HO_308001 := n0_; have HO_319001 := n1_; have BK296 := n2_; have BK307 := n3_; have BK318 := n4_; have HB := n5_; clear n0_ n1_ n2_ n3_ n4_ n5_; (try clear hb); (try clear hkp); (try clear hy0); have hcz55_0 : w54.cell? ⟨gb318, 0, none⟩ = some (.bool t312) := (blk_cell BK318.out 0).trans rfl; have hcz55_1 : w54.cell? ⟨gb318, 1, none⟩ = some (.slice Ao22 t313.length co22) := (blk_cell BK318.out 1).trans rfl; have hcz55_2 : w54.cell? ⟨gb318, 2, none⟩ = some (.int .i64 t316) := (blk_cell BK318.out 2).trans rfl; have hfz55_0 := blk_frozen BK318.out 0; have hfz55_1 := blk_frozen BK318.out 1; have hfz55_2 := blk_frozen BK318.out 2) | ((with_reducible refine gate_callee (f := 9) rfl ?_); refine goesL_ (some 37) rfl rfl Tryd.func9 (by kernel_rfl) rfl #[.agg #[.bool t312, .slice Ao22 t321.length co22, .int .i64 t316], .int .i64 1] rfl (by (try simp only [List.map_toArray, List.map_cons, List.map_nil]); first | done | (rw [show t321.length = t313.length from (Kd.R_reads' HO_319001.out).1.symm] <;> rfl) | rfl | (simp only [List.length_drop, List.length_take]; rfl)) ?_; (with_reducible refine (laws_heldDy.calls kj5 t312 _ _ t321 t316 1 t322 _ ?side1 ?side2 A39.out).mono ?_); (case side1 => repeat (first | exact (Kd.R_reads' HO_319001.out).2.2 | (with_reducible refine Kd.C_alloc ?_ _) | (with_reducible refine Kd.C_drewN ?_ _) | (with_reducible refine Kd.C_drew ?_))); (case side2 => rw [show t321.length = t313.length from (Kd.R_reads' HO_319001.out).1.symm]; exact (Kd.R_reads' HO_319001.out).2.1); rintro e w56 ⟨rfl, hb⟩; refine ⟨_, rfl, ?_⟩; have n0_ := hkRb HO_308001 hb; have n1_ := hkRb HO_319001 hb; have n2_ := hkBb BK296 hb; have n3_ := hkBb BK307 hb; have n4_ := hkBb BK318 hb; have n5_ := Aside0.mk (below_step (hkS HB) hb); clear HO_308001; clear HO_319001; clear BK296; clear BK307; clear BK318; clear HB; have HO_308001 := n0_; have HO_319001 := n1_; have BK296 := n2_; have BK307 := n3_; have BK318 := n4_; have HB := n5_; clear n0_ n1_ n2_ n3_ n4_ n5_; (try clear hb); (try clear hb2); (try clear hk); (try clear hi); have hnb57 := NB296_307.out; have hnc57 := NB307_296.out; have hcz58_0 : w56.cell? ⟨gb296, 0, none⟩ = some (.int .i64 a0_0) := (blk_cell BK296.out 0).trans rfl; have hcz58_1 : w56.cell? ⟨gb296, 1, none⟩ = some (.bool a0_1) := (blk_cell BK296.out 1).trans rfl; have hcz58_2 : w56.cell? ⟨gb296, 2, none⟩ = some (.int .i64 a0_2) := (blk_cell BK296.out 2).trans rfl; have hcz58_3 : w56.cell? ⟨gb296, 3, none⟩ = some (.int .i64 a0_3) := (blk_cell BK296.out 3).trans rfl; have hfz58_0 := blk_frozen BK296.out 0; have hfz58_1 := blk_frozen BK296.out 1; have hfz58_2 := blk_frozen BK296.out 2; have hfz58_3 := blk_frozen BK296.out 3) | ((with_reducible refine gate_callee (f := 5) rfl ?_); refine goesL_ (some 45) rfl rfl Tryd.func5 (by kernel_rfl) rfl #[.agg #[.int .i64 a0_0, .bool a0_1, .int .i64 a0_2, .int .i64 a0_3]] rfl hkL ?_; (with_reducible refine (laws_toFl.calls a0_0 a0_1 a0_2 a0_3 t323 t324 t325 t326 _ A48.out).mono ?_); rintro e w59 ⟨rfl, hb⟩; refine ⟨_, rfl, ?_⟩; have n0_ := hkRb HO_308001 hb; have n1_ := hkRb HO_319001 hb; have n2_ := hkBb BK296 hb; have n3_ := hkBb BK307 hb; have n4_ := hkBb BK318 hb; have n5_ := Aside0.mk (below_step (hkS HB) hb); clear HO_308001; clear HO_319001; clear BK296; clear BK307; clear BK318; clear HB; have HO_308001 := n0_; have HO_319001 := n1_; have BK296 := n2_; have BK307 := n3_; have BK318 := n4_; have HB := n5_; clear n0_ n1_ n2_ n3_ n4_ n5_; (try clear hb); (try clear hb2); (try clear hk); (try clear hi)) | ((with_reducible refine gate_callee (f := 6) rfl ?_); refine goesL_ (some 46) rfl rfl Tryd.func6 (by kernel_rfl) rfl #[.agg #[.int .i64 t323, .bool t324, .int .i64 t325, .int .i64 t326]] rfl hkL ?_; (with_reducible refine (impl_FlUlp.calls kj5 t323 t324 t325 t326 t327 t328 t331 t332 _ A49.out).mono ?_); rintro e w60 ⟨v329, rfl, ho0, hb⟩; refine ⟨_, rfl, ?_⟩; have n0_ := Aside0.mk (Kd.R_elder' (hkR HO_308001) (Kd.R_base ho0) hb); have n1_ := Aside0.mk (Kd.R_elder' (hkR HO_319001) (Kd.R_base ho0) hb); have n2_ := Aside0.mk (Kd.R_lower (Kd.R_new' (Kd.R_new' ho0 (Kd.R_lt (hkR HO_308001))) (Kd.R_lt (hkR HO_319001))) (below_size (hkS HB))); have n3_ := hkBb BK296 hb; have n4_ := hkBb BK307 hb; have n5_ := hkBb BK318 hb; have n6_ := Aside0.mk (below_step (hkS HB) hb); clear HO_308001; clear HO_319001; clear BK296; clear BK307; clear BK318; clear HB; have HO_308001 := n0_; have HO_319001 := n1_; have HO330 := n2_; have BK296 := n3_; have BK307 := n4_; have BK318 := n5_; have HB := n6_; clear n0_ n1_ n2_ n3_ n4_ n5_ n6_; (try clear hb); (try clear hb2); (try clear hk); (try clear hi); (try clear ho0)) | ((with_reducible refine gate_dst (N := 9) rfl ?_); refine box_event ?hg (N := 9) ?hd (cs := #[.bool false, .slice none 0 0, .int .i64 0]) (t := 30) ?hr ?_; (case hd => rfl); (case hg => rfl); (case hr => first | (go_simp; done) | (go_simp; rfl)); intro gb333 hg w61 hbox hb; have n0_ := hkRb HO_308001 hb; have n1_ := hkRb HO_319001 hb; have n2_ := hkRb HO330 hb; have n3_ := hkBb BK296 hb; have n4_ := hkBb BK307 hb; have n5_ := hkBb BK318 hb; have n6_ := Aside0.mk (below_step (hkS HB) hb); have n7_ := Aside0.mk (hbox); have n8_ := hkG hg (hkS HB); have n9_ := hkG hg (hkS HB); have n10_ := hkN hg BK296; have n11_ := hkM hg BK296; have n12_ := hkN hg BK307; have n13_ := hkM hg BK307; have n14_ := hkN hg BK318; have n15_ := hkM hg BK318; clear HO_308001; clear HO_319001; clear HO330; clear BK296; clear BK307; clear BK318; clear HB; have HO_308001 := n0_; have HO_319001 := n1_; have HO330 := n2_; have BK296 := n3_; have BK307 := n4_; have BK318 := n5_; have HB := n6_; have BK333 := n7_; have GW333 := n8_; have GE333 := n9_; have NB296_333 := n10_; have NB333_296 := n11_; have NB307_333 := n12_; have NB333_307 := n13_; have NB318_333 := n14_; have NB333_318 := n15_; clear n0_ n1_ n2_ n3_ n4_ n5_ n6_ n7_ n8_ n9_ n10_ n11_ n12_ n13_ n14_ n15_; clear hb hbox hg; have hnb62 := NB333_296.out; have hnc62 := NB296_333.out; have hnb63 := NB333_307.out; have hnc63 := NB307_333.out; have hnb64 := NB333_318.out; have hnc64 := NB318_333.out; have hcz65_0 : w61.cell? ⟨gb333, 0, none⟩ = some (.bool false) := (blk_cell BK333.out 0).trans rfl; have hcz65_1 : w61.cell? ⟨gb333, 1, none⟩ = some (.slice none 0 0) := (blk_cell BK333.out 1).trans rfl; have hcz65_2 : w61.cell? ⟨gb333, 2, none⟩ = some (.int .i64 0) := (blk_cell BK333.out 2).trans rfl; have hfz65_0 := blk_frozen BK333.out 0; have hfz65_1 := blk_frozen BK333.out 1; have hfz65_2 := blk_frozen BK333.out 2; obtain ⟨Ao66, co66, eo66⟩ := Kd.R_slice HO330.out; subst eo66))
            (try simp only [Act.put, List.setIfInBounds_toArray, List.set_cons_zero, List.set_cons_succ])
            go_cut [57] (fun v57 wc => ∃ (kq : Nat) (x57_49 : Bool), v57 = .bool x57_49 ∧ Aside0 (laws_FnExactFlUlp.j1 kq t320 x57_49 t312 t321 t316 = some r) ∧ Aside0 (kq ≤ kj5) ∧ Aside0 (Kd.R (Kd.int .i64) 3 wc w.heap.size (fun k_ => some k_ ≠ ((.slice Ao22 t313.length co22) : Value).ownBlock ∧ some k_ ≠ ((.slice Ao66 t328.length co66) : Value).ownBlock) (.slice Ao14 t302.length co14) t302) ∧ Aside0 (Kd.R (Kd.int .i64) 3 wc w.heap.size (fun k_ => some k_ ≠ ((.slice Ao14 t302.length co14) : Value).ownBlock ∧ some k_ ≠ ((.slice Ao66 t328.length co66) : Value).ownBlock) (.slice Ao22 t313.length co22) t321) ∧ Aside0 (Kd.R (Kd.int .i64) 3 wc w.heap.size (fun k_ => some k_ ≠ ((.slice Ao14 t302.length co14) : Value).ownBlock ∧ some k_ ≠ ((.slice Ao22 t313.length co22) : Value).ownBlock) (.slice Ao66 t328.length co66) t328) ∧ Aside0 (wc.heap[gb296]? = some (.cells #[.int .i64 a0_0, .bool a0_1, .int .i64 a0_2, .int .i64 a0_3] 23 (0, 0))) ∧ Aside0 (wc.heap[gb307]? = some (.cells #[.bool t301, (.slice Ao14 t302.length co14), .int .i64 t305] 30 (0, 0))) ∧ Aside0 (wc.heap[gb318]? = some (.cells #[.bool t312, (.slice Ao22 t313.length co22), .int .i64 t316] 30 (0, 0))) ∧ Aside0 (wc.heap[gb333]? = some (.cells #[.bool t327, (.slice Ao66 t328.length co66), .int .i64 t331] 30 (0, 0))) ∧ Aside0 (Below w.heap.size w wc))
            case first =>
              have H := HC50.out
              clear HC50
              replace H := Option.bind_eq_some_iff.mp H
              obtain ⟨t334, A670, H⟩ := H
              replace H : (if t334 = true then (laws_FnExactFlUlp.j1 kj5 t320 (t332 != t306) t312 t321 t316) else (laws_FnExactFlUlp.j1 kj5 t320 true t312 t321 t316)) = some r := H
              have A67 := Aside0.mk A670
              clear A670
              by_cases c68 : t334 = true
              · subst c68
                have H1 : (laws_FnExactFlUlp.j1 kj5 t320 (t332 != t306) t312 t321 t316) = some r := by rw [if_pos rfl] at H; exact H
                clear H
                have H := H1
                clear H1
                have H' := Aside0.mk H
                clear H
                have hnb69 := NB333_296.out
                have hnc69 := NB296_333.out
                have hnb70 := NB333_307.out
                have hnc70 := NB307_333.out
                have hnb71 := NB333_318.out
                have hnc71 := NB318_333.out
                have hcz72_0 : w61.cell? ⟨gb333, 0, none⟩ = some (.bool false) := (blk_cell BK333.out 0).trans rfl
                have hcz72_1 : w61.cell? ⟨gb333, 1, none⟩ = some (.slice none 0 0) := (blk_cell BK333.out 1).trans rfl
                have hcz72_2 : w61.cell? ⟨gb333, 2, none⟩ = some (.int .i64 0) := (blk_cell BK333.out 2).trans rfl
                have hfz72_0 := blk_frozen BK333.out 0
                have hfz72_1 := blk_frozen BK333.out 1
                have hfz72_2 := blk_frozen BK333.out 2
                have hnb73 := NB307_296.out
                have hnc73 := NB296_307.out
                have hnb74 := NB307_318.out
                have hnc74 := NB318_307.out
                have hcz75_0 : w61.cell? ⟨gb307, 0, none⟩ = some (.bool t301) := (blk_cell BK307.out 0).trans rfl
                have hcz75_1 : w61.cell? ⟨gb307, 1, none⟩ = some (.slice Ao14 t302.length co14) := (blk_cell BK307.out 1).trans rfl
                have hcz75_2 : w61.cell? ⟨gb307, 2, none⟩ = some (.int .i64 t305) := (blk_cell BK307.out 2).trans rfl
                have hfz75_0 := blk_frozen BK307.out 0
                have hfz75_1 := blk_frozen BK307.out 1
                have hfz75_2 := blk_frozen BK307.out 2
                go_wp2_with (first | ((with_reducible refine gate_callee (f := 7) rfl ?_); refine goesL_ (some 51) rfl rfl Tryd.func7 (by kernel_rfl) rfl #[.agg #[.bool t327, .slice Ao66 t328.length co66, .int .i64 t331], .agg #[.bool t301, .slice Ao14 t302.length co14, .int .i64 t305]] rfl hkL ?_; (with_reducible refine (laws_eqDy.calls kj5 t327 _ _ t328 t331 t301 _ _ t302 t305 true _ ?side1 ?side2 ?side3 ?side4 A67.out).mono ?_); (case side1 => refine (Kd.R_reads' (e := 3) (base := w.heap.size) (ok := fun k_ => ((True ∧ some k_ ≠ (.slice Ao14 t302.length co14 : Value).ownBlock) ∧ some k_ ≠ (.slice Ao22 t313.length co22 : Value).ownBlock)) (n := t328.length) (c := co66) ?_).2.2; exact (by (with_reducible repeat (first | apply Kd.R_alloc | apply Kd.R_drewN | apply Kd.R_drew)); exact (Kd.R_mono (Kd.R_far (p := ⟨gb333, 2, none⟩) (Kd.R_far (p := ⟨gb333, 1, none⟩) (Kd.R_far (p := ⟨gb333, 0, none⟩) (Kd.R_types HO330.out BK333.out (by decide)) (fun _ hk => hk.2) (.bool t327)) (fun _ hk => hk.2) (.slice Ao66 t328.length co66)) (fun _ hk => hk.2) (.int .i64 t331)) (fun _ h_ => h_.1)))); (case side2 => exact (Kd.R_reads' HO330.out).2.1); (case side3 => refine (Kd.R_reads' (e := 3) (base := w.heap.size) (ok := fun k_ => (some k_ ≠ (.slice Ao22 t313.length co22 : Value).ownBlock ∧ some k_ ≠ (.slice Ao66 t328.length co66 : Value).ownBlock)) (n := t302.length) (c := co14) ?_).2.2; exact (by (with_reducible repeat (first | apply Kd.R_alloc | apply Kd.R_drewN | apply Kd.R_drew)); exact (Kd.R_mono (Kd.R_far (p := ⟨gb333, 2, none⟩) (Kd.R_far (p := ⟨gb333, 1, none⟩) (Kd.R_far (p := ⟨gb333, 0, none⟩) (Kd.R_types HO_308001.out BK333.out (by decide)) (fun _ hk => hk.2) (.bool t327)) (fun _ hk => hk.2) (.slice Ao66 t328.length co66)) (fun _ hk => hk.2) (.int .i64 t331)) (fun _ h_ => h_.1)))); (case side4 => exact (Kd.R_reads' HO_308001.out).2.1); rintro e w76 ⟨rfl, hb⟩; refine ⟨_, rfl, ?_⟩; have n0_ := Aside0.mk (Kd.R_below (by (with_reducible repeat (first | apply Kd.R_alloc | apply Kd.R_drewN | apply Kd.R_drew)); exact (Kd.R_mono (Kd.R_far (p := ⟨gb333, 2, none⟩) (Kd.R_far (p := ⟨gb333, 1, none⟩) (Kd.R_far (p := ⟨gb333, 0, none⟩) (Kd.R_types HO_308001.out BK333.out (by decide)) (fun _ hk => hk.2) (.bool t327)) (fun _ hk => hk.2) (.slice Ao66 t328.length co66)) (fun _ hk => hk.2) (.int .i64 t331)) (fun _ h_ => h_.1))) hb); have n1_ := Aside0.mk (Kd.R_below (by (with_reducible repeat (first | apply Kd.R_alloc | apply Kd.R_drewN | apply Kd.R_drew)); exact (Kd.R_mono (Kd.R_far (p := ⟨gb333, 2, none⟩) (Kd.R_far (p := ⟨gb333, 1, none⟩) (Kd.R_far (p := ⟨gb333, 0, none⟩) (Kd.R_types HO_319001.out BK333.out (by decide)) (fun _ hk => hk.2) (.bool t327)) (fun _ hk => hk.2) (.slice Ao66 t328.length co66)) (fun _ hk => hk.2) (.int .i64 t331)) (fun _ h_ => h_.1))) hb); have n2_ := Aside0.mk (Kd.R_below (by (with_reducible repeat (first | apply Kd.R_alloc | apply Kd.R_drewN | apply Kd.R_drew)); exact (Kd.R_mono (Kd.R_far (p := ⟨gb333, 2, none⟩) (Kd.R_far (p := ⟨gb333, 1, none⟩) (Kd.R_far (p := ⟨gb333, 0, none⟩) (Kd.R_types HO330.out BK333.out (by decide)) (fun _ hk => hk.2) (.bool t327)) (fun _ hk => hk.2) (.slice Ao66 t328.length co66)) (fun _ hk => hk.2) (.int .i64 t331)) (fun _ h_ => h_.1))) hb); have n3_ := Aside0.mk (blk_below (g := gb296) (o := .cells #[.int .i64 a0_0, .bool a0_1, .int .i64 a0_2, .int .i64 a0_3] 23 (0, 0)) (by (with_reducible repeat (first | refine blk_drewN ?_ _ | refine blk_drew ?_ | refine blk_alloc ?_ _)); refine blk_far ?_ NB296_333.out _; (with_reducible repeat (first | refine blk_drewN ?_ _ | refine blk_drew ?_ | refine blk_alloc ?_ _)); refine blk_far ?_ NB296_333.out _; (with_reducible repeat (first | refine blk_drewN ?_ _ | refine blk_drew ?_ | refine blk_alloc ?_ _)); refine blk_far ?_ NB296_333.out _; (with_reducible repeat (first | refine blk_drewN ?_ _ | refine blk_drew ?_ | refine blk_alloc ?_ _)); exact BK296.out) hb); have n4_ := Aside0.mk (blk_below (g := gb307) (o := .cells #[.bool t301, .slice Ao14 t302.length co14, .int .i64 t305] 30 (0, 0)) (by (with_reducible repeat (first | refine blk_drewN ?_ _ | refine blk_drew ?_ | refine blk_alloc ?_ _)); refine blk_far ?_ NB307_333.out _; (with_reducible repeat (first | refine blk_drewN ?_ _ | refine blk_drew ?_ | refine blk_alloc ?_ _)); refine blk_far ?_ NB307_333.out _; (with_reducible repeat (first | refine blk_drewN ?_ _ | refine blk_drew ?_ | refine blk_alloc ?_ _)); refine blk_far ?_ NB307_333.out _; (with_reducible repeat (first | refine blk_drewN ?_ _ | refine blk_drew ?_ | refine blk_alloc ?_ _)); exact BK307.out) hb); have n5_ := Aside0.mk (blk_below (g := gb318) (o := .cells #[.bool t312, .slice Ao22 t313.length co22, .int .i64 t316] 30 (0, 0)) (by (with_reducible repeat (first | refine blk_drewN ?_ _ | refine blk_drew ?_ | refine blk_alloc ?_ _)); refine blk_far ?_ NB318_333.out _; (with_reducible repeat (first | refine blk_drewN ?_ _ | refine blk_drew ?_ | refine blk_alloc ?_ _)); refine blk_far ?_ NB318_333.out _; (with_reducible repeat (first | refine blk_drewN ?_ _ | refine blk_drew ?_ | refine blk_alloc ?_ _)); refine blk_far ?_ NB318_333.out _; (with_reducible repeat (first | refine blk_drewN ?_ _ | refine blk_drew ?_ | refine blk_alloc ?_ _)); exact BK318.out) hb); have n6_ := Aside0.mk (blk_below (g := gb333) (o := .cells #[.bool t327, .slice Ao66 t328.length co66, .int .i64 t331] 30 (0, 0)) (by (with_reducible repeat (first | refine blk_drewN ?_ _ | refine blk_drew ?_ | refine blk_alloc ?_ _)); refine blk_put (cs := #[.bool t327, .slice Ao66 t328.length co66, .int .i64 0]) ?_ 2 _ rfl; (with_reducible repeat (first | refine blk_drewN ?_ _ | refine blk_drew ?_ | refine blk_alloc ?_ _)); refine blk_put (cs := #[.bool t327, .slice none 0 0, .int .i64 0]) ?_ 1 _ rfl; (with_reducible repeat (first | refine blk_drewN ?_ _ | refine blk_drew ?_ | refine blk_alloc ?_ _)); refine blk_put (cs := #[.bool false, .slice none 0 0, .int .i64 0]) ?_ 0 _ rfl; (with_reducible repeat (first | refine blk_drewN ?_ _ | refine blk_drew ?_ | refine blk_alloc ?_ _)); exact BK333.out) hb); have n7_ := Aside0.mk (below_step (hkS HB) hb); clear HO_308001; clear HO_319001; clear HO330; clear BK296; clear BK307; clear BK318; clear BK333; clear HB; have HO_308001 := n0_; have HO_319001 := n1_; have HO330 := n2_; have BK296 := n3_; have BK307 := n4_; have BK318 := n5_; have BK333 := n6_; have HB := n7_; clear n0_ n1_ n2_ n3_ n4_ n5_ n6_ n7_; (try clear hb); (try clear hb2); (try clear hk); (try clear hi)))
                go_meet
                case rel => exact ⟨_, ((t332 != t306)), (by first | rfl | (simp; done) | (simp [*]; done)), H', ⟨by have := HJ5.out; first | omega | exact Nat.le_refl _⟩, ⟨by (with_reducible repeat (first | apply Kd.R_alloc | apply Kd.R_drewN | apply Kd.R_drew)); exact HO_308001.out⟩, ⟨by (with_reducible repeat (first | apply Kd.R_alloc | apply Kd.R_drewN | apply Kd.R_drew)); exact HO_319001.out⟩, ⟨by (with_reducible repeat (first | apply Kd.R_alloc | apply Kd.R_drewN | apply Kd.R_drew)); exact Kd.R_mono HO330.out (fun _ hk => ⟨hk.1.2, hk.2⟩)⟩, ⟨by (with_reducible repeat (first | refine blk_drewN ?_ _ | refine blk_drew ?_ | refine blk_alloc ?_ _)); exact BK296.out⟩, ⟨by (with_reducible repeat (first | refine blk_drewN ?_ _ | refine blk_drew ?_ | refine blk_alloc ?_ _)); exact BK307.out⟩, ⟨by (with_reducible repeat (first | refine blk_drewN ?_ _ | refine blk_drew ?_ | refine blk_alloc ?_ _)); exact BK318.out⟩, ⟨by (with_reducible repeat (first | refine blk_drewN ?_ _ | refine blk_drew ?_ | refine blk_alloc ?_ _)); exact BK333.out⟩, ⟨by repeat (first | (with_reducible first | exact HB.out | apply below_alloc | apply pw_below_drewN | apply below_drew1 | refine below_set ?_ GE296.out | refine below_set ?_ GE307.out | refine below_set ?_ GE318.out | refine below_set ?_ GE333.out) | exact HB.out)⟩⟩
              · replace c68 := Bool.eq_false_iff.mpr c68
                subst c68
                have H1 : (laws_FnExactFlUlp.j1 kj5 t320 true t312 t321 t316) = some r := by rw [if_neg (show ¬ (false = true) by decide)] at H; exact H
                clear H
                have H := H1
                clear H1
                have H' := Aside0.mk H
                clear H
                have hnb77 := NB333_296.out
                have hnc77 := NB296_333.out
                have hnb78 := NB333_307.out
                have hnc78 := NB307_333.out
                have hnb79 := NB333_318.out
                have hnc79 := NB318_333.out
                have hcz80_0 : w61.cell? ⟨gb333, 0, none⟩ = some (.bool false) := (blk_cell BK333.out 0).trans rfl
                have hcz80_1 : w61.cell? ⟨gb333, 1, none⟩ = some (.slice none 0 0) := (blk_cell BK333.out 1).trans rfl
                have hcz80_2 : w61.cell? ⟨gb333, 2, none⟩ = some (.int .i64 0) := (blk_cell BK333.out 2).trans rfl
                have hfz80_0 := blk_frozen BK333.out 0
                have hfz80_1 := blk_frozen BK333.out 1
                have hfz80_2 := blk_frozen BK333.out 2
                have hnb81 := NB307_296.out
                have hnc81 := NB296_307.out
                have hnb82 := NB307_318.out
                have hnc82 := NB318_307.out
                have hcz83_0 : w61.cell? ⟨gb307, 0, none⟩ = some (.bool t301) := (blk_cell BK307.out 0).trans rfl
                have hcz83_1 : w61.cell? ⟨gb307, 1, none⟩ = some (.slice Ao14 t302.length co14) := (blk_cell BK307.out 1).trans rfl
                have hcz83_2 : w61.cell? ⟨gb307, 2, none⟩ = some (.int .i64 t305) := (blk_cell BK307.out 2).trans rfl
                have hfz83_0 := blk_frozen BK307.out 0
                have hfz83_1 := blk_frozen BK307.out 1
                have hfz83_2 := blk_frozen BK307.out 2
                go_wp2_with (first | ((with_reducible refine gate_callee (f := 7) rfl ?_); refine goesL_ (some 51) rfl rfl Tryd.func7 (by kernel_rfl) rfl #[.agg #[.bool t327, .slice Ao66 t328.length co66, .int .i64 t331], .agg #[.bool t301, .slice Ao14 t302.length co14, .int .i64 t305]] rfl hkL ?_; (with_reducible refine (laws_eqDy.calls kj5 t327 _ _ t328 t331 t301 _ _ t302 t305 false _ ?side1 ?side2 ?side3 ?side4 A67.out).mono ?_); (case side1 => refine (Kd.R_reads' (e := 3) (base := w.heap.size) (ok := fun k_ => ((True ∧ some k_ ≠ (.slice Ao14 t302.length co14 : Value).ownBlock) ∧ some k_ ≠ (.slice Ao22 t313.length co22 : Value).ownBlock)) (n := t328.length) (c := co66) ?_).2.2; exact (by (with_reducible repeat (first | apply Kd.R_alloc | apply Kd.R_drewN | apply Kd.R_drew)); exact (Kd.R_mono (Kd.R_far (p := ⟨gb333, 2, none⟩) (Kd.R_far (p := ⟨gb333, 1, none⟩) (Kd.R_far (p := ⟨gb333, 0, none⟩) (Kd.R_types HO330.out BK333.out (by decide)) (fun _ hk => hk.2) (.bool t327)) (fun _ hk => hk.2) (.slice Ao66 t328.length co66)) (fun _ hk => hk.2) (.int .i64 t331)) (fun _ h_ => h_.1)))); (case side2 => exact (Kd.R_reads' HO330.out).2.1); (case side3 => refine (Kd.R_reads' (e := 3) (base := w.heap.size) (ok := fun k_ => (some k_ ≠ (.slice Ao22 t313.length co22 : Value).ownBlock ∧ some k_ ≠ (.slice Ao66 t328.length co66 : Value).ownBlock)) (n := t302.length) (c := co14) ?_).2.2; exact (by (with_reducible repeat (first | apply Kd.R_alloc | apply Kd.R_drewN | apply Kd.R_drew)); exact (Kd.R_mono (Kd.R_far (p := ⟨gb333, 2, none⟩) (Kd.R_far (p := ⟨gb333, 1, none⟩) (Kd.R_far (p := ⟨gb333, 0, none⟩) (Kd.R_types HO_308001.out BK333.out (by decide)) (fun _ hk => hk.2) (.bool t327)) (fun _ hk => hk.2) (.slice Ao66 t328.length co66)) (fun _ hk => hk.2) (.int .i64 t331)) (fun _ h_ => h_.1)))); (case side4 => exact (Kd.R_reads' HO_308001.out).2.1); rintro e w84 ⟨rfl, hb⟩; refine ⟨_, rfl, ?_⟩; have n0_ := Aside0.mk (Kd.R_below (by (with_reducible repeat (first | apply Kd.R_alloc | apply Kd.R_drewN | apply Kd.R_drew)); exact (Kd.R_mono (Kd.R_far (p := ⟨gb333, 2, none⟩) (Kd.R_far (p := ⟨gb333, 1, none⟩) (Kd.R_far (p := ⟨gb333, 0, none⟩) (Kd.R_types HO_308001.out BK333.out (by decide)) (fun _ hk => hk.2) (.bool t327)) (fun _ hk => hk.2) (.slice Ao66 t328.length co66)) (fun _ hk => hk.2) (.int .i64 t331)) (fun _ h_ => h_.1))) hb); have n1_ := Aside0.mk (Kd.R_below (by (with_reducible repeat (first | apply Kd.R_alloc | apply Kd.R_drewN | apply Kd.R_drew)); exact (Kd.R_mono (Kd.R_far (p := ⟨gb333, 2, none⟩) (Kd.R_far (p := ⟨gb333, 1, none⟩) (Kd.R_far (p := ⟨gb333, 0, none⟩) (Kd.R_types HO_319001.out BK333.out (by decide)) (fun _ hk => hk.2) (.bool t327)) (fun _ hk => hk.2) (.slice Ao66 t328.length co66)) (fun _ hk => hk.2) (.int .i64 t331)) (fun _ h_ => h_.1))) hb); have n2_ := Aside0.mk (Kd.R_below (by (with_reducible repeat (first | apply Kd.R_alloc | apply Kd.R_drewN | apply Kd.R_drew)); exact (Kd.R_mono (Kd.R_far (p := ⟨gb333, 2, none⟩) (Kd.R_far (p := ⟨gb333, 1, none⟩) (Kd.R_far (p := ⟨gb333, 0, none⟩) (Kd.R_types HO330.out BK333.out (by decide)) (fun _ hk => hk.2) (.bool t327)) (fun _ hk => hk.2) (.slice Ao66 t328.length co66)) (fun _ hk => hk.2) (.int .i64 t331)) (fun _ h_ => h_.1))) hb); have n3_ := Aside0.mk (blk_below (g := gb296) (o := .cells #[.int .i64 a0_0, .bool a0_1, .int .i64 a0_2, .int .i64 a0_3] 23 (0, 0)) (by (with_reducible repeat (first | refine blk_drewN ?_ _ | refine blk_drew ?_ | refine blk_alloc ?_ _)); refine blk_far ?_ NB296_333.out _; (with_reducible repeat (first | refine blk_drewN ?_ _ | refine blk_drew ?_ | refine blk_alloc ?_ _)); refine blk_far ?_ NB296_333.out _; (with_reducible repeat (first | refine blk_drewN ?_ _ | refine blk_drew ?_ | refine blk_alloc ?_ _)); refine blk_far ?_ NB296_333.out _; (with_reducible repeat (first | refine blk_drewN ?_ _ | refine blk_drew ?_ | refine blk_alloc ?_ _)); exact BK296.out) hb); have n4_ := Aside0.mk (blk_below (g := gb307) (o := .cells #[.bool t301, .slice Ao14 t302.length co14, .int .i64 t305] 30 (0, 0)) (by (with_reducible repeat (first | refine blk_drewN ?_ _ | refine blk_drew ?_ | refine blk_alloc ?_ _)); refine blk_far ?_ NB307_333.out _; (with_reducible repeat (first | refine blk_drewN ?_ _ | refine blk_drew ?_ | refine blk_alloc ?_ _)); refine blk_far ?_ NB307_333.out _; (with_reducible repeat (first | refine blk_drewN ?_ _ | refine blk_drew ?_ | refine blk_alloc ?_ _)); refine blk_far ?_ NB307_333.out _; (with_reducible repeat (first | refine blk_drewN ?_ _ | refine blk_drew ?_ | refine blk_alloc ?_ _)); exact BK307.out) hb); have n5_ := Aside0.mk (blk_below (g := gb318) (o := .cells #[.bool t312, .slice Ao22 t313.length co22, .int .i64 t316] 30 (0, 0)) (by (with_reducible repeat (first | refine blk_drewN ?_ _ | refine blk_drew ?_ | refine blk_alloc ?_ _)); refine blk_far ?_ NB318_333.out _; (with_reducible repeat (first | refine blk_drewN ?_ _ | refine blk_drew ?_ | refine blk_alloc ?_ _)); refine blk_far ?_ NB318_333.out _; (with_reducible repeat (first | refine blk_drewN ?_ _ | refine blk_drew ?_ | refine blk_alloc ?_ _)); refine blk_far ?_ NB318_333.out _; (with_reducible repeat (first | refine blk_drewN ?_ _ | refine blk_drew ?_ | refine blk_alloc ?_ _)); exact BK318.out) hb); have n6_ := Aside0.mk (blk_below (g := gb333) (o := .cells #[.bool t327, .slice Ao66 t328.length co66, .int .i64 t331] 30 (0, 0)) (by (with_reducible repeat (first | refine blk_drewN ?_ _ | refine blk_drew ?_ | refine blk_alloc ?_ _)); refine blk_put (cs := #[.bool t327, .slice Ao66 t328.length co66, .int .i64 0]) ?_ 2 _ rfl; (with_reducible repeat (first | refine blk_drewN ?_ _ | refine blk_drew ?_ | refine blk_alloc ?_ _)); refine blk_put (cs := #[.bool t327, .slice none 0 0, .int .i64 0]) ?_ 1 _ rfl; (with_reducible repeat (first | refine blk_drewN ?_ _ | refine blk_drew ?_ | refine blk_alloc ?_ _)); refine blk_put (cs := #[.bool false, .slice none 0 0, .int .i64 0]) ?_ 0 _ rfl; (with_reducible repeat (first | refine blk_drewN ?_ _ | refine blk_drew ?_ | refine blk_alloc ?_ _)); exact BK333.out) hb); have n7_ := Aside0.mk (below_step (hkS HB) hb); clear HO_308001; clear HO_319001; clear HO330; clear BK296; clear BK307; clear BK318; clear BK333; clear HB; have HO_308001 := n0_; have HO_319001 := n1_; have HO330 := n2_; have BK296 := n3_; have BK307 := n4_; have BK318 := n5_; have BK333 := n6_; have HB := n7_; clear n0_ n1_ n2_ n3_ n4_ n5_ n6_ n7_; (try clear hb); (try clear hb2); (try clear hk); (try clear hi)))
                go_meet
                case rel => exact ⟨_, (true), (by first | rfl | (simp; done) | (simp [*]; done)), H', ⟨by have := HJ5.out; first | omega | exact Nat.le_refl _⟩, ⟨by (with_reducible repeat (first | apply Kd.R_alloc | apply Kd.R_drewN | apply Kd.R_drew)); exact HO_308001.out⟩, ⟨by (with_reducible repeat (first | apply Kd.R_alloc | apply Kd.R_drewN | apply Kd.R_drew)); exact HO_319001.out⟩, ⟨by (with_reducible repeat (first | apply Kd.R_alloc | apply Kd.R_drewN | apply Kd.R_drew)); exact Kd.R_mono HO330.out (fun _ hk => ⟨hk.1.2, hk.2⟩)⟩, ⟨by (with_reducible repeat (first | refine blk_drewN ?_ _ | refine blk_drew ?_ | refine blk_alloc ?_ _)); exact BK296.out⟩, ⟨by (with_reducible repeat (first | refine blk_drewN ?_ _ | refine blk_drew ?_ | refine blk_alloc ?_ _)); exact BK307.out⟩, ⟨by (with_reducible repeat (first | refine blk_drewN ?_ _ | refine blk_drew ?_ | refine blk_alloc ?_ _)); exact BK318.out⟩, ⟨by (with_reducible repeat (first | refine blk_drewN ?_ _ | refine blk_drew ?_ | refine blk_alloc ?_ _)); exact BK333.out⟩, ⟨by repeat (first | (with_reducible first | exact HB.out | apply below_alloc | apply pw_below_drewN | apply below_drew1 | refine below_set ?_ GE296.out | refine below_set ?_ GE307.out | refine below_set ?_ GE318.out | refine below_set ?_ GE333.out) | exact HB.out)⟩⟩
            case rest =>
              clear HC50
              try clear c1
              try clear c2
              try clear p2
              try clear c3
              try clear c4
              try clear c5
              try clear c6
              try clear c7
              try clear c8
              try clear c9
              try clear c12
              try clear c19
              try clear c20
              try clear c24
              try clear c25
              try clear c26
              try clear c28
              try clear c31
              try clear c32
              try clear c34
              try clear c37
              try clear c40
              try clear c40b0
              try clear c41
              try clear c42
              try clear c47
              try clear c47b0
              try clear c47b1
              try clear c51
              try clear c52
              try clear c57
              try clear c62
              try clear c63
              try clear c64
              try clear c68
              try clear c69
              try clear c70
              try clear c71
              try clear c73
              try clear c74
              try clear c77
              try clear c78
              try clear c79
              try clear c81
              try clear c82
              try clear hcz13_0
              try clear hcz13_1
              try clear hcz13_2
              try clear hcz15_0
              try clear hcz15_1
              try clear hcz15_2
              try clear hcz15_3
              try clear hcz21_0
              try clear hcz21_1
              try clear hcz21_2
              try clear hcz27_0
              try clear hcz27_1
              try clear hcz27_2
              try clear hcz29_0
              try clear hcz29_1
              try clear hcz29_2
              try clear hcz33_0
              try clear hcz33_1
              try clear hcz33_2
              try clear hcz35_0
              try clear hcz35_1
              try clear hcz35_2
              try clear hcz43_0
              try clear hcz43_1
              try clear hcz43_2
              try clear hcz45_0
              try clear hcz45_1
              try clear hcz45_2
              try clear hcz53_0
              try clear hcz53_1
              try clear hcz53_2
              try clear hcz55_0
              try clear hcz55_1
              try clear hcz55_2
              try clear hcz58_0
              try clear hcz58_1
              try clear hcz58_2
              try clear hcz58_3
              try clear hcz65_0
              try clear hcz65_1
              try clear hcz65_2
              try clear hcz72_0
              try clear hcz72_1
              try clear hcz72_2
              try clear hcz75_0
              try clear hcz75_1
              try clear hcz75_2
              try clear hcz80_0
              try clear hcz80_1
              try clear hcz80_2
              try clear hcz83_0
              try clear hcz83_1
              try clear hcz83_2
              try clear hcz8_0
              try clear hcz8_1
              try clear hcz8_2
              try clear hcz8_3
              try clear hfz13_0
              try clear hfz13_1
              try clear hfz13_2
              try clear hfz15_0
              try clear hfz15_1
              try clear hfz15_2
              try clear hfz15_3
              try clear hfz21_0
              try clear hfz21_1
              try clear hfz21_2
              try clear hfz27_0
              try clear hfz27_1
              try clear hfz27_2
              try clear hfz29_0
              try clear hfz29_1
              try clear hfz29_2
              try clear hfz33_0
              try clear hfz33_1
              try clear hfz33_2
              try clear hfz35_0
              try clear hfz35_1
              try clear hfz35_2
              try clear hfz43_0
              try clear hfz43_1
              try clear hfz43_2
              try clear hfz45_0
              try clear hfz45_1
              try clear hfz45_2
              try clear hfz53_0
              try clear hfz53_1
              try clear hfz53_2
              try clear hfz55_0
              try clear hfz55_1
              try clear hfz55_2
              try clear hfz58_0
              try clear hfz58_1
              try clear hfz58_2
              try clear hfz58_3
              try clear hfz65_0
              try clear hfz65_1
              try clear hfz65_2
              try clear hfz72_0
              try clear hfz72_1
              try clear hfz72_2
              try clear hfz75_0
              try clear hfz75_1
              try clear hfz75_2
              try clear hfz80_0
              try clear hfz80_1
              try clear hfz80_2
              try clear hfz83_0
              try clear hfz83_1
              try clear hfz83_2
              try clear hfz8_0
              try clear hfz8_1
              try clear hfz8_2
              try clear hfz8_3
              try clear p2
              obtain ⟨kq, x57_49, rfl, HA, HJ49, HO_308001, HO_319001, HO_334001, BK296, BK307, BK318, BK333, HB⟩ := hcut
              have hl319001_49 := (Kd.R_reads' HO_319001.out).1
              rw [hl319001_49] at HO_319001
              (try simp only [hl319001_49])
              (try simp only [hl319001_49] at BK296)
              (try simp only [hl319001_49] at BK307)
              (try simp only [hl319001_49] at BK318)
              (try simp only [hl319001_49] at BK333)
              (try simp only [hl319001_49] at HO_308001)
              (try simp only [hl319001_49] at HO_334001)
              cases kq with
              | zero => exact absurd HA.out (by simp [laws_FnExactFlUlp.j1])
              | succ kj49 =>
                have H := HA.out
                clear HA
                simp only [laws_FnExactFlUlp.j1] at H
                by_cases c85 : x57_49 = true
                · subst c85
                  have H1 : (some false) = some r := by rw [if_pos rfl] at H; exact H
                  clear H
                  have H := H1
                  clear H1
                  obtain rfl := Option.some.inj H
                  go_wp2
                  go_ret
                  exact ⟨by first | rfl | (simp [errW_none, errW_some] <;> rfl) | (simp [*, errW_none, errW_some] <;> rfl), by repeat (first | (with_reducible first | exact HB.out | apply below_alloc | apply pw_below_drewN | apply below_drew1 | refine below_set ?_ GE296.out | refine below_set ?_ GE307.out | refine below_set ?_ GE318.out | refine below_set ?_ GE333.out) | exact HB.out)⟩
                · replace c85 := Bool.eq_false_iff.mpr c85
                  subst c85
                  have H1 : ((laws_heldDy.f kj49 t312 t321 t316 1).bind fun t335 => (if t335 < 0 then (some false) else (if t335 = t320 then (some true) else (some false)))) = some r := by rw [if_neg (show ¬ (false = true) by decide)] at H; exact H
                  clear H
                  have H := H1
                  clear H1
                  replace H := Option.bind_eq_some_iff.mp H
                  obtain ⟨t335, A860, H⟩ := H
                  replace H : (if t335 < 0 then (some false) else (if t335 = t320 then (some true) else (some false))) = some r := H
                  have A86 := Aside0.mk A860
                  clear A860
                  by_cases c87 : t335 < 0
                  · rw [if_pos c87] at H
                    have c87b0 : decide (t335 < 0) = true := decide_eq_true c87
                    clear c87
                    obtain rfl := Option.some.inj H
                    have hnb88 := NB318_296.out
                    have hnc88 := NB296_318.out
                    have hnb89 := NB318_307.out
                    have hnc89 := NB307_318.out
                    have hnb90 := NB318_333.out
                    have hnc90 := NB333_318.out
                    have hcz91_0 : wc.cell? ⟨gb318, 0, none⟩ = some (.bool t312) := (blk_cell BK318.out 0).trans rfl
                    have hcz91_1 : wc.cell? ⟨gb318, 1, none⟩ = some (.slice Ao22 t321.length co22) := (blk_cell BK318.out 1).trans rfl
                    have hcz91_2 : wc.cell? ⟨gb318, 2, none⟩ = some (.int .i64 t316) := (blk_cell BK318.out 2).trans rfl
                    have hfz91_0 := blk_frozen BK318.out 0
                    have hfz91_1 := blk_frozen BK318.out 1
                    have hfz91_2 := blk_frozen BK318.out 2
                    go_wp2_with (first | ((with_reducible refine gate_callee (f := 9) rfl ?_); refine goesL_ (some 60) rfl rfl Tryd.func9 (by kernel_rfl) rfl #[.agg #[.bool t312, .slice Ao22 t321.length co22, .int .i64 t316], .int .i64 1] rfl hkL ?_; (with_reducible refine (laws_heldDy.calls kj49 t312 _ _ t321 t316 1 t335 _ ?side1 ?side2 A86.out).mono ?_); (case side1 => repeat (first | exact (Kd.R_reads' HO_319001.out).2.2 | (with_reducible refine Kd.C_alloc ?_ _) | (with_reducible refine Kd.C_drewN ?_ _) | (with_reducible refine Kd.C_drew ?_))); (case side2 => exact (Kd.R_reads' HO_319001.out).2.1); rintro e w92 ⟨rfl, hb⟩; refine ⟨_, rfl, ?_⟩; have n0_ := hkRb HO_308001 hb; have n1_ := hkRb HO_319001 hb; have n2_ := hkRb HO_334001 hb; have n3_ := hkBb BK296 hb; have n4_ := hkBb BK307 hb; have n5_ := hkBb BK318 hb; have n6_ := hkBb BK333 hb; have n7_ := Aside0.mk (below_step (hkS HB) hb); clear HO_308001; clear HO_319001; clear HO_334001; clear BK296; clear BK307; clear BK318; clear BK333; clear HB; have HO_308001 := n0_; have HO_319001 := n1_; have HO_334001 := n2_; have BK296 := n3_; have BK307 := n4_; have BK318 := n5_; have BK333 := n6_; have HB := n7_; clear n0_ n1_ n2_ n3_ n4_ n5_ n6_ n7_; (try clear hb); (try clear hb2); (try clear hk); (try clear hi)))
                    go_ret
                    exact ⟨by first | rfl | (simp [errW_none, errW_some] <;> rfl) | (simp [*, errW_none, errW_some] <;> rfl), by repeat (first | (with_reducible first | exact HB.out | apply below_alloc | apply pw_below_drewN | apply below_drew1 | refine below_set ?_ GE296.out | refine below_set ?_ GE307.out | refine below_set ?_ GE318.out | refine below_set ?_ GE333.out) | exact HB.out)⟩
                  · rw [if_neg c87] at H
                    have c87b0 : decide (t335 < 0) = false := decide_eq_false c87
                    clear c87
                    by_cases c93 : t335 = t320
                    · rw [if_pos c93] at H
                      have c93b0 : (t335 == t320) = true := beq_iff_eq.mpr c93
                      have c93b1 : (t335 != t320) = false := bne_eq_false_iff_eq.mpr c93
                      clear c93
                      obtain rfl := Option.some.inj H
                      have hnb94 := NB318_296.out
                      have hnc94 := NB296_318.out
                      have hnb95 := NB318_307.out
                      have hnc95 := NB307_318.out
                      have hnb96 := NB318_333.out
                      have hnc96 := NB333_318.out
                      have hcz97_0 : wc.cell? ⟨gb318, 0, none⟩ = some (.bool t312) := (blk_cell BK318.out 0).trans rfl
                      have hcz97_1 : wc.cell? ⟨gb318, 1, none⟩ = some (.slice Ao22 t321.length co22) := (blk_cell BK318.out 1).trans rfl
                      have hcz97_2 : wc.cell? ⟨gb318, 2, none⟩ = some (.int .i64 t316) := (blk_cell BK318.out 2).trans rfl
                      have hfz97_0 := blk_frozen BK318.out 0
                      have hfz97_1 := blk_frozen BK318.out 1
                      have hfz97_2 := blk_frozen BK318.out 2
                      go_wp2_with (first | ((with_reducible refine gate_callee (f := 9) rfl ?_); refine goesL_ (some 60) rfl rfl Tryd.func9 (by kernel_rfl) rfl #[.agg #[.bool t312, .slice Ao22 t321.length co22, .int .i64 t316], .int .i64 1] rfl hkL ?_; (with_reducible refine (laws_heldDy.calls kj49 t312 _ _ t321 t316 1 t335 _ ?side1 ?side2 A86.out).mono ?_); (case side1 => repeat (first | exact (Kd.R_reads' HO_319001.out).2.2 | (with_reducible refine Kd.C_alloc ?_ _) | (with_reducible refine Kd.C_drewN ?_ _) | (with_reducible refine Kd.C_drew ?_))); (case side2 => exact (Kd.R_reads' HO_319001.out).2.1); rintro e w98 ⟨rfl, hb⟩; refine ⟨_, rfl, ?_⟩; have n0_ := hkRb HO_308001 hb; have n1_ := hkRb HO_319001 hb; have n2_ := hkRb HO_334001 hb; have n3_ := hkBb BK296 hb; have n4_ := hkBb BK307 hb; have n5_ := hkBb BK318 hb; have n6_ := hkBb BK333 hb; have n7_ := Aside0.mk (below_step (hkS HB) hb); clear HO_308001; clear HO_319001; clear HO_334001; clear BK296; clear BK307; clear BK318; clear BK333; clear HB; have HO_308001 := n0_; have HO_319001 := n1_; have HO_334001 := n2_; have BK296 := n3_; have BK307 := n4_; have BK318 := n5_; have BK333 := n6_; have HB := n7_; clear n0_ n1_ n2_ n3_ n4_ n5_ n6_ n7_; (try clear hb); (try clear hb2); (try clear hk); (try clear hi)))
                      go_ret
                      exact ⟨by first | rfl | (simp [errW_none, errW_some] <;> rfl) | (simp [*, errW_none, errW_some] <;> rfl), by repeat (first | (with_reducible first | exact HB.out | apply below_alloc | apply pw_below_drewN | apply below_drew1 | refine below_set ?_ GE296.out | refine below_set ?_ GE307.out | refine below_set ?_ GE318.out | refine below_set ?_ GE333.out) | exact HB.out)⟩
                    · rw [if_neg c93] at H
                      have c93b0 : (t335 == t320) = false := beq_eq_false_iff_ne.mpr c93
                      have c93b1 : (t335 != t320) = true := bne_iff_ne.mpr c93
                      obtain rfl := Option.some.inj H
                      have hnb99 := NB318_296.out
                      have hnc99 := NB296_318.out
                      have hnb100 := NB318_307.out
                      have hnc100 := NB307_318.out
                      have hnb101 := NB318_333.out
                      have hnc101 := NB333_318.out
                      have hcz102_0 : wc.cell? ⟨gb318, 0, none⟩ = some (.bool t312) := (blk_cell BK318.out 0).trans rfl
                      have hcz102_1 : wc.cell? ⟨gb318, 1, none⟩ = some (.slice Ao22 t321.length co22) := (blk_cell BK318.out 1).trans rfl
                      have hcz102_2 : wc.cell? ⟨gb318, 2, none⟩ = some (.int .i64 t316) := (blk_cell BK318.out 2).trans rfl
                      have hfz102_0 := blk_frozen BK318.out 0
                      have hfz102_1 := blk_frozen BK318.out 1
                      have hfz102_2 := blk_frozen BK318.out 2
                      go_wp2_with (first | ((with_reducible refine gate_callee (f := 9) rfl ?_); refine goesL_ (some 60) rfl rfl Tryd.func9 (by kernel_rfl) rfl #[.agg #[.bool t312, .slice Ao22 t321.length co22, .int .i64 t316], .int .i64 1] rfl hkL ?_; (with_reducible refine (laws_heldDy.calls kj49 t312 _ _ t321 t316 1 t335 _ ?side1 ?side2 A86.out).mono ?_); (case side1 => repeat (first | exact (Kd.R_reads' HO_319001.out).2.2 | (with_reducible refine Kd.C_alloc ?_ _) | (with_reducible refine Kd.C_drewN ?_ _) | (with_reducible refine Kd.C_drew ?_))); (case side2 => exact (Kd.R_reads' HO_319001.out).2.1); rintro e w103 ⟨rfl, hb⟩; refine ⟨_, rfl, ?_⟩; have n0_ := hkRb HO_308001 hb; have n1_ := hkRb HO_319001 hb; have n2_ := hkRb HO_334001 hb; have n3_ := hkBb BK296 hb; have n4_ := hkBb BK307 hb; have n5_ := hkBb BK318 hb; have n6_ := hkBb BK333 hb; have n7_ := Aside0.mk (below_step (hkS HB) hb); clear HO_308001; clear HO_319001; clear HO_334001; clear BK296; clear BK307; clear BK318; clear BK333; clear HB; have HO_308001 := n0_; have HO_319001 := n1_; have HO_334001 := n2_; have BK296 := n3_; have BK307 := n4_; have BK318 := n5_; have BK333 := n6_; have HB := n7_; clear n0_ n1_ n2_ n3_ n4_ n5_ n6_ n7_; (try clear hb); (try clear hb2); (try clear hk); (try clear hi)))
                      go_ret
                      exact ⟨by first | rfl | (simp [errW_none, errW_some] <;> rfl) | (simp [*, errW_none, errW_some] <;> rfl), by repeat (first | (with_reducible first | exact HB.out | apply below_alloc | apply pw_below_drewN | apply below_drew1 | refine below_set ?_ GE296.out | refine below_set ?_ GE307.out | refine below_set ?_ GE318.out | refine below_set ?_ GE333.out) | exact HB.out)⟩
          · rw [if_neg c47] at H
            have c47b0 : (t322 == t320) = false := beq_eq_false_iff_ne.mpr c47
            have c47b1 : (t322 != t320) = true := bne_iff_ne.mpr c47
            obtain rfl := Option.some.inj H
            have hnb104 := NB318_296.out
            have hnc104 := NB296_318.out
            have hnb105 := NB318_307.out
            have hnc105 := NB307_318.out
            have hcz106_0 : wc.cell? ⟨gb318, 0, none⟩ = some (.bool t312) := (blk_cell BK318.out 0).trans rfl
            have hcz106_1 : wc.cell? ⟨gb318, 1, none⟩ = some (.slice Ao22 t313.length co22) := (blk_cell BK318.out 1).trans rfl
            have hcz106_2 : wc.cell? ⟨gb318, 2, none⟩ = some (.int .i64 t316) := (blk_cell BK318.out 2).trans rfl
            have hfz106_0 := blk_frozen BK318.out 0
            have hfz106_1 := blk_frozen BK318.out 1
            have hfz106_2 := blk_frozen BK318.out 2
            go_wp2_with (first | ((with_reducible refine gate_callee (f := 8) rfl ?_); refine goesL_ (some 34) rfl rfl Tryd.func8 (by kernel_rfl) rfl #[.agg #[.bool t312, .slice Ao22 t313.length co22, .int .i64 t316], .int .i64 1] rfl hkL ?_; (with_reducible refine (laws_markDy.calls kj5 t312 (fun k_ => some k_ = (.slice Ao22 t313.length co22 : Value).ownBlock) (.slice Ao22 t313.length co22) t313 t316 1 t320 t321 w _ ?side1 ?side2 A38.out).mono ?_); (case side1 => repeat (first | (with_reducible first | exact HB.out | apply below_alloc | apply pw_below_drewN | apply below_drew1 | refine below_set ?_ GE296.out | refine below_set ?_ GE307.out | refine below_set ?_ GE318.out) | exact HB.out)); (case side2 => exact Kd.R_tight rfl HO_319001.out); rintro e w107 ⟨rfl, hy0, hb, hkp⟩; refine ⟨_, rfl, ?_⟩; have n0_ := Aside0.mk (Kd.R_mono (ok' := fun k_ => some k_ ≠ (.slice Ao22 t313.length co22 : Value).ownBlock) (Kd.R_keptB (HO_308001.out) hkp (fun k_ hk_ hs_ => (hk_) hs_)) (fun k_ hk_ => hk_.1)); have n1_ := Aside0.mk (Kd.R_reok rfl hy0 (fun k_ e_ => HO_319001.out.1 k_ e_)); have n2_ := Aside0.mk (blk_kept (hkB BK296) hkp (fun hs_ => (fun e_ => (Kd.R_ne HO_319001.out BK296.out (by decide)) e_) hs_)); have n3_ := Aside0.mk (blk_kept (hkB BK307) hkp (fun hs_ => (fun e_ => (Kd.R_ne HO_319001.out BK307.out (by decide)) e_) hs_)); have n4_ := Aside0.mk (blk_kept (hkB BK318) hkp (fun hs_ => (fun e_ => (Kd.R_ne HO_319001.out BK318.out (by decide)) e_) hs_)); have n5_ := Aside0.mk (hb); clear HO_308001; clear HO_319001; clear BK296; clear BK307; clear BK318; clear HB; have HO_308001 := n0_; have HO_319001 := n1_; have BK296 := n2_; have BK307 := n3_; have BK318 := n4_; have HB := n5_; clear n0_ n1_ n2_ n3_ n4_ n5_; (try clear hb); (try clear hkp); (try clear hy0); have hcz108_0 : w107.cell? ⟨gb318, 0, none⟩ = some (.bool t312) := (blk_cell BK318.out 0).trans rfl; have hcz108_1 : w107.cell? ⟨gb318, 1, none⟩ = some (.slice Ao22 t313.length co22) := (blk_cell BK318.out 1).trans rfl; have hcz108_2 : w107.cell? ⟨gb318, 2, none⟩ = some (.int .i64 t316) := (blk_cell BK318.out 2).trans rfl; have hfz108_0 := blk_frozen BK318.out 0; have hfz108_1 := blk_frozen BK318.out 1; have hfz108_2 := blk_frozen BK318.out 2) | ((with_reducible refine gate_callee (f := 9) rfl ?_); refine goesL_ (some 37) rfl rfl Tryd.func9 (by kernel_rfl) rfl #[.agg #[.bool t312, .slice Ao22 t321.length co22, .int .i64 t316], .int .i64 1] rfl (by (try simp only [List.map_toArray, List.map_cons, List.map_nil]); first | done | (rw [show t321.length = t313.length from (Kd.R_reads' HO_319001.out).1.symm] <;> rfl) | rfl | (simp only [List.length_drop, List.length_take]; rfl)) ?_; (with_reducible refine (laws_heldDy.calls kj5 t312 _ _ t321 t316 1 t322 _ ?side1 ?side2 A39.out).mono ?_); (case side1 => repeat (first | exact (Kd.R_reads' HO_319001.out).2.2 | (with_reducible refine Kd.C_alloc ?_ _) | (with_reducible refine Kd.C_drewN ?_ _) | (with_reducible refine Kd.C_drew ?_))); (case side2 => rw [show t321.length = t313.length from (Kd.R_reads' HO_319001.out).1.symm]; exact (Kd.R_reads' HO_319001.out).2.1); rintro e w109 ⟨rfl, hb⟩; refine ⟨_, rfl, ?_⟩; have n0_ := hkRb HO_308001 hb; have n1_ := hkRb HO_319001 hb; have n2_ := hkBb BK296 hb; have n3_ := hkBb BK307 hb; have n4_ := hkBb BK318 hb; have n5_ := Aside0.mk (below_step (hkS HB) hb); clear HO_308001; clear HO_319001; clear BK296; clear BK307; clear BK318; clear HB; have HO_308001 := n0_; have HO_319001 := n1_; have BK296 := n2_; have BK307 := n3_; have BK318 := n4_; have HB := n5_; clear n0_ n1_ n2_ n3_ n4_ n5_; (try clear hb); (try clear hb2); (try clear hk); (try clear hi)))
            go_ret
            exact ⟨by first | rfl | (simp [errW_none, errW_some] <;> rfl) | (simp [*, errW_none, errW_some] <;> rfl), by repeat (first | (with_reducible first | exact HB.out | apply below_alloc | apply pw_below_drewN | apply below_drew1 | refine below_set ?_ GE296.out | refine below_set ?_ GE307.out | refine below_set ?_ GE318.out) | exact HB.out)⟩

/-- THE ONE PURE STATEMENT of laws_FnExactFlUlp. -/
def laws_FnExactFlUlp.Pure : Prop := ∀ (a0_0 : Int) (a0_1 : Bool) (a0_2 : Int) (a0_3 : Int), (Lit.int .i64 a0_0).wf = true → (Lit.int .i64 a0_2).wf = true → (Lit.int .i64 a0_3).wf = true → ∃ k, laws_FnExactFlUlp.f k a0_0 a0_1 a0_2 a0_3 = some true
theorem laws_FnExactFlUlp.walk (P : laws_FnExactFlUlp.Pure) (a0_0 : Int) (a0_1 : Bool) (a0_2 : Int) (a0_3 : Int) (w : World) (w0_0 : (Lit.int .i64 a0_0).wf = true) (w0_2 : (Lit.int .i64 a0_2).wf = true) (w0_3 : (Lit.int .i64 a0_3).wf = true) (hT : hTab w) :
    Calls Tryd.prog 3 #[.agg #[.int .i64 a0_0, .bool a0_1, .int .i64 a0_2, .int .i64 a0_3]] w fun e w' => e = .returned (.bool true) ∧ Below w.heap.size w w' := by
  have HT0 := Aside0.mk hT
  clear hT
  obtain ⟨k, h⟩ := P a0_0 a0_1 a0_2 a0_3 w0_0 w0_2 w0_3
  refine (laws_FnExactFlUlp.calls k a0_0 a0_1 a0_2 a0_3 true w h).mono ?_
  rintro e w' ⟨rfl, hd⟩
  exact ⟨rfl, hd⟩

end Go.Proofs.YtlefbfdeelldjaaDoor.PFnExactFlUlp
