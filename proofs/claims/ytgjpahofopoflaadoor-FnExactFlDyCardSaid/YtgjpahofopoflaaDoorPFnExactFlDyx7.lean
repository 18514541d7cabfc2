-- Written by our own driver (wip/hand/hprint.py) over the seat's translation.
import Derived.Test.YtgjpahofopoflaaDoorPFnExactFlDyx0
import Derived.Test.YtgjpahofopoflaaDoorPFnExactFlDyx3
import Derived.Test.YtgjpahofopoflaaDoorPFnExactFlDyx6
namespace Go.Proofs.YtgjpahofopoflaaDoor.PFnExactFlDy
open Go.RowKit Go.Proofs.YtgjpahofopoflaaDoorW.PrintWords Go.Proofs.YtgjpahofopoflaaDoorW.PrintLast Go.Proofs.YtgjpahofopoflaaDoorW.PrintMore
attribute [local go_sem] max2_int min2_int max_two min_two max_three min_three max_four min_four   -- for this text's walks alone
set_option linter.unusedVariables false
set_option linter.unusedSimpArgs false

/-! ### laws_heldNat: function 72 -/
def laws_heldNat.f (k : Nat) (l0_0 : List Int) (a1 : Int) : Option (Int) := (laws_heldIntS.f k l0_0 a1).bind fun t293 => (if t293 < 0 then (some (-1)) else (some t293))
theorem laws_heldNat.mono : ∀ a0 a1 k, LeO (laws_heldNat.f k a0 a1) (laws_heldNat.f (k + 1) a0 a1) := by
  intro a0 a1 k
  unfold laws_heldNat.f
  repeat' first
      | (with_reducible exact laws_heldIntS.mono _ _ _)
      | (with_reducible exact LeO.refl _)
      | (with_reducible exact LeO.none _)
      | (with_reducible refine LeO.ite ?_ ?_)
      | (with_reducible refine LeO.bind ?_ (fun _ => ?_))
      | exact laws_heldIntS.mono _ _ _
      | exact LeO.none _
      | refine LeO.ite ?_ ?_
      | refine LeO.bind ?_ (fun _ => ?_)
set_option maxHeartbeats 8000000 in
set_option maxRecDepth 100000 in
theorem laws_heldNat.calls (k : Nat) (A0_0 : Option Addr) (c0_0 : Nat) (l0_0 : List Int) (a1 : Int) (r : Int) (w : World) (hr0_0 : Kd.C (Kd.int .i64) w A0_0 l0_0.length l0_0) (hc0_0 : l0_0.length ≤ c0_0) (h : laws_heldNat.f k l0_0 a1 = some r) :
    Calls Tryd.prog 72 #[.agg #[.slice A0_0 l0_0.length c0_0], .int .i64 a1] w fun e w' => e = .returned (.int .i64 r) ∧ Below w.heap.size w w' := by
  have hu26 := Tryd.underlying26
  have HR0_0 := Aside0.mk hr0_0
  have HC0_0 := Aside0.mk hc0_0
  clear hr0_0 hc0_0
  have HB := Aside0.mk (Below.refl w.heap.size w)
  have H : ((laws_heldIntS.f k l0_0 a1).bind fun t293 => (if t293 < 0 then (some (-1)) else (some t293))) = some r := h
  clear h
  replace H := Option.bind_eq_some_iff.mp H
  obtain ⟨t293, A30, H⟩ := H
  replace H : (if t293 < 0 then (some (-1)) else (some t293)) = some r := H
  have A3 := Aside0.mk A30
  clear A30
  by_cases c4 : t293 < 0
  · rw [if_pos c4] at H
    have c4b0 : decide (t293 < 0) = true := decide_eq_true c4
    clear c4
    obtain rfl := Option.some.inj H
    go_enter Tryd.func72, Tryd.ntmps72
    go_wp2_with (first | ((with_reducible refine gate_dst (N := 2) rfl ?_); refine box_event ?hg (N := 2) ?hd (cs := #[.slice A0_0 l0_0.length c0_0]) (t := 26) ?hr ?_; (case hd => rfl); (case hg => rfl); (case hr => first | (go_simp; done) | (go_simp; rfl)); intro gb292 hg w5 hbox hb; have n0_ := Aside0.mk (below_step (hkS HB) hb); have n1_ := Aside0.mk (hbox); have n2_ := hkG hg (hkS HB); have n3_ := hkG hg (hkS HB); clear HB; have HB := n0_; have BK292 := n1_; have GW292 := n2_; have GE292 := n3_; clear n0_ n1_ n2_ n3_; clear hb hbox hg; have hcz6_0 : w5.cell? ⟨gb292, 0, none⟩ = some (.slice A0_0 l0_0.length c0_0) := (blk_cell BK292.out 0).trans rfl; have hfz6_0 := blk_frozen BK292.out 0) | ((with_reducible refine gate_callee (f := 106) rfl ?_); refine goesL_ (some 8) rfl rfl Tryd.func106 (by kernel_rfl) rfl #[.slice A0_0 l0_0.length c0_0, .int .i64 a1] rfl hkL ?_; (with_reducible refine (laws_heldIntS.calls k _ _ l0_0 a1 t293 _ ?side1 ?side2 A3.out).mono ?_); (case side1 => repeat (first | exact (Kd.C_below HR0_0.out HB.out) | (with_reducible refine Kd.C_alloc ?_ _) | (with_reducible refine Kd.C_drewN ?_ _) | (with_reducible refine Kd.C_drew ?_))); (case side2 => exact HC0_0.out); rintro e w' ⟨rfl, ⟨nd, rfl⟩⟩; refine ⟨_, rfl, ?_⟩))
    go_ret
    exact ⟨by first | rfl | (simp [errW_none, errW_some] <;> rfl) | (simp [*, errW_none, errW_some] <;> rfl), by repeat (first | (with_reducible first | exact HB.out | apply below_alloc | apply pw_below_drewN | apply below_drew1 | refine below_set ?_ GE292.out) | exact HB.out)⟩
  · rw [if_neg c4] at H
    have c4b0 : decide (t293 < 0) = false := decide_eq_false c4
    clear c4
    obtain rfl := Option.some.inj H
    go_enter Tryd.func72, Tryd.ntmps72
    go_wp2_with (first | ((with_reducible refine gate_dst (N := 2) rfl ?_); refine box_event ?hg (N := 2) ?hd (cs := #[.slice A0_0 l0_0.length c0_0]) (t := 26) ?hr ?_; (case hd => rfl); (case hg => rfl); (case hr => first | (go_simp; done) | (go_simp; rfl)); intro gb292 hg w7 hbox hb; have n0_ := Aside0.mk (below_step (hkS HB) hb); have n1_ := Aside0.mk (hbox); have n2_ := hkG hg (hkS HB); have n3_ := hkG hg (hkS HB); clear HB; have HB := n0_; have BK292 := n1_; have GW292 := n2_; have GE292 := n3_; clear n0_ n1_ n2_ n3_; clear hb hbox hg; have hcz8_0 : w7.cell? ⟨gb292, 0, none⟩ = some (.slice A0_0 l0_0.length c0_0) := (blk_cell BK292.out 0).trans rfl; have hfz8_0 := blk_frozen BK292.out 0) | ((with_reducible refine gate_callee (f := 106) rfl ?_); refine goesL_ (some 8) rfl rfl Tryd.func106 (by kernel_rfl) rfl #[.slice A0_0 l0_0.length c0_0, .int .i64 a1] rfl hkL ?_; (with_reducible refine (laws_heldIntS.calls k _ _ l0_0 a1 t293 _ ?side1 ?side2 A3.out).mono ?_); (case side1 => repeat (first | exact (Kd.C_below HR0_0.out HB.out) | (with_reducible refine Kd.C_alloc ?_ _) | (with_reducible refine Kd.C_drewN ?_ _) | (with_reducible refine Kd.C_drew ?_))); (case side2 => exact HC0_0.out); rintro e w' ⟨rfl, ⟨nd, rfl⟩⟩; refine ⟨_, rfl, ?_⟩))
    go_ret
    exact ⟨by first | rfl | (simp [errW_none, errW_some] <;> rfl) | (simp [*, errW_none, errW_some] <;> rfl), by repeat (first | (with_reducible first | exact HB.out | apply below_alloc | apply pw_below_drewN | apply below_drew1 | refine below_set ?_ GE292.out) | exact HB.out)⟩

/-! ### laws_heldWhole: function 42 -/
def laws_heldWhole.f (k : Nat) (a0_0 : Bool) (l0_1 : List Int) (a1 : Int) : Option (Int) := (laws_heldNat.f k l0_1 a1).bind fun t295 => (if t295 < 0 then (some (-1)) else (some t295))
theorem laws_heldWhole.mono : ∀ a0 a1 a2 k, LeO (laws_heldWhole.f k a0 a1 a2) (laws_heldWhole.f (k + 1) a0 a1 a2) := by
  intro a0 a1 a2 k
  unfold laws_heldWhole.f
  repeat' first
      | (with_reducible exact laws_heldNat.mono _ _ _)
      | (with_reducible exact LeO.refl _)
      | (with_reducible exact LeO.none _)
      | (with_reducible refine LeO.ite ?_ ?_)
      | (with_reducible refine LeO.bind ?_ (fun _ => ?_))
      | exact laws_heldNat.mono _ _ _
      | exact LeO.none _
      | refine LeO.ite ?_ ?_
      | refine LeO.bind ?_ (fun _ => ?_)
set_option maxHeartbeats 8000000 in
set_option maxRecDepth 100000 in
theorem laws_heldWhole.calls (k : Nat) (a0_0 : Bool) (A0_1 : Option Addr) (c0_1 : Nat) (l0_1 : List Int) (a1 : Int) (r : Int) (w : World) (hr0_1 : Kd.C (Kd.int .i64) w A0_1 l0_1.length l0_1) (hc0_1 : l0_1.length ≤ c0_1) (h : laws_heldWhole.f k a0_0 l0_1 a1 = some r) :
    Calls Tryd.prog 42 #[.agg #[.bool a0_0, .slice A0_1 l0_1.length c0_1], .int .i64 a1] w fun e w' => e = .returned (.int .i64 r) ∧ Below w.heap.size w w' := by
  have hu28 := Tryd.underlying28
  have hu26 := Tryd.underlying26
  have HR0_1 := Aside0.mk hr0_1
  have HC0_1 := Aside0.mk hc0_1
  clear hr0_1 hc0_1
  have HB := Aside0.mk (Below.refl w.heap.size w)
  have H : ((laws_heldNat.f k l0_1 a1).bind fun t295 => (if t295 < 0 then (some (-1)) else (some t295))) = some r := h
  clear h
  replace H := Option.bind_eq_some_iff.mp H
  obtain ⟨t295, A30, H⟩ := H
  replace H : (if t295 < 0 then (some (-1)) else (some t295)) = some r := H
  have A3 := Aside0.mk A30
  clear A30
  by_cases c4 : t295 < 0
  · rw [if_pos c4] at H
    have c4b0 : decide (t295 < 0) = true := decide_eq_true c4
    clear c4
    obtain rfl := Option.some.inj H
    go_enter Tryd.func42, Tryd.ntmps42
    go_wp2_with (first | ((with_reducible refine gate_dst (N := 2) rfl ?_); refine box_event ?hg (N := 2) ?hd (cs := #[.bool a0_0, .slice A0_1 l0_1.length c0_1]) (t := 28) ?hr ?_; (case hd => rfl); (case hg => rfl); (case hr => first | (go_simp; done) | (go_simp; rfl)); intro gb294 hg w5 hbox hb; have n0_ := Aside0.mk (below_step (hkS HB) hb); have n1_ := Aside0.mk (hbox); have n2_ := hkG hg (hkS HB); have n3_ := hkG hg (hkS HB); clear HB; have HB := n0_; have BK294 := n1_; have GW294 := n2_; have GE294 := n3_; clear n0_ n1_ n2_ n3_; clear hb hbox hg; have hcz6_0 : w5.cell? ⟨gb294, 0, none⟩ = some (.bool a0_0) := (blk_cell BK294.out 0).trans rfl; have hcz6_1 : w5.cell? ⟨gb294, 1, none⟩ = some (.slice A0_1 l0_1.length c0_1) := (blk_cell BK294.out 1).trans rfl; have hfz6_0 := blk_frozen BK294.out 0; have hfz6_1 := blk_frozen BK294.out 1) | ((with_reducible refine gate_callee (f := 72) rfl ?_); refine goesL_ (some 8) rfl rfl Tryd.func72 (by kernel_rfl) rfl #[.agg #[.slice A0_1 l0_1.length c0_1], .int .i64 a1] rfl hkL ?_; (with_reducible refine (laws_heldNat.calls k _ _ l0_1 a1 t295 _ ?side1 ?side2 A3.out).mono ?_); (case side1 => repeat (first | exact (Kd.C_below HR0_1.out HB.out) | (with_reducible refine Kd.C_alloc ?_ _) | (with_reducible refine Kd.C_drewN ?_ _) | (with_reducible refine Kd.C_drew ?_))); (case side2 => exact HC0_1.out); rintro e w7 ⟨rfl, hb⟩; refine ⟨_, rfl, ?_⟩; have n0_ := hkBb BK294 hb; have n1_ := Aside0.mk (below_step (hkS HB) hb); clear BK294; clear HB; have BK294 := n0_; have HB := n1_; clear n0_ n1_; (try clear hb); (try clear hb2); (try clear hk); (try clear hi)))
    go_ret
    exact ⟨by first | rfl | (simp [errW_none, errW_some] <;> rfl) | (simp [*, errW_none, errW_some] <;> rfl), by repeat (first | (with_reducible first | exact HB.out | apply below_alloc | apply pw_below_drewN | apply below_drew1 | refine below_set ?_ GE294.out) | exact HB.out)⟩
  · rw [if_neg c4] at H
    have c4b0 : decide (t295 < 0) = false := decide_eq_false c4
    clear c4
    obtain rfl := Option.some.inj H
    go_enter Tryd.func42, Tryd.ntmps42
    go_wp2_with (first | ((with_reducible refine gate_dst (N := 2) rfl ?_); refine box_event ?hg (N := 2) ?hd (cs := #[.bool a0_0, .slice A0_1 l0_1.length c0_1]) (t := 28) ?hr ?_; (case hd => rfl); (case hg => rfl); (case hr => first | (go_simp; done) | (go_simp; rfl)); intro gb294 hg w8 hbox hb; have n0_ := Aside0.mk (below_step (hkS HB) hb); have n1_ := Aside0.mk (hbox); have n2_ := hkG hg (hkS HB); have n3_ := hkG hg (hkS HB); clear HB; have HB := n0_; have BK294 := n1_; have GW294 := n2_; have GE294 := n3_; clear n0_ n1_ n2_ n3_; clear hb hbox hg; have hcz9_0 : w8.cell? ⟨gb294, 0, none⟩ = some (.bool a0_0) := (blk_cell BK294.out 0).trans rfl; have hcz9_1 : w8.cell? ⟨gb294, 1, none⟩ = some (.slice A0_1 l0_1.length c0_1) := (blk_cell BK294.out 1).trans rfl; have hfz9_0 := blk_frozen BK294.out 0; have hfz9_1 := blk_frozen BK294.out 1) | ((with_reducible refine gate_callee (f := 72) rfl ?_); refine goesL_ (some 8) rfl rfl Tryd.func72 (by kernel_rfl) rfl #[.agg #[.slice A0_1 l0_1.length c0_1], .int .i64 a1] rfl hkL ?_; (with_reducible refine (laws_heldNat.calls k _ _ l0_1 a1 t295 _ ?side1 ?side2 A3.out).mono ?_); (case side1 => repeat (first | exact (Kd.C_below HR0_1.out HB.out) | (with_reducible refine Kd.C_alloc ?_ _) | (with_reducible refine Kd.C_drewN ?_ _) | (with_reducible refine Kd.C_drew ?_))); (case side2 => exact HC0_1.out); rintro e w10 ⟨rfl, hb⟩; refine ⟨_, rfl, ?_⟩; have n0_ := hkBb BK294 hb; have n1_ := Aside0.mk (below_step (hkS HB) hb); clear BK294; clear HB; have BK294 := n0_; have HB := n1_; clear n0_ n1_; (try clear hb); (try clear hb2); (try clear hk); (try clear hi)))
    go_ret
    exact ⟨by first | rfl | (simp [errW_none, errW_some] <;> rfl) | (simp [*, errW_none, errW_some] <;> rfl), by repeat (first | (with_reducible first | exact HB.out | apply below_alloc | apply pw_below_drewN | apply below_drew1 | refine below_set ?_ GE294.out) | exact HB.out)⟩

/-! ### laws_heldDy: function 13 -/
def laws_heldDy.f (k : Nat) (a0_0 : Bool) (l0_1 : List Int) (a0_2 : Int) (a1 : Int) : Option (Int) := (laws_heldWhole.f k a0_0 l0_1 a1).bind fun t297 => (if t297 < 0 then (some (-1)) else (some t297))
theorem laws_heldDy.mono : ∀ a0 a1 a2 a3 k, LeO (laws_heldDy.f k a0 a1 a2 a3) (laws_heldDy.f (k + 1) a0 a1 a2 a3) := by
  intro a0 a1 a2 a3 k
  unfold laws_heldDy.f
  repeat' first
      | (with_reducible exact laws_heldWhole.mono _ _ _ _)
      | (with_reducible exact LeO.refl _)
      | (with_reducible exact LeO.none _)
      | (with_reducible refine LeO.ite ?_ ?_)
      | (with_reducible refine LeO.bind ?_ (fun _ => ?_))
      | exact laws_heldWhole.mono _ _ _ _
      | exact LeO.none _
      | refine LeO.ite ?_ ?_
      | refine LeO.bind ?_ (fun _ => ?_)
set_option maxHeartbeats 8000000 in
set_option maxRecDepth 100000 in
theorem laws_heldDy.calls (k : Nat) (a0_0 : Bool) (A0_1 : Option Addr) (c0_1 : Nat) (l0_1 : List Int) (a0_2 : Int) (a1 : Int) (r : Int) (w : World) (hr0_1 : Kd.C (Kd.int .i64) w A0_1 l0_1.length l0_1) (hc0_1 : l0_1.length ≤ c0_1) (h : laws_heldDy.f k a0_0 l0_1 a0_2 a1 = some r) :
    Calls Tryd.prog 13 #[.agg #[.bool a0_0, .slice A0_1 l0_1.length c0_1, .int .i64 a0_2], .int .i64 a1] w fun e w' => e = .returned (.int .i64 r) ∧ Below w.heap.size w w' := by
  have hu30 := Tryd.underlying30
  have hu28 := Tryd.underlying28
  have HR0_1 := Aside0.mk hr0_1
  have HC0_1 := Aside0.mk hc0_1
  clear hr0_1 hc0_1
  have HB := Aside0.mk (Below.refl w.heap.size w)
  have H : ((laws_heldWhole.f k a0_0 l0_1 a1).bind fun t297 => (if t297 < 0 then (some (-1)) else (some t297))) = some r := h
  clear h
  replace H := Option.bind_eq_some_iff.mp H
  obtain ⟨t297, A30, H⟩ := H
  replace H : (if t297 < 0 then (some (-1)) else (some t297)) = some r := H
  have A3 := Aside0.mk A30
  clear A30
  by_cases c4 : t297 < 0
  · rw [if_pos c4] at H
    have c4b0 : decide (t297 < 0) = true := decide_eq_true c4
    clear c4
    obtain rfl := Option.some.inj H
    go_enter Tryd.func13, Tryd.ntmps13
    go_wp2_with (first | ((with_reducible refine gate_dst (N := 2) rfl ?_); refine box_event ?hg (N := 2) ?hd (cs := #[.bool a0_0, .slice A0_1 l0_1.length c0_1, .int .i64 a0_2]) (t := 30) ?hr ?_; (case hd => rfl); (case hg => rfl); (case hr => first | (go_simp; done) | (go_simp; rfl)); intro gb296 hg w5 hbox hb; have n0_ := Aside0.mk (below_step (hkS HB) hb); have n1_ := Aside0.mk (hbox); have n2_ := hkG hg (hkS HB); have n3_ := hkG hg (hkS HB); clear HB; have HB := n0_; have BK296 := n1_; have GW296 := n2_; have GE296 := n3_; clear n0_ n1_ n2_ n3_; clear hb hbox hg; have hcz6_0 : w5.cell? ⟨gb296, 0, none⟩ = some (.bool a0_0) := (blk_cell BK296.out 0).trans rfl; have hcz6_1 : w5.cell? ⟨gb296, 1, none⟩ = some (.slice A0_1 l0_1.length c0_1) := (blk_cell BK296.out 1).trans rfl; have hcz6_2 : w5.cell? ⟨gb296, 2, none⟩ = some (.int .i64 a0_2) := (blk_cell BK296.out 2).trans rfl; have hfz6_0 := blk_frozen BK296.out 0; have hfz6_1 := blk_frozen BK296.out 1; have hfz6_2 := blk_frozen BK296.out 2) | ((with_reducible refine gate_callee (f := 42) rfl ?_); refine goesL_ (some 8) rfl rfl Tryd.func42 (by kernel_rfl) rfl #[.agg #[.bool a0_0, .slice A0_1 l0_1.length c0_1], .int .i64 a1] rfl hkL ?_; (with_reducible refine (laws_heldWhole.calls k a0_0 _ _ l0_1 a1 t297 _ ?side1 ?side2 A3.out).mono ?_); (case side1 => repeat (first | exact (Kd.C_below HR0_1.out HB.out) | (with_reducible refine Kd.C_alloc ?_ _) | (with_reducible refine Kd.C_drewN ?_ _) | (with_reducible refine Kd.C_drew ?_))); (case side2 => exact HC0_1.out); rintro e w7 ⟨rfl, hb⟩; refine ⟨_, rfl, ?_⟩; have n0_ := hkBb BK296 hb; have n1_ := Aside0.mk (below_step (hkS HB) hb); clear BK296; clear HB; have BK296 := n0_; have HB := n1_; clear n0_ n1_; (try clear hb); (try clear hb2); (try clear hk); (try clear hi)))
    go_ret
    exact ⟨by first | rfl | (simp [errW_none, errW_some] <;> rfl) | (simp [*, errW_none, errW_some] <;> rfl), by repeat (first | (with_reducible first | exact HB.out | apply below_alloc | apply pw_below_drewN | apply below_drew1 | refine below_set ?_ GE296.out) | exact HB.out)⟩
  · rw [if_neg c4] at H
    have c4b0 : decide (t297 < 0) = false := decide_eq_false c4
    clear c4
    obtain rfl := Option.some.inj H
    go_enter Tryd.func13, Tryd.ntmps13
    go_wp2_with (first | ((with_reducible refine gate_dst (N := 2) rfl ?_); refine box_event ?hg (N := 2) ?hd (cs := #[.bool a0_0, .slice A0_1 l0_1.length c0_1, .int .i64 a0_2]) (t := 30) ?hr ?_; (case hd => rfl); (case hg => rfl); (case hr => first | (go_simp; done) | (go_simp; rfl)); intro gb296 hg w8 hbox hb; have n0_ := Aside0.mk (below_step (hkS HB) hb); have n1_ := Aside0.mk (hbox); have n2_ := hkG hg (hkS HB); have n3_ := hkG hg (hkS HB); clear HB; have HB := n0_; have BK296 := n1_; have GW296 := n2_; have GE296 := n3_; clear n0_ n1_ n2_ n3_; clear hb hbox hg; have hcz9_0 : w8.cell? ⟨gb296, 0, none⟩ = some (.bool a0_0) := (blk_cell BK296.out 0).trans rfl; have hcz9_1 : w8.cell? ⟨gb296, 1, none⟩ = some (.slice A0_1 l0_1.length c0_1) := (blk_cell BK296.out 1).trans rfl; have hcz9_2 : w8.cell? ⟨gb296, 2, none⟩ = some (.int .i64 a0_2) := (blk_cell BK296.out 2).trans rfl; have hfz9_0 := blk_frozen BK296.out 0; have hfz9_1 := blk_frozen BK296.out 1; have hfz9_2 := blk_frozen BK296.out 2) | ((with_reducible refine gate_callee (f := 42) rfl ?_); refine goesL_ (some 8) rfl rfl Tryd.func42 (by kernel_rfl) rfl #[.agg #[.bool a0_0, .slice A0_1 l0_1.length c0_1], .int .i64 a1] rfl hkL ?_; (with_reducible refine (laws_heldWhole.calls k a0_0 _ _ l0_1 a1 t297 _ ?side1 ?side2 A3.out).mono ?_); (case side1 => repeat (first | exact (Kd.C_below HR0_1.out HB.out) | (with_reducible refine Kd.C_alloc ?_ _) | (with_reducible refine Kd.C_drewN ?_ _) | (with_reducible refine Kd.C_drew ?_))); (case side2 => exact HC0_1.out); rintro e w10 ⟨rfl, hb⟩; refine ⟨_, rfl, ?_⟩; have n0_ := hkBb BK296 hb; have n1_ := Aside0.mk (below_step (hkS HB) hb); clear BK296; clear HB; have BK296 := n0_; have HB := n1_; clear n0_ n1_; (try clear hb); (try clear hb2); (try clear hk); (try clear hi)))
    go_ret
    exact ⟨by first | rfl | (simp [errW_none, errW_some] <;> rfl) | (simp [*, errW_none, errW_some] <;> rfl), by repeat (first | (with_reducible first | exact HB.out | apply below_alloc | apply pw_below_drewN | apply below_drew1 | refine below_set ?_ GE296.out) | exact HB.out)⟩

/-! ### laws_FnExactFlDy: function 3 -/
mutual
def laws_FnExactFlDy.j0 : Nat → Bool → Bool → Int → Bool → Int → Int → Bool → List Int → Int → Bool → List Int → Int → Option (Bool)
  | 0, _, _, _, _, _, _, _, _, _, _, _, _ => none
  | k + 1, x4, x31, x299000, x299001, x299002, x299003, x310000, x310001, x310002, x321000, x321001, x321002 => if x31 = true then (some false) else ((laws_markDy.f k x321000 x321001 x321002 1).bind fun bt322 => ((laws_heldDy.f k x321000 bt322.2 x321002 1).bind fun t324 => (if t324 < 0 then (some false) else (if t324 = bt322.1 then ((laws_toFl.f x299000 x299001 x299002 x299003).bind fun bt325 => ((impl_FlDy.f k bt325.1 bt325.2.1 bt325.2.2.1 bt325.2.2.2).bind fun bt329 => ((laws_eqDy.f k bt329.1 bt329.2.1 bt329.2.2.1 x310000 x310001 x310002).bind fun t336 => (if t336 = true then (laws_FnExactFlDy.j1 k bt322.1 (bt329.2.2.2 != x4) x321000 bt322.2 x321002) else (laws_FnExactFlDy.j1 k bt322.1 true x321000 bt322.2 x321002))))) else (some false)))))
def laws_FnExactFlDy.j1 : Nat → Int → Bool → Bool → List Int → Int → Option (Bool)
  | 0, _, _, _, _, _ => none
  | k + 1, x7, x57, x321000, x321001, x321002 => if x57 = true then (some false) else ((laws_heldDy.f k x321000 x321001 x321002 1).bind fun t337 => (if t337 < 0 then (some false) else (if t337 = x7 then (some true) else (some false))))
end
def laws_FnExactFlDy.f (k : Nat) (a0_0 : Int) (a0_1 : Bool) (a0_2 : Int) (a0_3 : Int) : Option (Bool) := (laws_toFl.f a0_0 a0_1 a0_2 a0_3).bind fun bt299 => ((spec_FlDy.f k bt299.1 bt299.2.1 bt299.2.2.1 bt299.2.2.2).bind fun bt303 => ((laws_toFl.f a0_0 a0_1 a0_2 a0_3).bind fun bt310 => ((impl_FlDy.f k bt310.1 bt310.2.1 bt310.2.2.1 bt310.2.2.2).bind fun bt314 => ((laws_eqDy.f k bt314.1 bt314.2.1 bt314.2.2.1 bt303.1 bt303.2.1 bt303.2.2.1).bind fun t321 => (if t321 = true then (laws_FnExactFlDy.j0 k bt303.2.2.2 (bt314.2.2.2 != bt303.2.2.2) a0_0 a0_1 a0_2 a0_3 bt303.1 bt303.2.1 bt303.2.2.1 bt314.1 bt314.2.1 bt314.2.2.1) else (laws_FnExactFlDy.j0 k bt303.2.2.2 true a0_0 a0_1 a0_2 a0_3 bt303.1 bt303.2.1 bt303.2.2.1 bt314.1 bt314.2.1 bt314.2.2.1))))))
theorem laws_FnExactFlDy.mono_l : ∀ k, (∀ y0 y1 y2 y3 y4 y5 y6 y7 y8 y9 y10 y11, LeO (laws_FnExactFlDy.j0 k y0 y1 y2 y3 y4 y5 y6 y7 y8 y9 y10 y11) (laws_FnExactFlDy.j0 (k + 1) y0 y1 y2 y3 y4 y5 y6 y7 y8 y9 y10 y11)) ∧ (∀ y0 y1 y2 y3 y4, LeO (laws_FnExactFlDy.j1 k y0 y1 y2 y3 y4) (laws_FnExactFlDy.j1 (k + 1) y0 y1 y2 y3 y4))
  | 0 => ⟨fun _ _ _ _ _ _ _ _ _ _ _ _ r h => by simp [laws_FnExactFlDy.j0] at h, fun _ _ _ _ _ r h => by simp [laws_FnExactFlDy.j1] at h⟩
  | k + 1 => by
    obtain ⟨ih0, ih1⟩ := laws_FnExactFlDy.mono_l k
    refine ⟨?_, ?_⟩
    · intro y0 y1 y2 y3 y4 y5 y6 y7 y8 y9 y10 y11
      unfold laws_FnExactFlDy.j0
      repeat' first
      | (with_reducible exact ih0 _ _ _ _ _ _ _ _ _ _ _ _)
      | (with_reducible exact ih1 _ _ _ _ _)
      | (with_reducible exact impl_FlDy.mono _ _ _ _ _)
      | (with_reducible exact laws_eqDy.mono _ _ _ _ _ _ _)
      | (with_reducible exact laws_heldDy.mono _ _ _ _ _)
      | (with_reducible exact laws_markDy.mono _ _ _ _ _)
      | (with_reducible exact spec_FlDy.mono _ _ _ _ _)
      | (with_reducible exact LeO.refl _)
      | (with_reducible exact LeO.none _)
      | (with_reducible refine LeO.ite ?_ ?_)
      | (with_reducible refine LeO.bind ?_ (fun _ => ?_))
      | exact ih0 _ _ _ _ _ _ _ _ _ _ _ _
      | exact ih1 _ _ _ _ _
      | exact impl_FlDy.mono _ _ _ _ _
      | exact laws_eqDy.mono _ _ _ _ _ _ _
      | exact laws_heldDy.mono _ _ _ _ _
      | exact laws_markDy.mono _ _ _ _ _
      | exact spec_FlDy.mono _ _ _ _ _
      | exact LeO.none _
      | refine LeO.ite ?_ ?_
      | refine LeO.bind ?_ (fun _ => ?_)
    · intro y0 y1 y2 y3 y4
      unfold laws_FnExactFlDy.j1
      repeat' first
      | (with_reducible exact ih0 _ _ _ _ _ _ _ _ _ _ _ _)
      | (with_reducible exact ih1 _ _ _ _ _)
      | (with_reducible exact impl_FlDy.mono _ _ _ _ _)
      | (with_reducible exact laws_eqDy.mono _ _ _ _ _ _ _)
      | (with_reducible exact laws_heldDy.mono _ _ _ _ _)
      | (with_reducible exact laws_markDy.mono _ _ _ _ _)
      | (with_reducible exact spec_FlDy.mono _ _ _ _ _)
      | (with_reducible exact LeO.refl _)
      | (with_reducible exact LeO.none _)
      | (with_reducible refine LeO.ite ?_ ?_)
      | (with_reducible refine LeO.bind ?_ (fun _ => ?_))
      | exact ih0 _ _ _ _ _ _ _ _ _ _ _ _
      | exact ih1 _ _ _ _ _
      | exact impl_FlDy.mono _ _ _ _ _
      | exact laws_eqDy.mono _ _ _ _ _ _ _
      | exact laws_heldDy.mono _ _ _ _ _
      | exact laws_markDy.mono _ _ _ _ _
      | exact spec_FlDy.mono _ _ _ _ _
      | exact LeO.none _
      | refine LeO.ite ?_ ?_
      | refine LeO.bind ?_ (fun _ => ?_)
theorem laws_FnExactFlDy.mono : ∀ a0 a1 a2 a3 k, LeO (laws_FnExactFlDy.f k a0 a1 a2 a3) (laws_FnExactFlDy.f (k + 1) a0 a1 a2 a3) := by
  intro a0 a1 a2 a3 k
  obtain ⟨ih0, ih1⟩ := laws_FnExactFlDy.mono_l k
  unfold laws_FnExactFlDy.f
  repeat' first
      | (with_reducible exact ih0 _ _ _ _ _ _ _ _ _ _ _ _)
      | (with_reducible exact ih1 _ _ _ _ _)
      | (with_reducible exact impl_FlDy.mono _ _ _ _ _)
      | (with_reducible exact laws_eqDy.mono _ _ _ _ _ _ _)
      | (with_reducible exact laws_heldDy.mono _ _ _ _ _)
      | (with_reducible exact laws_markDy.mono _ _ _ _ _)
      | (with_reducible exact spec_FlDy.mono _ _ _ _ _)
      | (with_reducible exact LeO.refl _)
      | (with_reducible exact LeO.none _)
      | (with_reducible refine LeO.ite ?_ ?_)
      | (with_reducible refine LeO.bind ?_ (fun _ => ?_))
      | exact ih0 _ _ _ _ _ _ _ _ _ _ _ _
      | exact ih1 _ _ _ _ _
      | exact impl_FlDy.mono _ _ _ _ _
      | exact laws_eqDy.mono _ _ _ _ _ _ _
      | exact laws_heldDy.mono _ _ _ _ _
      | exact laws_markDy.mono _ _ _ _ _
      | exact spec_FlDy.mono _ _ _ _ _
      | exact LeO.none _
      | refine LeO.ite ?_ ?_
      | refine LeO.bind ?_ (fun _ => ?_)
set_option maxHeartbeats 8000000 in
set_option maxRecDepth 100000 in
theorem laws_FnExactFlDy.calls (k : Nat) (a0_0 : Int) (a0_1 : Bool) (a0_2 : Int) (a0_3 : Int) (r : Bool) (w : World) (h : laws_FnExactFlDy.f k a0_0 a0_1 a0_2 a0_3 = some r) (hT : hTab w := by exact hTab_use (by assumption)) :
    Calls Tryd.prog 3 #[.agg #[.int .i64 a0_0, .bool a0_1, .int .i64 a0_2, .int .i64 a0_3]] w fun e w' => e = .returned (.bool r) ∧ Below w.heap.size w w' := by
  have HT0 := Aside0.mk hT
  clear hT
  have hu23 := Tryd.underlying23
  have hu30 := Tryd.underlying30
  have HB := Aside0.mk (Below.refl w.heap.size w)
  have H : ((laws_toFl.f a0_0 a0_1 a0_2 a0_3).bind fun bt299 => ((spec_FlDy.f k bt299.1 bt299.2.1 bt299.2.2.1 bt299.2.2.2).bind fun bt303 => ((laws_toFl.f a0_0 a0_1 a0_2 a0_3).bind fun bt310 => ((impl_FlDy.f k bt310.1 bt310.2.1 bt310.2.2.1 bt310.2.2.2).bind fun bt314 => ((laws_eqDy.f k bt314.1 bt314.2.1 bt314.2.2.1 bt303.1 bt303.2.1 bt303.2.2.1).bind fun t321 => (if t321 = true then (laws_FnExactFlDy.j0 k bt303.2.2.2 (bt314.2.2.2 != bt303.2.2.2) a0_0 a0_1 a0_2 a0_3 bt303.1 bt303.2.1 bt303.2.2.1 bt314.1 bt314.2.1 bt314.2.2.1) else (laws_FnExactFlDy.j0 k bt303.2.2.2 true a0_0 a0_1 a0_2 a0_3 bt303.1 bt303.2.1 bt303.2.2.1 bt314.1 bt314.2.1 bt314.2.2.1))))))) = some r := h
  clear h
  replace H := Option.bind_eq_some_iff.mp H
  obtain ⟨⟨t299, t300, t301, t302⟩, A20, H⟩ := H
  replace H : ((spec_FlDy.f k t299 t300 t301 t302).bind fun bt303 => ((laws_toFl.f a0_0 a0_1 a0_2 a0_3).bind fun bt310 => ((impl_FlDy.f k bt310.1 bt310.2.1 bt310.2.2.1 bt310.2.2.2).bind fun bt314 => ((laws_eqDy.f k bt314.1 bt314.2.1 bt314.2.2.1 bt303.1 bt303.2.1 bt303.2.2.1).bind fun t321 => (if t321 = true then (laws_FnExactFlDy.j0 k bt303.2.2.2 (bt314.2.2.2 != bt303.2.2.2) a0_0 a0_1 a0_2 a0_3 bt303.1 bt303.2.1 bt303.2.2.1 bt314.1 bt314.2.1 bt314.2.2.1) else (laws_FnExactFlDy.j0 k bt303.2.2.2 true a0_0 a0_1 a0_2 a0_3 bt303.1 bt303.2.1 bt303.2.2.1 bt314.1 bt314.2.1 bt314.2.2.1)))))) = some r := H
  have A2 := Aside0.mk A20
  clear A20
  replace H := Option.bind_eq_some_iff.mp H
  obtain ⟨⟨t303, t304, t307, t308⟩, A30, H⟩ := H
  replace H : ((laws_toFl.f a0_0 a0_1 a0_2 a0_3).bind fun bt310 => ((impl_FlDy.f k bt310.1 bt310.2.1 bt310.2.2.1 bt310.2.2.2).bind fun bt314 => ((laws_eqDy.f k bt314.1 bt314.2.1 bt314.2.2.1 t303 t304 t307).bind fun t321 => (if t321 = true then (laws_FnExactFlDy.j0 k t308 (bt314.2.2.2 != t308) a0_0 a0_1 a0_2 a0_3 t303 t304 t307 bt314.1 bt314.2.1 bt314.2.2.1) else (laws_FnExactFlDy.j0 k t308 true a0_0 a0_1 a0_2 a0_3 t303 t304 t307 bt314.1 bt314.2.1 bt314.2.2.1))))) = some r := H
  have A3 := Aside0.mk A30
  clear A30
  replace H := Option.bind_eq_some_iff.mp H
  obtain ⟨⟨t310, t311, t312, t313⟩, A40, H⟩ := H
  replace H : ((impl_FlDy.f k t310 t311 t312 t313).bind fun bt314 => ((laws_eqDy.f k bt314.1 bt314.2.1 bt314.2.2.1 t303 t304 t307).bind fun t321 => (if t321 = true then (laws_FnExactFlDy.j0 k t308 (bt314.2.2.2 != t308) a0_0 a0_1 a0_2 a0_3 t303 t304 t307 bt314.1 bt314.2.1 bt314.2.2.1) else (laws_FnExactFlDy.j0 k t308 true a0_0 a0_1 a0_2 a0_3 t303 t304 t307 bt314.1 bt314.2.1 bt314.2.2.1)))) = some r := H
  have A4 := Aside0.mk A40
  clear A40
  replace H := Option.bind_eq_some_iff.mp H
  obtain ⟨⟨t314, t315, t318, t319⟩, A50, H⟩ := H
  replace H : ((laws_eqDy.f k t314 t315 t318 t303 t304 t307).bind fun t321 => (if t321 = true then (laws_FnExactFlDy.j0 k t308 (t319 != t308) a0_0 a0_1 a0_2 a0_3 t303 t304 t307 t314 t315 t318) else (laws_FnExactFlDy.j0 k t308 true a0_0 a0_1 a0_2 a0_3 t303 t304 t307 t314 t315 t318))) = some r := H
  have A5 := Aside0.mk A50
  clear A50
  have HC6 := Aside0.mk H
  clear H
  go_enter Tryd.func3, Tryd.ntmps3
  go_upto_region 3 with (first | ((with_reducible refine gate_dst (N := 1) rfl ?_); refine box_event ?hg (N := 1) ?hd (cs := #[.int .i64 a0_0, .bool a0_1, .int .i64 a0_2, .int .i64 a0_3]) (t := 23) ?hr ?_; (case hd => rfl); (case hg => rfl); (case hr => first | (go_simp; done) | (go_simp; rfl)); intro gb298 hg w7 hbox hb; have n0_ := Aside0.mk (below_step (hkS HB) hb); have n1_ := Aside0.mk (hbox); have n2_ := hkG hg (hkS HB); have n3_ := hkG hg (hkS HB); clear HB; have HB := n0_; have BK298 := n1_; have GW298 := n2_; have GE298 := n3_; clear n0_ n1_ n2_ n3_; clear hb hbox hg; have hcz8_0 : w7.cell? ⟨gb298, 0, none⟩ = some (.int .i64 a0_0) := (blk_cell BK298.out 0).trans rfl; have hcz8_1 : w7.cell? ⟨gb298, 1, none⟩ = some (.bool a0_1) := (blk_cell BK298.out 1).trans rfl; have hcz8_2 : w7.cell? ⟨gb298, 2, none⟩ = some (.int .i64 a0_2) := (blk_cell BK298.out 2).trans rfl; have hcz8_3 : w7.cell? ⟨gb298, 3, none⟩ = some (.int .i64 a0_3) := (blk_cell BK298.out 3).trans rfl; have hfz8_0 := blk_frozen BK298.out 0; have hfz8_1 := blk_frozen BK298.out 1; have hfz8_2 := blk_frozen BK298.out 2; have hfz8_3 := blk_frozen BK298.out 3) | ((with_reducible refine gate_callee (f := 9) rfl ?_); refine goesL_ (some 13) rfl rfl Tryd.func9 (by kernel_rfl) rfl #[.agg #[.int .i64 a0_0, .bool a0_1, .int .i64 a0_2, .int .i64 a0_3]] rfl hkL ?_; (with_reducible refine (laws_toFl.calls a0_0 a0_1 a0_2 a0_3 t299 t300 t301 t302 _ A2.out).mono ?_); rintro e w9 ⟨rfl, hb⟩; refine ⟨_, rfl, ?_⟩; have n0_ := hkBb BK298 hb; have n1_ := Aside0.mk (below_step (hkS HB) hb); clear BK298; clear HB; have BK298 := n0_; have HB := n1_; clear n0_ n1_; (try clear hb); (try clear hb2); (try clear hk); (try clear hi)) | ((with_reducible refine gate_callee (f := 8) rfl ?_); refine goesL_ (some 14) rfl rfl Tryd.func8 (by kernel_rfl) rfl #[.agg #[.int .i64 t299, .bool t300, .int .i64 t301, .int .i64 t302]] rfl hkL ?_; (with_reducible refine (spec_FlDy.calls k t299 t300 t301 t302 t303 t304 t307 t308 _ A3.out).mono ?_); rintro e w10 ⟨v305, rfl, ho0, hb⟩; refine ⟨_, rfl, ?_⟩; have n0_ := Aside0.mk (Kd.R_lower ho0 (below_size (hkS HB))); have n1_ := hkBb BK298 hb; have n2_ := Aside0.mk (below_step (hkS HB) hb); clear BK298; clear HB; have HO306 := n0_; have BK298 := n1_; have HB := n2_; clear n0_ n1_ n2_; (try clear hb); (try clear hb2); (try clear hk); (try clear hi); (try clear ho0)) | ((with_reducible refine gate_dst (N := 3) rfl ?_); refine box_event ?hg (N := 3) ?hd (cs := #[.bool false, .slice none 0 0, .int .i64 0]) (t := 30) ?hr ?_; (case hd => rfl); (case hg => rfl); (case hr => first | (go_simp; done) | (go_simp; rfl)); intro gb309 hg w11 hbox hb; have n0_ := hkRb HO306 hb; have n1_ := hkBb BK298 hb; have n2_ := Aside0.mk (below_step (hkS HB) hb); have n3_ := Aside0.mk (hbox); have n4_ := hkG hg (hkS HB); have n5_ := hkG hg (hkS HB); have n6_ := hkN hg BK298; have n7_ := hkM hg BK298; clear HO306; clear BK298; clear HB; have HO306 := n0_; have BK298 := n1_; have HB := n2_; have BK309 := n3_; have GW309 := n4_; have GE309 := n5_; have NB298_309 := n6_; have NB309_298 := n7_; clear n0_ n1_ n2_ n3_ n4_ n5_ n6_ n7_; clear hb hbox hg; have hnb12 := NB309_298.out; have hnc12 := NB298_309.out; have hcz13_0 : w11.cell? ⟨gb309, 0, none⟩ = some (.bool false) := (blk_cell BK309.out 0).trans rfl; have hcz13_1 : w11.cell? ⟨gb309, 1, none⟩ = some (.slice none 0 0) := (blk_cell BK309.out 1).trans rfl; have hcz13_2 : w11.cell? ⟨gb309, 2, none⟩ = some (.int .i64 0) := (blk_cell BK309.out 2).trans rfl; have hfz13_0 := blk_frozen BK309.out 0; have hfz13_1 := blk_frozen BK309.out 1; have hfz13_2 := blk_frozen BK309.out 2; obtain ⟨Ao14, co14, eo14⟩ := Kd.R_slice HO306.out; subst eo14; have hcz15_0 : w11.cell? ⟨gb298, 0, none⟩ = some (.int .i64 a0_0) := (blk_cell BK298.out 0).trans rfl; have hcz15_1 : w11.cell? ⟨gb298, 1, none⟩ = some (.bool a0_1) := (blk_cell BK298.out 1).trans rfl; have hcz15_2 : w11.cell? ⟨gb298, 2, none⟩ = some (.int .i64 a0_2) := (blk_cell BK298.out 2).trans rfl; have hcz15_3 : w11.cell? ⟨gb298, 3, none⟩ = some (.int .i64 a0_3) := (blk_cell BK298.out 3).trans rfl; have hfz15_0 := blk_frozen BK298.out 0; have hfz15_1 := blk_frozen BK298.out 1; have hfz15_2 := blk_frozen BK298.out 2; have hfz15_3 := blk_frozen BK298.out 3) | ((with_reducible refine gate_callee (f := 9) rfl ?_); refine goesL_ (some 19) rfl rfl Tryd.func9 (by kernel_rfl) rfl #[.agg #[.int .i64 a0_0, .bool a0_1, .int .i64 a0_2, .int .i64 a0_3]] rfl hkL ?_; (with_reducible refine (laws_toFl.calls a0_0 a0_1 a0_2 a0_3 t310 t311 t312 t313 _ A4.out).mono ?_); rintro e w16 ⟨rfl, hb⟩; refine ⟨_, rfl, ?_⟩; have n0_ := Aside0.mk (Kd.R_below (by (with_reducible repeat (first | apply Kd.R_alloc | apply Kd.R_drewN | apply Kd.R_drew)); exact (Kd.R_mono (Kd.R_far (p := ⟨gb309, 2, none⟩) (Kd.R_far (p := ⟨gb309, 1, none⟩) (Kd.R_far (p := ⟨gb309, 0, none⟩) (Kd.R_types HO306.out BK309.out (by decide)) (fun _ hk => hk.2) (.bool t303)) (fun _ hk => hk.2) (.slice Ao14 t304.length co14)) (fun _ hk => hk.2) (.int .i64 t307)) (fun _ h_ => h_.1))) hb); have n1_ := Aside0.mk (blk_below (g := gb298) (o := .cells #[.int .i64 a0_0, .bool a0_1, .int .i64 a0_2, .int .i64 a0_3] 23 (0, 0)) (by (with_reducible repeat (first | refine blk_drewN ?_ _ | refine blk_drew ?_ | refine blk_alloc ?_ _)); refine blk_far ?_ NB298_309.out _; (with_reducible repeat (first | refine blk_drewN ?_ _ | refine blk_drew ?_ | refine blk_alloc ?_ _)); refine blk_far ?_ NB298_309.out _; (with_reducible repeat (first | refine blk_drewN ?_ _ | refine blk_drew ?_ | refine blk_alloc ?_ _)); refine blk_far ?_ NB298_309.out _; (with_reducible repeat (first | refine blk_drewN ?_ _ | refine blk_drew ?_ | refine blk_alloc ?_ _)); exact BK298.out) hb); have n2_ := Aside0.mk (blk_below (g := gb309) (o := .cells #[.bool t303, .slice Ao14 t304.length co14, .int .i64 t307] 30 (0, 0)) (by (with_reducible repeat (first | refine blk_drewN ?_ _ | refine blk_drew ?_ | refine blk_alloc ?_ _)); refine blk_put (cs := #[.bool t303, .slice Ao14 t304.length co14, .int .i64 0]) ?_ 2 _ rfl; (with_reducible repeat (first | refine blk_drewN ?_ _ | refine blk_drew ?_ | refine blk_alloc ?_ _)); refine blk_put (cs := #[.bool t303, .slice none 0 0, .int .i64 0]) ?_ 1 _ rfl; (with_reducible repeat (first | refine blk_drewN ?_ _ | refine blk_drew ?_ | refine blk_alloc ?_ _)); refine blk_put (cs := #[.bool false, .slice none 0 0, .int .i64 0]) ?_ 0 _ rfl; (with_reducible repeat (first | refine blk_drewN ?_ _ | refine blk_drew ?_ | refine blk_alloc ?_ _)); exact BK309.out) hb); have n3_ := Aside0.mk (below_step (hkS HB) hb); clear HO306; clear BK298; clear BK309; clear HB; have HO306 := n0_; have BK298 := n1_; have BK309 := n2_; have HB := n3_; clear n0_ n1_ n2_ n3_; (try clear hb); (try clear hb2); (try clear hk); (try clear hi)) | ((with_reducible refine gate_callee (f := 10) rfl ?_); refine goesL_ (some 20) rfl rfl Tryd.func10 (by kernel_rfl) rfl #[.agg #[.int .i64 t310, .bool t311, .int .i64 t312, .int .i64 t313]] rfl hkL ?_; (with_reducible refine (impl_FlDy.calls k t310 t311 t312 t313 t314 t315 t318 t319 _ A5.out).mono ?_); rintro e w17 ⟨v316, rfl, ho0, hb⟩; refine ⟨_, rfl, ?_⟩; have n0_ := Aside0.mk (Kd.R_elder' (hkR HO306) (Kd.R_base ho0) hb); have n1_ := Aside0.mk (Kd.R_lower (Kd.R_new' ho0 (Kd.R_lt (hkR HO306))) (below_size (hkS HB))); have n2_ := hkBb BK298 hb; have n3_ := hkBb BK309 hb; have n4_ := Aside0.mk (below_step (hkS HB) hb); clear HO306; clear BK298; clear BK309; clear HB; have HO306 := n0_; have HO317 := n1_; have BK298 := n2_; have BK309 := n3_; have HB := n4_; clear n0_ n1_ n2_ n3_ n4_; (try clear hb); (try clear hb2); (try clear hk); (try clear hi); (try clear ho0)) | ((with_reducible refine gate_dst (N := 5) rfl ?_); refine box_event ?hg (N := 5) ?hd (cs := #[.bool false, .slice none 0 0, .int .i64 0]) (t := 30) ?hr ?_; (case hd => rfl); (case hg => rfl); (case hr => first | (go_simp; done) | (go_simp; rfl)); intro gb320 hg w18 hbox hb; have n0_ := hkRb HO306 hb; have n1_ := hkRb HO317 hb; have n2_ := hkBb BK298 hb; have n3_ := hkBb BK309 hb; have n4_ := Aside0.mk (below_step (hkS HB) hb); have n5_ := Aside0.mk (hbox); have n6_ := hkG hg (hkS HB); have n7_ := hkG hg (hkS HB); have n8_ := hkN hg BK298; have n9_ := hkM hg BK298; have n10_ := hkN hg BK309; have n11_ := hkM hg BK309; clear HO306; clear HO317; clear BK298; clear BK309; clear HB; have HO306 := n0_; have HO317 := n1_; have BK298 := n2_; have BK309 := n3_; have HB := n4_; have BK320 := n5_; have GW320 := n6_; have GE320 := n7_; have NB298_320 := n8_; have NB320_298 := n9_; have NB309_320 := n10_; have NB320_309 := n11_; clear n0_ n1_ n2_ n3_ n4_ n5_ n6_ n7_ n8_ n9_ n10_ n11_; clear hb hbox hg; have hnb19 := NB320_298.out; have hnc19 := NB298_320.out; have hnb20 := NB320_309.out; have hnc20 := NB309_320.out; have hcz21_0 : w18.cell? ⟨gb320, 0, none⟩ = some (.bool false) := (blk_cell BK320.out 0).trans rfl; have hcz21_1 : w18.cell? ⟨gb320, 1, none⟩ = some (.slice none 0 0) := (blk_cell BK320.out 1).trans rfl; have hcz21_2 : w18.cell? ⟨gb320, 2, none⟩ = some (.int .i64 0) := (blk_cell BK320.out 2).trans rfl; have hfz21_0 := blk_frozen BK320.out 0; have hfz21_1 := blk_frozen BK320.out 1; have hfz21_2 := blk_frozen BK320.out 2; obtain ⟨Ao22, co22, eo22⟩ := Kd.R_slice HO317.out; subst eo22))
  (try simp only [Act.put, List.setIfInBounds_toArray, List.set_cons_zero, List.set_cons_succ])
  go_cut [31] (fun v31 wc => ∃ (kq : Nat) (x31_5 : Bool), v31 = .bool x31_5 ∧ Aside0 (laws_FnExactFlDy.j0 kq t308 x31_5 a0_0 a0_1 a0_2 a0_3 t303 t304 t307 t314 t315 t318 = some r) ∧ Aside0 (kq ≤ k) ∧ Aside0 (Kd.R (Kd.int .i64) 3 wc w.heap.size (fun k_ => some k_ ≠ ((.slice Ao22 t315.length co22) : Value).ownBlock) (.slice Ao14 t304.length co14) t304) ∧ Aside0 (Kd.R (Kd.int .i64) 3 wc w.heap.size (fun k_ => some k_ ≠ ((.slice Ao14 t304.length co14) : Value).ownBlock) (.slice Ao22 t315.length co22) t315) ∧ Aside0 (wc.heap[gb298]? = some (.cells #[.int .i64 a0_0, .bool a0_1, .int .i64 a0_2, .int .i64 a0_3] 23 (0, 0))) ∧ Aside0 (wc.heap[gb309]? = some (.cells #[.bool t303, (.slice Ao14 t304.length co14), .int .i64 t307] 30 (0, 0))) ∧ Aside0 (wc.heap[gb320]? = some (.cells #[.bool t314, (.slice Ao22 t315.length co22), .int .i64 t318] 30 (0, 0))) ∧ Aside0 (Below w.heap.size w wc))
  case first =>
    have H := HC6.out
    clear HC6
    replace H := Option.bind_eq_some_iff.mp H
    obtain ⟨t321, A230, H⟩ := H
    replace H : (if t321 = true then (laws_FnExactFlDy.j0 k t308 (t319 != t308) a0_0 a0_1 a0_2 a0_3 t303 t304 t307 t314 t315 t318) else (laws_FnExactFlDy.j0 k t308 true a0_0 a0_1 a0_2 a0_3 t303 t304 t307 t314 t315 t318)) = some r := H
    have A23 := Aside0.mk A230
    clear A230
    by_cases c24 : t321 = true
    · subst c24
      have H1 : (laws_FnExactFlDy.j0 k t308 (t319 != t308) a0_0 a0_1 a0_2 a0_3 t303 t304 t307 t314 t315 t318) = some r := by rw [if_pos rfl] at H; exact H
      clear H
      have H := H1
      clear H1
      have H' := Aside0.mk H
      clear H
      have hnb25 := NB320_298.out
      have hnc25 := NB298_320.out
      have hnb26 := NB320_309.out
      have hnc26 := NB309_320.out
      have hcz27_0 : w18.cell? ⟨gb320, 0, none⟩ = some (.bool false) := (blk_cell BK320.out 0).trans rfl
      have hcz27_1 : w18.cell? ⟨gb320, 1, none⟩ = some (.slice none 0 0) := (blk_cell BK320.out 1).trans rfl
      have hcz27_2 : w18.cell? ⟨gb320, 2, none⟩ = some (.int .i64 0) := (blk_cell BK320.out 2).trans rfl
      have hfz27_0 := blk_frozen BK320.out 0
      have hfz27_1 := blk_frozen BK320.out 1
      have hfz27_2 := blk_frozen BK320.out 2
      have hnb28 := NB309_298.out
      have hnc28 := NB298_309.out
      have hcz29_0 : w18.cell? ⟨gb309, 0, none⟩ = some (.bool t303) := (blk_cell BK309.out 0).trans rfl
      have hcz29_1 : w18.cell? ⟨gb309, 1, none⟩ = some (.slice Ao14 t304.length co14) := (blk_cell BK309.out 1).trans rfl
      have hcz29_2 : w18.cell? ⟨gb309, 2, none⟩ = some (.int .i64 t307) := (blk_cell BK309.out 2).trans rfl
      have hfz29_0 := blk_frozen BK309.out 0
      have hfz29_1 := blk_frozen BK309.out 1
      have hfz29_2 := blk_frozen BK309.out 2
      go_wp2_with (first | ((with_reducible refine gate_callee (f := 11) rfl ?_); refine goesL_ (some 25) rfl rfl Tryd.func11 (by kernel_rfl) rfl #[.agg #[.bool t314, .slice Ao22 t315.length co22, .int .i64 t318], .agg #[.bool t303, .slice Ao14 t304.length co14, .int .i64 t307]] rfl hkL ?_; (with_reducible refine (laws_eqDy.calls k t314 _ _ t315 t318 t303 _ _ t304 t307 true _ ?side1 ?side2 ?side3 ?side4 A23.out).mono ?_); (case side1 => refine (Kd.R_reads' (e := 3) (base := w.heap.size) (ok := fun k_ => (True ∧ some k_ ≠ (.slice Ao14 t304.length co14 : Value).ownBlock)) (n := t315.length) (c := co22) ?_).2.2; exact (by (with_reducible repeat (first | apply Kd.R_alloc | apply Kd.R_drewN | apply Kd.R_drew)); exact (Kd.R_mono (Kd.R_far (p := ⟨gb320, 2, none⟩) (Kd.R_far (p := ⟨gb320, 1, none⟩) (Kd.R_far (p := ⟨gb320, 0, none⟩) (Kd.R_types HO317.out BK320.out (by decide)) (fun _ hk => hk.2) (.bool t314)) (fun _ hk => hk.2) (.slice Ao22 t315.length co22)) (fun _ hk => hk.2) (.int .i64 t318)) (fun _ h_ => h_.1)))); (case side2 => exact (Kd.R_reads' HO317.out).2.1); (case side3 => refine (Kd.R_reads' (e := 3) (base := w.heap.size) (ok := fun k_ => (True ∧ some k_ ≠ (.slice Ao22 t315.length co22 : Value).ownBlock)) (n := t304.length) (c := co14) ?_).2.2; exact (by (with_reducible repeat (first | apply Kd.R_alloc | apply Kd.R_drewN | apply Kd.R_drew)); exact (Kd.R_mono (Kd.R_far (p := ⟨gb320, 2, none⟩) (Kd.R_far (p := ⟨gb320, 1, none⟩) (Kd.R_far (p := ⟨gb320, 0, none⟩) (Kd.R_types HO306.out BK320.out (by decide)) (fun _ hk => hk.2) (.bool t314)) (fun _ hk => hk.2) (.slice Ao22 t315.length co22)) (fun _ hk => hk.2) (.int .i64 t318)) (fun _ h_ => h_.1)))); (case side4 => exact (Kd.R_reads' HO306.out).2.1); rintro e w30 ⟨rfl, hb⟩; refine ⟨_, rfl, ?_⟩; have n0_ := Aside0.mk (Kd.R_below (by (with_reducible repeat (first | apply Kd.R_alloc | apply Kd.R_drewN | apply Kd.R_drew)); exact (Kd.R_mono (Kd.R_far (p := ⟨gb320, 2, none⟩) (Kd.R_far (p := ⟨gb320, 1, none⟩) (Kd.R_far (p := ⟨gb320, 0, none⟩) (Kd.R_types HO306.out BK320.out (by decide)) (fun _ hk => hk.2) (.bool t314)) (fun _ hk => hk.2) (.slice Ao22 t315.length co22)) (fun _ hk => hk.2) (.int .i64 t318)) (fun _ h_ => h_.1))) hb); have n1_ := Aside0.mk (Kd.R_below (by (with_reducible repeat (first | apply Kd.R_alloc | apply Kd.R_drewN | apply Kd.R_drew)); exact (Kd.R_mono (Kd.R_far (p := ⟨gb320, 2, none⟩) (Kd.R_far (p := ⟨gb320, 1, none⟩) (Kd.R_far (p := ⟨gb320, 0, none⟩) (Kd.R_types HO317.out BK320.out (by decide)) (fun _ hk => hk.2) (.bool t314)) (fun _ hk => hk.2) (.slice Ao22 t315.length co22)) (fun _ hk => hk.2) (.int .i64 t318)) (fun _ h_ => h_.1))) hb); have n2_ := Aside0.mk (blk_below (g := gb298) (o := .cells #[.int .i64 a0_0, .bool a0_1, .int .i64 a0_2, .int .i64 a0_3] 23 (0, 0)) (by (with_reducible repeat (first | refine blk_drewN ?_ _ | refine blk_drew ?_ | refine blk_alloc ?_ _)); refine blk_far ?_ NB298_320.out _; (with_reducible repeat (first | refine blk_drewN ?_ _ | refine blk_drew ?_ | refine blk_alloc ?_ _)); refine blk_far ?_ NB298_320.out _; (with_reducible repeat (first | refine blk_drewN ?_ _ | refine blk_drew ?_ | refine blk_alloc ?_ _)); refine blk_far ?_ NB298_320.out _; (with_reducible repeat (first | refine blk_drewN ?_ _ | refine blk_drew ?_ | refine blk_alloc ?_ _)); exact BK298.out) hb); have n3_ := Aside0.mk (blk_below (g := gb309) (o := .cells #[.bool t303, .slice Ao14 t304.length co14, .int .i64 t307] 30 (0, 0)) (by (with_reducible repeat (first | refine blk_drewN ?_ _ | refine blk_drew ?_ | refine blk_alloc ?_ _)); refine blk_far ?_ NB309_320.out _; (with_reducible repeat (first | refine blk_drewN ?_ _ | refine blk_drew ?_ | refine blk_alloc ?_ _)); refine blk_far ?_ NB309_320.out _; (with_reducible repeat (first | refine blk_drewN ?_ _ | refine blk_drew ?_ | refine blk_alloc ?_ _)); refine blk_far ?_ NB309_320.out _; (with_reducible repeat (first | refine blk_drewN ?_ _ | refine blk_drew ?_ | refine blk_alloc ?_ _)); exact BK309.out) hb); have n4_ := Aside0.mk (blk_below (g := gb320) (o := .cells #[.bool t314, .slice Ao22 t315.length co22, .int .i64 t318] 30 (0, 0)) (by (with_reducible repeat (first | refine blk_drewN ?_ _ | refine blk_drew ?_ | refine blk_alloc ?_ _)); refine blk_put (cs := #[.bool t314, .slice Ao22 t315.length co22, .int .i64 0]) ?_ 2 _ rfl; (with_reducible repeat (first | refine blk_drewN ?_ _ | refine blk_drew ?_ | refine blk_alloc ?_ _)); refine blk_put (cs := #[.bool t314, .slice none 0 0, .int .i64 0]) ?_ 1 _ rfl; (with_reducible repeat (first | refine blk_drewN ?_ _ | refine blk_drew ?_ | refine blk_alloc ?_ _)); refine blk_put (cs := #[.bool false, .slice none 0 0, .int .i64 0]) ?_ 0 _ rfl; (with_reducible repeat (first | refine blk_drewN ?_ _ | refine blk_drew ?_ | refine blk_alloc ?_ _)); exact BK320.out) hb); have n5_ := Aside0.mk (below_step (hkS HB) hb); clear HO306; clear HO317; clear BK298; clear BK309; clear BK320; clear HB; have HO306 := n0_; have HO317 := n1_; have BK298 := n2_; have BK309 := n3_; have BK320 := n4_; have HB := n5_; clear n0_ n1_ n2_ n3_ n4_ n5_; (try clear hb); (try clear hb2); (try clear hk); (try clear hi)))
      go_meet
      case rel => exact ⟨_, ((t319 != t308)), (by first | rfl | (simp; done) | (simp [*]; done)), H', ⟨by first | omega | exact Nat.le_refl _⟩, ⟨by (with_reducible repeat (first | apply Kd.R_alloc | apply Kd.R_drewN | apply Kd.R_drew)); exact Kd.R_mono HO306.out (fun _ hk => hk.2)⟩, ⟨by (with_reducible repeat (first | apply Kd.R_alloc | apply Kd.R_drewN | apply Kd.R_drew)); exact Kd.R_mono HO317.out (fun _ hk => hk.2)⟩, ⟨by (with_reducible repeat (first | refine blk_drewN ?_ _ | refine blk_drew ?_ | refine blk_alloc ?_ _)); exact BK298.out⟩, ⟨by (with_reducible repeat (first | refine blk_drewN ?_ _ | refine blk_drew ?_ | refine blk_alloc ?_ _)); exact BK309.out⟩, ⟨by (with_reducible repeat (first | refine blk_drewN ?_ _ | refine blk_drew ?_ | refine blk_alloc ?_ _)); exact BK320.out⟩, ⟨by repeat (first | (with_reducible first | exact HB.out | apply below_alloc | apply pw_below_drewN | apply below_drew1 | refine below_set ?_ GE298.out | refine below_set ?_ GE309.out | refine below_set ?_ GE320.out) | exact HB.out)⟩⟩
    · replace c24 := Bool.eq_false_iff.mpr c24
      subst c24
      have H1 : (laws_FnExactFlDy.j0 k t308 true a0_0 a0_1 a0_2 a0_3 t303 t304 t307 t314 t315 t318) = some r := by rw [if_neg (show ¬ (false = true) by decide)] at H; exact H
      clear H
      have H := H1
      clear H1
      have H' := Aside0.mk H
      clear H
      have hnb31 := NB320_298.out
      have hnc31 := NB298_320.out
      have hnb32 := NB320_309.out
      have hnc32 := NB309_320.out
      have hcz33_0 : w18.cell? ⟨gb320, 0, none⟩ = some (.bool false) := (blk_cell BK320.out 0).trans rfl
      have hcz33_1 : w18.cell? ⟨gb320, 1, none⟩ = some (.slice none 0 0) := (blk_cell BK320.out 1).trans rfl
      have hcz33_2 : w18.cell? ⟨gb320, 2, none⟩ = some (.int .i64 0) := (blk_cell BK320.out 2).trans rfl
      have hfz33_0 := blk_frozen BK320.out 0
      have hfz33_1 := blk_frozen BK320.out 1
      have hfz33_2 := blk_frozen BK320.out 2
      have hnb34 := NB309_298.out
      have hnc34 := NB298_309.out
      have hcz35_0 : w18.cell? ⟨gb309, 0, none⟩ = some (.bool t303) := (blk_cell BK309.out 0).trans rfl
      have hcz35_1 : w18.cell? ⟨gb309, 1, none⟩ = some (.slice Ao14 t304.length co14) := (blk_cell BK309.out 1).trans rfl
      have hcz35_2 : w18.cell? ⟨gb309, 2, none⟩ = some (.int .i64 t307) := (blk_cell BK309.out 2).trans rfl
      have hfz35_0 := blk_frozen BK309.out 0
      have hfz35_1 := blk_frozen BK309.out 1
      have hfz35_2 := blk_frozen BK309.out 2
      go_wp2_with (first | ((with_reducible refine gate_callee (f := 11) rfl ?_); refine goesL_ (some 25) rfl rfl Tryd.func11 (by kernel_rfl) rfl #[.agg #[.bool t314, .slice Ao22 t315.length co22, .int .i64 t318], .agg #[.bool t303, .slice Ao14 t304.length co14, .int .i64 t307]] rfl hkL ?_; (with_reducible refine (laws_eqDy.calls k t314 _ _ t315 t318 t303 _ _ t304 t307 false _ ?side1 ?side2 ?side3 ?side4 A23.out).mono ?_); (case side1 => refine (Kd.R_reads' (e := 3) (base := w.heap.size) (ok := fun k_ => (True ∧ some k_ ≠ (.slice Ao14 t304.length co14 : Value).ownBlock)) (n := t315.length) (c := co22) ?_).2.2; exact (by (with_reducible repeat (first | apply Kd.R_alloc | apply Kd.R_drewN | apply Kd.R_drew)); exact (Kd.R_mono (Kd.R_far (p := ⟨gb320, 2, none⟩) (Kd.R_far (p := ⟨gb320, 1, none⟩) (Kd.R_far (p := ⟨gb320, 0, none⟩) (Kd.R_types HO317.out BK320.out (by decide)) (fun _ hk => hk.2) (.bool t314)) (fun _ hk => hk.2) (.slice Ao22 t315.length co22)) (fun _ hk => hk.2) (.int .i64 t318)) (fun _ h_ => h_.1)))); (case side2 => exact (Kd.R_reads' HO317.out).2.1); (case side3 => refine (Kd.R_reads' (e := 3) (base := w.heap.size) (ok := fun k_ => (True ∧ some k_ ≠ (.slice Ao22 t315.length co22 : Value).ownBlock)) (n := t304.length) (c := co14) ?_).2.2; exact (by (with_reducible repeat (first | apply Kd.R_alloc | apply Kd.R_drewN | apply Kd.R_drew)); exact (Kd.R_mono (Kd.R_far (p := ⟨gb320, 2, none⟩) (Kd.R_far (p := ⟨gb320, 1, none⟩) (Kd.R_far (p := ⟨gb320, 0, none⟩) (Kd.R_types HO306.out BK320.out (by decide)) (fun _ hk => hk.2) (.bool t314)) (fun _ hk => hk.2) (.slice Ao22 t315.length co22)) (fun _ hk => hk.2) (.int .i64 t318)) (fun _ h_ => h_.1)))); (case side4 => exact (Kd.R_reads' HO306.out).2.1); rintro e w36 ⟨rfl, hb⟩; refine ⟨_, rfl, ?_⟩; have n0_ := Aside0.mk (Kd.R_below (by (with_reducible repeat (first | apply Kd.R_alloc | apply Kd.R_drewN | apply Kd.R_drew)); exact (Kd.R_mono (Kd.R_far (p := ⟨gb320, 2, none⟩) (Kd.R_far (p := ⟨gb320, 1, none⟩) (Kd.R_far (p := ⟨gb320, 0, none⟩) (Kd.R_types HO306.out BK320.out (by decide)) (fun _ hk => hk.2) (.bool t314)) (fun _ hk => hk.2) (.slice Ao22 t315.length co22)) (fun _ hk => hk.2) (.int .i64 t318)) (fun _ h_ => h_.1))) hb); have n1_ := Aside0.mk (Kd.R_below (by (with_reducible repeat (first | apply Kd.R_alloc | apply Kd.R_drewN | apply Kd.R_drew)); exact (Kd.R_mono (Kd.R_far (p := ⟨gb320, 2, none⟩) (Kd.R_far (p := ⟨gb320, 1, none⟩) (Kd.R_far (p := ⟨gb320, 0, none⟩) (Kd.R_types HO317.out BK320.out (by decide)) (fun _ hk => hk.2) (.bool t314)) (fun _ hk => hk.2) (.slice Ao22 t315.length co22)) (fun _ hk => hk.2) (.int .i64 t318)) (fun _ h_ => h_.1))) hb); have n2_ := Aside0.mk (blk_below (g := gb298) (o := .cells #[.int .i64 a0_0, .bool a0_1, .int .i64 a0_2, .int .i64 a0_3] 23 (0, 0)) (by (with_reducible repeat (first | refine blk_drewN ?_ _ | refine blk_drew ?_ | refine blk_alloc ?_ _)); refine blk_far ?_ NB298_320.out _; (with_reducible repeat (first | refine blk_drewN ?_ _ | refine blk_drew ?_ | refine blk_alloc ?_ _)); refine blk_far ?_ NB298_320.out _; (with_reducible repeat (first | refine blk_drewN ?_ _ | refine blk_drew ?_ | refine blk_alloc ?_ _)); refine blk_far ?_ NB298_320.out _; (with_reducible repeat (first | refine blk_drewN ?_ _ | refine blk_drew ?_ | refine blk_alloc ?_ _)); exact BK298.out) hb); have n3_ := Aside0.mk (blk_below (g := gb309) (o := .cells #[.bool t303, .slice Ao14 t304.length co14, .int .i64 t307] 30 (0, 0)) (by (with_reducible repeat (first | refine blk_drewN ?_ _ | refine blk_drew ?_ | refine blk_alloc ?_ _)); refine blk_far ?_ NB309_320.out _; (with_reducible repeat (first | refine blk_drewN ?_ _ | refine blk_drew ?_ | refine blk_alloc ?_ _)); refine blk_far ?_ NB309_320.out _; (with_reducible repeat (first | refine blk_drewN ?_ _ | refine blk_drew ?_ | refine blk_alloc ?_ _)); refine blk_far ?_ NB309_320.out _; (with_reducible repeat (first | refine blk_drewN ?_ _ | refine blk_drew ?_ | refine blk_alloc ?_ _)); exact BK309.out) hb); have n4_ := Aside0.mk (blk_below (g := gb320) (o := .cells #[.bool t314, .slice Ao22 t315.length co22, .int .i64 t318] 30 (0, 0)) (by (with_reducible repeat (first | refine blk_drewN ?_ _ | refine blk_drew ?_ | refine blk_alloc ?_ _)); refine blk_put (cs := #[.bool t314, .slice Ao22 t315.length co22, .int .i64 0]) ?_ 2 _ rfl; (with_reducible repeat (first | refine blk_drewN ?_ _ | refine blk_drew ?_ | refine blk_alloc ?_ _)); refine blk_put (cs := #[.bool t314, .slice none 0 0, .int .i64 0]) ?_ 1 _ rfl; (with_reducible repeat (first | refine blk_drewN ?_ _ | refine blk_drew ?_ | refine blk_alloc ?_ _)); refine blk_put (cs := #[.bool false, .slice none 0 0, .int .i64 0]) ?_ 0 _ rfl; (with_reducible repeat (first | refine blk_drewN ?_ _ | refine blk_drew ?_ | refine blk_alloc ?_ _)); exact BK320.out) hb); have n5_ := Aside0.mk (below_step (hkS HB) hb); clear HO306; clear HO317; clear BK298; clear BK309; clear BK320; clear HB; have HO306 := n0_; have HO317 := n1_; have BK298 := n2_; have BK309 := n3_; have BK320 := n4_; have HB := n5_; clear n0_ n1_ n2_ n3_ n4_ n5_; (try clear hb); (try clear hb2); (try clear hk); (try clear hi)))
      go_meet
      case rel => exact ⟨_, (true), (by first | rfl | (simp; done) | (simp [*]; done)), H', ⟨by first | omega | exact Nat.le_refl _⟩, ⟨by (with_reducible repeat (first | apply Kd.R_alloc | apply Kd.R_drewN | apply Kd.R_drew)); exact Kd.R_mono HO306.out (fun _ hk => hk.2)⟩, ⟨by (with_reducible repeat (first | apply Kd.R_alloc | apply Kd.R_drewN | apply Kd.R_drew)); exact Kd.R_mono HO317.out (fun _ hk => hk.2)⟩, ⟨by (with_reducible repeat (first | refine blk_drewN ?_ _ | refine blk_drew ?_ | refine blk_alloc ?_ _)); exact BK298.out⟩, ⟨by (with_reducible repeat (first | refine blk_drewN ?_ _ | refine blk_drew ?_ | refine blk_alloc ?_ _)); exact BK309.out⟩, ⟨by (with_reducible repeat (first | refine blk_drewN ?_ _ | refine blk_drew ?_ | refine blk_alloc ?_ _)); exact BK320.out⟩, ⟨by repeat (first | (with_reducible first | exact HB.out | apply below_alloc | apply pw_below_drewN | apply below_drew1 | refine below_set ?_ GE298.out | refine below_set ?_ GE309.out | refine below_set ?_ GE320.out) | exact HB.out)⟩⟩
  case rest =>
    clear HC6
    try clear c1
    try clear c2
    try clear p2
    try clear c3
    try clear c8
    try clear c9
    try clear c10
    try clear c11
    try clear c12
    try clear c19
    try clear c20
    try clear c24
    try clear c25
    try clear c26
    try clear c28
    try clear c31
    try clear c32
    try clear c34
    try clear hcz13_0
    try clear hcz13_1
    try clear hcz13_2
    try clear hcz15_0
    try clear hcz15_1
    try clear hcz15_2
    try clear hcz15_3
    try clear hcz21_0
    try clear hcz21_1
    try clear hcz21_2
    try clear hcz27_0
    try clear hcz27_1
    try clear hcz27_2
    try clear hcz29_0
    try clear hcz29_1
    try clear hcz29_2
    try clear hcz33_0
    try clear hcz33_1
    try clear hcz33_2
    try clear hcz35_0
    try clear hcz35_1
    try clear hcz35_2
    try clear hcz8_0
    try clear hcz8_1
    try clear hcz8_2
    try clear hcz8_3
    try clear hfz13_0
    try clear hfz13_1
    try clear hfz13_2
    try clear hfz15_0
    try clear hfz15_1
    try clear hfz15_2
    try clear hfz15_3
    try clear hfz21_0
    try clear hfz21_1
    try clear hfz21_2
    try clear hfz27_0
    try clear hfz27_1
    try clear hfz27_2
    try clear hfz29_0
    try clear hfz29_1
    try clear hfz29_2
    try clear hfz33_0
    try clear hfz33_1
    try clear hfz33_2
    try clear hfz35_0
    try clear hfz35_1
    try clear hfz35_2
    try clear hfz8_0
    try clear hfz8_1
    try clear hfz8_2
    try clear hfz8_3
    obtain ⟨kq, x31_5, rfl, HA, HJ5, HO_310001, HO_321001, BK298, BK309, BK320, HB⟩ := hcut
    cases kq with
    | zero => exact absurd HA.out (by simp [laws_FnExactFlDy.j0])
    | succ kj5 =>
      have H := HA.out
      clear HA
      simp only [laws_FnExactFlDy.j0] at H
      by_cases c37 : x31_5 = true
      · subst c37
        have H1 : (some false) = some r := by rw [if_pos rfl] at H; exact H
        clear H
        have H := H1
        clear H1
        obtain rfl := Option.some.inj H
        go_wp2
        go_ret
        exact ⟨by first | rfl | (simp [errW_none, errW_some] <;> rfl) | (simp [*, errW_none, errW_some] <;> rfl), by repeat (first | (with_reducible first | exact HB.out | apply below_alloc | apply pw_below_drewN | apply below_drew1 | refine below_set ?_ GE298.out | refine below_set ?_ GE309.out | refine below_set ?_ GE320.out) | exact HB.out)⟩
      · replace c37 := Bool.eq_false_iff.mpr c37
        subst c37
        have H1 : ((laws_markDy.f kj5 t314 t315 t318 1).bind fun bt322 => ((laws_heldDy.f kj5 t314 bt322.2 t318 1).bind fun t324 => (if t324 < 0 then (some false) else (if t324 = bt322.1 then ((laws_toFl.f a0_0 a0_1 a0_2 a0_3).bind fun bt325 => ((impl_FlDy.f kj5 bt325.1 bt325.2.1 bt325.2.2.1 bt325.2.2.2).bind fun bt329 => ((laws_eqDy.f kj5 bt329.1 bt329.2.1 bt329.2.2.1 t303 t304 t307).bind fun t336 => (if t336 = true then (laws_FnExactFlDy.j1 kj5 bt322.1 (bt329.2.2.2 != t308) t314 bt322.2 t318) else (laws_FnExactFlDy.j1 kj5 bt322.1 true t314 bt322.2 t318))))) else (some false))))) = some r := by rw [if_neg (show ¬ (false = true) by decide)] at H; exact H
        clear H
        have H := H1
        clear H1
        replace H := Option.bind_eq_some_iff.mp H
        obtain ⟨⟨t322, t323⟩, A380, H⟩ := H
        replace H : ((laws_heldDy.f kj5 t314 t323 t318 1).bind fun t324 => (if t324 < 0 then (some false) else (if t324 = t322 then ((laws_toFl.f a0_0 a0_1 a0_2 a0_3).bind fun bt325 => ((impl_FlDy.f kj5 bt325.1 bt325.2.1 bt325.2.2.1 bt325.2.2.2).bind fun bt329 => ((laws_eqDy.f kj5 bt329.1 bt329.2.1 bt329.2.2.1 t303 t304 t307).bind fun t336 => (if t336 = true then (laws_FnExactFlDy.j1 kj5 t322 (bt329.2.2.2 != t308) t314 t323 t318) else (laws_FnExactFlDy.j1 kj5 t322 true t314 t323 t318))))) else (some false)))) = some r := H
        have A38 := Aside0.mk A380
        clear A380
        replace H := Option.bind_eq_some_iff.mp H
        obtain ⟨t324, A390, H⟩ := H
        replace H : (if t324 < 0 then (some false) else (if t324 = t322 then ((laws_toFl.f a0_0 a0_1 a0_2 a0_3).bind fun bt325 => ((impl_FlDy.f kj5 bt325.1 bt325.2.1 bt325.2.2.1 bt325.2.2.2).bind fun bt329 => ((laws_eqDy.f kj5 bt329.1 bt329.2.1 bt329.2.2.1 t303 t304 t307).bind fun t336 => (if t336 = true then (laws_FnExactFlDy.j1 kj5 t322 (bt329.2.2.2 != t308) t314 t323 t318) else (laws_FnExactFlDy.j1 kj5 t322 true t314 t323 t318))))) else (some false))) = some r := H
        have A39 := Aside0.mk A390
        clear A390
        by_cases c40 : t324 < 0
        · rw [if_pos c40] at H
          have c40b0 : decide (t324 < 0) = true := decide_eq_true c40
          clear c40
          obtain rfl := Option.some.inj H
          have hnb41 := NB320_298.out
          have hnc41 := NB298_320.out
          have hnb42 := NB320_309.out
          have hnc42 := NB309_320.out
          have hcz43_0 : wc.cell? ⟨gb320, 0, none⟩ = some (.bool t314) := (blk_cell BK320.out 0).trans rfl
          have hcz43_1 : wc.cell? ⟨gb320, 1, none⟩ = some (.slice Ao22 t315.length co22) := (blk_cell BK320.out 1).trans rfl
          have hcz43_2 : wc.cell? ⟨gb320, 2, none⟩ = some (.int .i64 t318) := (blk_cell BK320.out 2).trans rfl
          have hfz43_0 := blk_frozen BK320.out 0
          have hfz43_1 := blk_frozen BK320.out 1
          have hfz43_2 := blk_frozen BK320.out 2
          go_wp2_with (first | ((with_reducible refine gate_callee (f := 12) rfl ?_); refine goesL_ (some 34) rfl rfl Tryd.func12 (by kernel_rfl) rfl #[.agg #[.bool t314, .slice Ao22 t315.length co22, .int .i64 t318], .int .i64 1] rfl hkL ?_; (with_reducible refine (laws_markDy.calls kj5 t314 (fun k_ => some k_ = (.slice Ao22 t315.length co22 : Value).ownBlock) (.slice Ao22 t315.length co22) t315 t318 1 t322 t323 w _ ?side1 ?side2 A38.out).mono ?_); (case side1 => repeat (first | (with_reducible first | exact HB.out | apply below_alloc | apply pw_below_drewN | apply below_drew1 | refine below_set ?_ GE298.out | refine below_set ?_ GE309.out | refine below_set ?_ GE320.out) | exact HB.out)); (case side2 => exact Kd.R_tight rfl HO_321001.out); rintro e w44 ⟨rfl, hy0, hb, hkp⟩; refine ⟨_, rfl, ?_⟩; have n0_ := Aside0.mk (Kd.R_mono (ok' := fun k_ => some k_ ≠ (.slice Ao22 t315.length co22 : Value).ownBlock) (Kd.R_keptB (HO_310001.out) hkp (fun k_ hk_ hs_ => (hk_) hs_)) (fun k_ hk_ => hk_.1)); have n1_ := Aside0.mk (Kd.R_reok rfl hy0 (fun k_ e_ => HO_321001.out.1 k_ e_)); have n2_ := Aside0.mk (blk_kept (hkB BK298) hkp (fun hs_ => (fun e_ => (Kd.R_ne HO_321001.out BK298.out (by decide)) e_) hs_)); have n3_ := Aside0.mk (blk_kept (hkB BK309) hkp (fun hs_ => (fun e_ => (Kd.R_ne HO_321001.out BK309.out (by decide)) e_) hs_)); have n4_ := Aside0.mk (blk_kept (hkB BK320) hkp (fun hs_ => (fun e_ => (Kd.R_ne HO_321001.out BK320.out (by decide)) e_) hs_)); have n5_ := Aside0.mk (hb); clear HO_310001; clear HO_321001; clear BK298; clear BK309; clear BK320; clear HB; have HO_310001 := n0_; have HO_321001 := n1_; have BK298 := n2_; have BK309 := n3_; have BK320 := n4_; have HB := n5_; clear n0_ n1_ n2_ n3_ n4_ n5_; (try clear hb); (try clear hkp); (try clear hy0); have hcz45_0 : w44.cell? ⟨gb320, 0, none⟩ = some (.bool t314) := (blk_cell BK320.out 0).trans rfl; have hcz45_1 : w44.cell? ⟨gb320, 1, none⟩ = some (.slice Ao22 t315.length co22) := (blk_cell BK320.out 1).trans rfl; have hcz45_2 : w44.cell? ⟨gb320, 2, none⟩ = some (.int .i64 t318) := (blk_cell BK320.out 2).trans rfl; have hfz45_0 := blk_frozen BK320.out 0; have hfz45_1 := blk_frozen BK320.out 1; have hfz45_2 := blk_frozen BK320.out 2) | ((with_reducible refine gate_callee (f := 13) rfl ?_); refine goesL_ (some 37) rfl rfl Tryd.func13 (by kernel_rfl) rfl #[.agg #[.bool t314, .slice Ao22 t323.length co22, .int .i64 t318], .int .i64 1] rfl (by (try simp only [List.map_toArray, List.map_cons, List.map_nil]); first | done | (rw [show t323.length = t315.length from (Kd.R_reads' HO_321001.out).1.symm] <;> rfl) | rfl | (simp only [List.length_drop, List.length_take]; rfl)) ?_; (with_reducible refine (laws_heldDy.calls kj5 t314 _ _ t323 t318 1 t324 _ ?side1 ?side2 A39.out).mono ?_); (case side1 => repeat (first | exact (Kd.R_reads' HO_321001.out).2.2 | (with_reducible refine Kd.C_alloc ?_ _) | (with_reducible refine Kd.C_drewN ?_ _) | (with_reducible refine Kd.C_drew ?_))); (case side2 => rw [show t323.length = t315.length from (Kd.R_reads' HO_321001.out).1.symm]; exact (Kd.R_reads' HO_321001.out).2.1); rintro e w46 ⟨rfl, hb⟩; refine ⟨_, rfl, ?_⟩; have n0_ := hkRb HO_310001 hb; have n1_ := hkRb HO_321001 hb; have n2_ := hkBb BK298 hb; have n3_ := hkBb BK309 hb; have n4_ := hkBb BK320 hb; have n5_ := Aside0.mk (below_step (hkS HB) hb); clear HO_310001; clear HO_321001; clear BK298; clear BK309; clear BK320; clear HB; have HO_310001 := n0_; have HO_321001 := n1_; have BK298 := n2_; have BK309 := n3_; have BK320 := n4_; have HB := n5_; clear n0_ n1_ n2_ n3_ n4_ n5_; (try clear hb); (try clear hb2); (try clear hk); (try clear hi)))
          go_ret
          exact ⟨by first | rfl | (simp [errW_none, errW_some] <;> rfl) | (simp [*, errW_none, errW_some] <;> rfl), by repeat (first | (with_reducible first | exact HB.out | apply below_alloc | apply pw_below_drewN | apply below_drew1 | refine below_set ?_ GE298.out | refine below_set ?_ GE309.out | refine below_set ?_ GE320.out) | exact HB.out)⟩
        · rw [if_neg c40] at H
          have c40b0 : decide (t324 < 0) = false := decide_eq_false c40
          clear c40
          by_cases c47 : t324 = t322
          · rw [if_pos c47] at H
            have c47b0 : (t324 == t322) = true := beq_iff_eq.mpr c47
            have c47b1 : (t324 != t322) = false := bne_eq_false_iff_eq.mpr c47
            clear c47
            replace H := Option.bind_eq_some_iff.mp H
            obtain ⟨⟨t325, t326, t327, t328⟩, A480, H⟩ := H
            replace H : ((impl_FlDy.f kj5 t325 t326 t327 t328).bind fun bt329 => ((laws_eqDy.f kj5 bt329.1 bt329.2.1 bt329.2.2.1 t303 t304 t307).bind fun t336 => (if t336 = true then (laws_FnExactFlDy.j1 kj5 t322 (bt329.2.2.2 != t308) t314 t323 t318) else (laws_FnExactFlDy.j1 kj5 t322 true t314 t323 t318)))) = some r := H
            have A48 := Aside0.mk A480
            clear A480
            replace H := Option.bind_eq_some_iff.mp H
            obtain ⟨⟨t329, t330, t333, t334⟩, A490, H⟩ := H
            replace H : ((laws_eqDy.f kj5 t329 t330 t333 t303 t304 t307).bind fun t336 => (if t336 = true then (laws_FnExactFlDy.j1 kj5 t322 (t334 != t308) t314 t323 t318) else (laws_FnExactFlDy.j1 kj5 t322 true t314 t323 t318))) = some r := H
            have A49 := Aside0.mk A490
            clear A490
            have HC50 := Aside0.mk H
            clear H
            have hnb51 := NB320_298.out
            have hnc51 := NB298_320.out
            have hnb52 := NB320_309.out
            have hnc52 := NB309_320.out
            have hcz53_0 : wc.cell? ⟨gb320, 0, none⟩ = some (.bool t314) := (blk_cell BK320.out 0).trans rfl
            have hcz53_1 : wc.cell? ⟨gb320, 1, none⟩ = some (.slice Ao22 t315.length co22) := (blk_cell BK320.out 1).trans rfl
            have hcz53_2 : wc.cell? ⟨gb320, 2, none⟩ = some (.int .i64 t318) := (blk_cell BK320.out 2).trans rfl
            have hfz53_0 := blk_frozen BK320.out 0
            have hfz53_1 := blk_frozen BK320.out 1
            have hfz53_2 := blk_frozen BK320.out 2
            go_upto_region 14 with (first | ((with_reducible refine gate_callee (f := 12) rfl ?_); refine goesL_ (some 34) rfl rfl Tryd.func12 (by kernel_rfl) rfl #[.agg #[.bool t314, .slice Ao22 t315.length co22, .int .i64 t318], .int .i64 1] rfl hkL ?_; (with_reducible refine (laws_markDy.calls kj5 t314 (fun k_ => some k_ = (.slice Ao22 t315.length co22 : Value).ownBlock) (.slice Ao22 t315.length co22) t315 t318 1 t322 t323 w _ ?side1 ?side2 A38.out).mono ?_); (case side1 => repeat (first | (with_reducible first | exact HB.out | apply below_alloc | apply pw_below_drewN | apply below_drew1 | refine below_set ?_ GE298.out | refine below_set ?_ GE309.out | refine below_set ?_ GE320.out) | exact HB.out)); (case side2 => exact Kd.R_tight rfl HO_321001.out); rintro e w54 ⟨rfl, hy0, hb, hkp⟩; refine ⟨_, rfl, ?_⟩; have n0_ := Aside0.mk (Kd.R_mono (ok' := fun k_ => some k_ ≠ (.slice Ao22 t315.length co22 : Value).ownBlock) (Kd.R_keptB (HO_310001.out) hkp (fun k_ hk_ hs_ => (hk_) hs_)) (fun k_ hk_ => hk_.1)); have n1_ := Aside0.mk (Kd.R_reok rfl hy0 (fun k_ e_ => HO_321001.out.1 k_ e_)); have n2_ := Aside0.mk (blk_kept (hkB BK298) hkp (fun hs_ => (fun e_ => (Kd.R_ne HO_321001.out BK298.out (by decide)) e_) hs_)); have n3_ := Aside0.mk (blk_kept (hkB BK309) hkp (fun hs_ => (fun e_ => (Kd.R_ne HO_321001.out BK309.out (by decide)) e_) hs_)); have n4_ := Aside0.mk (blk_kept (hkB BK320) hkp (fun hs_ => (fun e_ => (Kd.R_ne HO_321001.out BK320.out (by decide)) e_) hs_)); have n5_ := Aside0.mk (hb); clear HO_310001; clear HO_321001; clear BK298; clear BK309; clear BK320; clear HB; have HO_310001 := n0_; have HO_321001 := n1_; have BK298 := n2_; have BK309 := n3_; have BK320 := n4_; have HB := n5_; clear n0_ n1_ n2_ n3_ n4_ n5_; (try clear hb); (try clear hkp); (try clear hy0); have hcz55_0 : w54.cell? ⟨gb320, 0, none⟩ = some (.bool t314) := (blk_cell BK320.out 0).trans rfl; have hcz55_1 : w54.cell? ⟨gb320, 1, none⟩ = some (.slice Ao22 t315.length co22) := (blk_cell BK320.out 1).trans rfl; have hcz55_2 : w54.cell? ⟨gb320, 2, none⟩ = some (.int .i64 t318) := (blk_cell BK320.out 2).trans rfl; have hfz55_0 := blk_frozen BK320.out 0; have hfz55_1 := blk_frozen BK320.out 1; have hfz55_2 := blk_frozen BK320.out 2) | ((with_reducible refine gate_callee (f := 13) rfl ?_); refine goesL_ (some 37) rfl rfl Tryd.func13 (by kernel_rfl) rfl #[.agg #[.bool t314, .slice Ao22 t323.length co22, .int .i64 t318], .int .i64 1] rfl (by (try simp only [List.map_toArray, List.map_cons, List.map_nil]); first | done | (rw [show t323.length = t315.length from (Kd.R_reads' HO_321001.out).1.symm] <;> rfl) | rfl | (simp only [List.length_drop, List.length_take]; rfl)) ?_; (with_reducible refine (laws_heldDy.calls kj5 t314 _ _ t323 t318 1 t324 _ ?side1 ?side2 A39.out).mono ?_); (case side1 => repeat (first | exact (Kd.R_reads' HO_321001.out).2.2 | (with_reducible refine Kd.C_alloc ?_ _) | (with_reducible refine Kd.C_drewN ?_ _) | (with_reducible refine Kd.C_drew ?_))); (case side2 => rw [show t323.length = t315.length from (Kd.R_reads' HO_321001.out).1.symm]; exact (Kd.R_reads' HO_321001.out).2.1); rintro e w56 ⟨rfl, hb⟩; refine ⟨_, rfl, ?_⟩; have n0_ := hkRb HO_310001 hb; have n1_ := hkRb HO_321001 hb; have n2_ := hkBb BK298 hb; have n3_ := hkBb BK309 hb; have n4_ := hkBb BK320 hb; have n5_ := Aside0.mk (below_step (hkS HB) hb); clear HO_310001; clear HO_321001; clear BK298; clear BK309; clear BK320; clear HB; have HO_310001 := n0_; have HO_321001 := n1_; have BK298 := n2_; have BK309 := n3_; have BK320 := n4_; have HB := n5_; clear n0_ n1_ n2_ n3_ n4_ n5_; (try clear hb); (try clear hb2); (try clear hk); (try clear hi); have hnb57 := NB298_309.out; have hnc57 := NB309_298.out; have hcz58_0 : w56.cell? ⟨gb298, 0, none⟩ = some (.int .i64 a0_0) := (blk_cell BK298.out 0).trans rfl; have hcz58_1 : w56.cell? ⟨gb298, 1, none⟩ = some (.bool a0_1) := (blk_cell BK298.out 1).trans rfl; have hcz58_2 : w56.cell? ⟨gb298, 2, none⟩ = some (.int .i64 a0_2) := (blk_cell BK298.out 2).trans rfl; have hcz58_3 : w56.cell? ⟨gb298, 3, none⟩ = some (.int .i64 a0_3) := (blk_cell BK298.out 3).trans rfl; have hfz58_0 := blk_frozen BK298.out 0; have hfz58_1 := blk_frozen BK298.out 1; have hfz58_2 := blk_frozen BK298.out 2; have hfz58_3 := blk_frozen BK298.out 3) | ((with_reducible refine gate_callee (f := 9) rfl ?_); refine goesL_ (some 45) rfl rfl Tryd.func9 (by kernel_rfl) rfl #[.agg #[.int .i64 a0_0, .bool a0_1, .int .i64 a0_2, .int .i64 a0_3]] rfl hkL ?_; (with_reducible refine (laws_toFl.calls a0_0 a0_1 a0_2 a0_3 t325 t326 t327 t328 _ A48.out).mono ?_); rintro e w59 ⟨rfl, hb⟩; refine ⟨_, rfl, ?_⟩; have n0_ := hkRb HO_310001 hb; have n1_ := hkRb HO_321001 hb; have n2_ := hkBb BK298 hb; have n3_ := hkBb BK309 hb; have n4_ := hkBb BK320 hb; have n5_ := Aside0.mk (below_step (hkS HB) hb); clear HO_310001; clear HO_321001; clear BK298; clear BK309; clear BK320; clear HB; have HO_310001 := n0_; have HO_321001 := n1_; have BK298 := n2_; have BK309 := n3_; have BK320 := n4_; have HB := n5_; clear n0_ n1_ n2_ n3_ n4_ n5_; (try clear hb); (try clear hb2); (try clear hk); (try clear hi)) | ((with_reducible refine gate_callee (f := 10) rfl ?_); refine goesL_ (some 46) rfl rfl Tryd.func10 (by kernel_rfl) rfl #[.agg #[.int .i64 t325, .bool t326, .int .i64 t327, .int .i64 t328]] rfl hkL ?_; (with_reducible refine (impl_FlDy.calls kj5 t325 t326 t327 t328 t329 t330 t333 t334 _ A49.out).mono ?_); rintro e w60 ⟨v331, rfl, ho0, hb⟩; refine ⟨_, rfl, ?_⟩; have n0_ := Aside0.mk (Kd.R_elder' (hkR HO_310001) (Kd.R_base ho0) hb); have n1_ := Aside0.mk (Kd.R_elder' (hkR HO_321001) (Kd.R_base ho0) hb); have n2_ := Aside0.mk (Kd.R_lower (Kd.R_new' (Kd.R_new' ho0 (Kd.R_lt (hkR HO_310001))) (Kd.R_lt (hkR HO_321001))) (below_size (hkS HB))); have n3_ := hkBb BK298 hb; have n4_ := hkBb BK309 hb; have n5_ := hkBb BK320 hb; have n6_ := Aside0.mk (below_step (hkS HB) hb); clear HO_310001; clear HO_321001; clear BK298; clear BK309; clear BK320; clear HB; have HO_310001 := n0_; have HO_321001 := n1_; have HO332 := n2_; have BK298 := n3_; have BK309 := n4_; have BK320 := n5_; have HB := n6_; clear n0_ n1_ n2_ n3_ n4_ n5_ n6_; (try clear hb); (try clear hb2); (try clear hk); (try clear hi); (try clear ho0)) | ((with_reducible refine gate_dst (N := 9) rfl ?_); refine box_event ?hg (N := 9) ?hd (cs := #[.bool false, .slice none 0 0, .int .i64 0]) (t := 30) ?hr ?_; (case hd => rfl); (case hg => rfl); (case hr => first | (go_simp; done) | (go_simp; rfl)); intro gb335 hg w61 hbox hb; have n0_ := hkRb HO_310001 hb; have n1_ := hkRb HO_321001 hb; have n2_ := hkRb HO332 hb; have n3_ := hkBb BK298 hb; have n4_ := hkBb BK309 hb; have n5_ := hkBb BK320 hb; have n6_ := Aside0.mk (below_step (hkS HB) hb); have n7_ := Aside0.mk (hbox); have n8_ := hkG hg (hkS HB); have n9_ := hkG hg (hkS HB); have n10_ := hkN hg BK298; have n11_ := hkM hg BK298; have n12_ := hkN hg BK309; have n13_ := hkM hg BK309; have n14_ := hkN hg BK320; have n15_ := hkM hg BK320; clear HO_310001; clear HO_321001; clear HO332; clear BK298; clear BK309; clear BK320; clear HB; have HO_310001 := n0_; have HO_321001 := n1_; have HO332 := n2_; have BK298 := n3_; have BK309 := n4_; have BK320 := n5_; have HB := n6_; have BK335 := n7_; have GW335 := n8_; have GE335 := n9_; have NB298_335 := n10_; have NB335_298 := n11_; have NB309_335 := n12_; have NB335_309 := n13_; have NB320_335 := n14_; have NB335_320 := n15_; clear n0_ n1_ n2_ n3_ n4_ n5_ n6_ n7_ n8_ n9_ n10_ n11_ n12_ n13_ n14_ n15_; clear hb hbox hg; have hnb62 := NB335_298.out; have hnc62 := NB298_335.out; have hnb63 := NB335_309.out; have hnc63 := NB309_335.out; have hnb64 := NB335_320.out; have hnc64 := NB320_335.out; have hcz65_0 : w61.cell? ⟨gb335, 0, none⟩ = some (.bool false) := (blk_cell BK335.out 0).trans rfl; have hcz65_1 : w61.cell? ⟨gb335, 1, none⟩ = some (.slice none 0 0) := (blk_cell BK335.out 1).trans rfl; have hcz65_2 : w61.cell? ⟨gb335, 2, none⟩ = some (.int .i64 0) := (blk_cell BK335.out 2).trans rfl; have hfz65_0 := blk_frozen BK335.out 0; have hfz65_1 := blk_frozen BK335.out 1; have hfz65_2 := blk_frozen BK335.out 2; obtain ⟨Ao66, co66, eo66⟩ := Kd.R_slice HO332.out; subst eo66))
            (try simp only [Act.put, List.setIfInBounds_toArray, List.set_cons_zero, List.set_cons_succ])
            go_cut [57] (fun v57 wc => ∃ (kq : Nat) (x57_49 : Bool), v57 = .bool x57_49 ∧ Aside0 (laws_FnExactFlDy.j1 kq t322 x57_49 t314 t323 t318 = some r) ∧ Aside0 (kq ≤ kj5) ∧ Aside0 (Kd.R (Kd.int .i64) 3 wc w.heap.size (fun k_ => some k_ ≠ ((.slice Ao22 t315.length co22) : Value).ownBlock ∧ some k_ ≠ ((.slice Ao66 t330.length co66) : Value).ownBlock) (.slice Ao14 t304.length co14) t304) ∧ Aside0 (Kd.R (Kd.int .i64) 3 wc w.heap.size (fun k_ => some k_ ≠ ((.slice Ao14 t304.length co14) : Value).ownBlock ∧ some k_ ≠ ((.slice Ao66 t330.length co66) : Value).ownBlock) (.slice Ao22 t315.length co22) t323) ∧ Aside0 (Kd.R (Kd.int .i64) 3 wc w.heap.size (fun k_ => some k_ ≠ ((.slice Ao14 t304.length co14) : Value).ownBlock ∧ some k_ ≠ ((.slice Ao22 t315.length co22) : Value).ownBlock) (.slice Ao66 t330.length co66) t330) ∧ Aside0 (wc.heap[gb298]? = some (.cells #[.int .i64 a0_0, .bool a0_1, .int .i64 a0_2, .int .i64 a0_3] 23 (0, 0))) ∧ Aside0 (wc.heap[gb309]? = some (.cells #[.bool t303, (.slice Ao14 t304.length co14), .int .i64 t307] 30 (0, 0))) ∧ Aside0 (wc.heap[gb320]? = some (.cells #[.bool t314, (.slice Ao22 t315.length co22), .int .i64 t318] 30 (0, 0))) ∧ Aside0 (wc.heap[gb335]? = some (.cells #[.bool t329, (.slice Ao66 t330.length co66), .int .i64 t333] 30 (0, 0))) ∧ Aside0 (Below w.heap.size w wc))
            case first =>
              have H := HC50.out
              clear HC50
              replace H := Option.bind_eq_some_iff.mp H
              obtain ⟨t336, A670, H⟩ := H
              replace H : (if t336 = true then (laws_FnExactFlDy.j1 kj5 t322 (t334 != t308) t314 t323 t318) else (laws_FnExactFlDy.j1 kj5 t322 true t314 t323 t318)) = some r := H
              have A67 := Aside0.mk A670
              clear A670
              by_cases c68 : t336 = true
              · subst c68
                have H1 : (laws_FnExactFlDy.j1 kj5 t322 (t334 != t308) t314 t323 t318) = some r := by rw [if_pos rfl] at H; exact H
                clear H
                have H := H1
                clear H1
                have H' := Aside0.mk H
                clear H
                have hnb69 := NB335_298.out
                have hnc69 := NB298_335.out
                have hnb70 := NB335_309.out
                have hnc70 := NB309_335.out
                have hnb71 := NB335_320.out
                have hnc71 := NB320_335.out
                have hcz72_0 : w61.cell? ⟨gb335, 0, none⟩ = some (.bool false) := (blk_cell BK335.out 0).trans rfl
                have hcz72_1 : w61.cell? ⟨gb335, 1, none⟩ = some (.slice none 0 0) := (blk_cell BK335.out 1).trans rfl
                have hcz72_2 : w61.cell? ⟨gb335, 2, none⟩ = some (.int .i64 0) := (blk_cell BK335.out 2).trans rfl
                have hfz72_0 := blk_frozen BK335.out 0
                have hfz72_1 := blk_frozen BK335.out 1
                have hfz72_2 := blk_frozen BK335.out 2
                have hnb73 := NB309_298.out
                have hnc73 := NB298_309.out
                have hnb74 := NB309_320.out
                have hnc74 := NB320_309.out
                have hcz75_0 : w61.cell? ⟨gb309, 0, none⟩ = some (.bool t303) := (blk_cell BK309.out 0).trans rfl
                have hcz75_1 : w61.cell? ⟨gb309, 1, none⟩ = some (.slice Ao14 t304.length co14) := (blk_cell BK309.out 1).trans rfl
                have hcz75_2 : w61.cell? ⟨gb309, 2, none⟩ = some (.int .i64 t307) := (blk_cell BK309.out 2).trans rfl
                have hfz75_0 := blk_frozen BK309.out 0
                have hfz75_1 := blk_frozen BK309.out 1
                have hfz75_2 := blk_frozen BK309.out 2
                go_wp2_with (first | ((with_reducible refine gate_callee (f := 11) rfl ?_); refine goesL_ (some 51) rfl rfl Tryd.func11 (by kernel_rfl) rfl #[.agg #[.bool t329, .slice Ao66 t330.length co66, .int .i64 t333], .agg #[.bool t303, .slice Ao14 t304.length co14, .int .i64 t307]] rfl hkL ?_; (with_reducible refine (laws_eqDy.calls kj5 t329 _ _ t330 t333 t303 _ _ t304 t307 true _ ?side1 ?side2 ?side3 ?side4 A67.out).mono ?_); (case side1 => refine (Kd.R_reads' (e := 3) (base := w.heap.size) (ok := fun k_ => ((True ∧ some k_ ≠ (.slice Ao14 t304.length co14 : Value).ownBlock) ∧ some k_ ≠ (.slice Ao22 t315.length co22 : Value).ownBlock)) (n := t330.length) (c := co66) ?_).2.2; exact (by (with_reducible repeat (first | apply Kd.R_alloc | apply Kd.R_drewN | apply Kd.R_drew)); exact (Kd.R_mono (Kd.R_far (p := ⟨gb335, 2, none⟩) (Kd.R_far (p := ⟨gb335, 1, none⟩) (Kd.R_far (p := ⟨gb335, 0, none⟩) (Kd.R_types HO332.out BK335.out (by decide)) (fun _ hk => hk.2) (.bool t329)) (fun _ hk => hk.2) (.slice Ao66 t330.length co66)) (fun _ hk => hk.2) (.int .i64 t333)) (fun _ h_ => h_.1)))); (case side2 => exact (Kd.R_reads' HO332.out).2.1); (case side3 => refine (Kd.R_reads' (e := 3) (base := w.heap.size) (ok := fun k_ => (some k_ ≠ (.slice Ao22 t315.length co22 : Value).ownBlock ∧ some k_ ≠ (.slice Ao66 t330.length co66 : Value).ownBlock)) (n := t304.length) (c := co14) ?_).2.2; exact (by (with_reducible repeat (first | apply Kd.R_alloc | apply Kd.R_drewN | apply Kd.R_drew)); exact (Kd.R_mono (Kd.R_far (p := ⟨gb335, 2, none⟩) (Kd.R_far (p := ⟨gb335, 1, none⟩) (Kd.R_far (p := ⟨gb335, 0, none⟩) (Kd.R_types HO_310001.out BK335.out (by decide)) (fun _ hk => hk.2) (.bool t329)) (fun _ hk => hk.2) (.slice Ao66 t330.length co66)) (fun _ hk => hk.2) (.int .i64 t333)) (fun _ h_ => h_.1)))); (case side4 => exact (Kd.R_reads' HO_310001.out).2.1); rintro e w76 ⟨rfl, hb⟩; refine ⟨_, rfl, ?_⟩; have n0_ := Aside0.mk (Kd.R_below (by (with_reducible repeat (first | apply Kd.R_alloc | apply Kd.R_drewN | apply Kd.R_drew)); exact (Kd.R_mono (Kd.R_far (p := ⟨gb335, 2, none⟩) (Kd.R_far (p := ⟨gb335, 1, none⟩) (Kd.R_far (p := ⟨gb335, 0, none⟩) (Kd.R_types HO_310001.out BK335.out (by decide)) (fun _ hk => hk.2) (.bool t329)) (fun _ hk => hk.2) (.slice Ao66 t330.length co66)) (fun _ hk => hk.2) (.int .i64 t333)) (fun _ h_ => h_.1))) hb); have n1_ := Aside0.mk (Kd.R_below (by (with_reducible repeat (first | apply Kd.R_alloc | apply Kd.R_drewN | apply Kd.R_drew)); exact (Kd.R_mono (Kd.R_far (p := ⟨gb335, 2, none⟩) (Kd.R_far (p := ⟨gb335, 1, none⟩) (Kd.R_far (p := ⟨gb335, 0, none⟩) (Kd.R_types HO_321001.out BK335.out (by decide)) (fun _ hk => hk.2) (.bool t329)) (fun _ hk => hk.2) (.slice Ao66 t330.length co66)) (fun _ hk => hk.2) (.int .i64 t333)) (fun _ h_ => h_.1))) hb); have n2_ := Aside0.mk (Kd.R_below (by (with_reducible repeat (first | apply Kd.R_alloc | apply Kd.R_drewN | apply Kd.R_drew)); exact (Kd.R_mono (Kd.R_far (p := ⟨gb335, 2, none⟩) (Kd.R_far (p := ⟨gb335, 1, none⟩) (Kd.R_far (p := ⟨gb335, 0, none⟩) (Kd.R_types HO332.out BK335.out (by decide)) (fun _ hk => hk.2) (.bool t329)) (fun _ hk => hk.2) (.slice Ao66 t330.length co66)) (fun _ hk => hk.2) (.int .i64 t333)) (fun _ h_ => h_.1))) hb); have n3_ := Aside0.mk (blk_below (g := gb298) (o := .cells #[.int .i64 a0_0, .bool a0_1, .int .i64 a0_2, .int .i64 a0_3] 23 (0, 0)) (by (with_reducible repeat (first | refine blk_drewN ?_ _ | refine blk_drew ?_ | refine blk_alloc ?_ _)); refine blk_far ?_ NB298_335.out _; (with_reducible repeat (first | refine blk_drewN ?_ _ | refine blk_drew ?_ | refine blk_alloc ?_ _)); refine blk_far ?_ NB298_335.out _; (with_reducible repeat (first | refine blk_drewN ?_ _ | refine blk_drew ?_ | refine blk_alloc ?_ _)); refine blk_far ?_ NB298_335.out _; (with_reducible repeat (first | refine blk_drewN ?_ _ | refine blk_drew ?_ | refine blk_alloc ?_ _)); exact BK298.out) hb); have n4_ := Aside0.mk (blk_below (g := gb309) (o := .cells #[.bool t303, .slice Ao14 t304.length co14, .int .i64 t307] 30 (0, 0)) (by (with_reducible repeat (first | refine blk_drewN ?_ _ | refine blk_drew ?_ | refine blk_alloc ?_ _)); refine blk_far ?_ NB309_335.out _; (with_reducible repeat (first | refine blk_drewN ?_ _ | refine blk_drew ?_ | refine blk_alloc ?_ _)); refine blk_far ?_ NB309_335.out _; (with_reducible repeat (first | refine blk_drewN ?_ _ | refine blk_drew ?_ | refine blk_alloc ?_ _)); refine blk_far ?_ NB309_335.out _; (with_reducible repeat (first | refine blk_drewN ?_ _ | refine blk_drew ?_ | refine blk_alloc ?_ _)); exact BK309.out) hb); have n5_ := Aside0.mk (blk_below (g := gb320) (o := .cells #[.bool t314, .slice Ao22 t315.length co22, .int .i64 t318] 30 (0, 0)) (by (with_reducible repeat (first | refine blk_drewN ?_ _ | refine blk_drew ?_ | refine blk_alloc ?_ _)); refine blk_far ?_ NB320_335.out _; (with_reducible repeat (first | refine blk_drewN ?_ _ | refine blk_drew ?_ | refine blk_alloc ?_ _)); refine blk_far ?_ NB320_335.out _; (with_reducible repeat (first | refine blk_drewN ?_ _ | refine blk_drew ?_ | refine blk_alloc ?_ _)); refine blk_far ?_ NB320_335.out _; (with_reducible repeat (first | refine blk_drewN ?_ _ | refine blk_drew ?_ | refine blk_alloc ?_ _)); exact BK320.out) hb); have n6_ := Aside0.mk (blk_below (g := gb335) (o := .cells #[.bool t329, .slice Ao66 t330.length co66, .int .i64 t333] 30 (0, 0)) (by (with_reducible repeat (first | refine blk_drewN ?_ _ | refine blk_drew ?_ | refine blk_alloc ?_ _)); refine blk_put (cs := #[.bool t329, .slice Ao66 t330.length co66, .int .i64 0]) ?_ 2 _ rfl; (with_reducible repeat (first | refine blk_drewN ?_ _ | refine blk_drew ?_ | refine blk_alloc ?_ _)); refine blk_put (cs := #[.bool t329, .slice none 0 0, .int .i64 0]) ?_ 1 _ rfl; (with_reducible repeat (first | refine blk_drewN ?_ _ | refine blk_drew ?_ | refine blk_alloc ?_ _)); refine blk_put (cs := #[.bool false, .slice none 0 0, .int .i64 0]) ?_ 0 _ rfl; (with_reducible repeat (first | refine blk_drewN ?_ _ | refine blk_drew ?_ | refine blk_alloc ?_ _)); exact BK335.out) hb); have n7_ := Aside0.mk (below_step (hkS HB) hb); clear HO_310001; clear HO_321001; clear HO332; clear BK298; clear BK309; clear BK320; clear BK335; clear HB; have HO_310001 := n0_; have HO_321001 := n1_; have HO332 := n2_; have BK298 := n3_; have BK309 := n4_; have BK320 := n5_; have BK335 := n6_; have HB := n7_; clear n0_ n1_ n2_ n3_ n4_ n5_ n6_ n7_; (try clear hb); (try clear hb2); (try clear hk); (try clear hi)))
                go_meet
                case rel => exact ⟨_, ((t334 != t308)), (by first | rfl | (simp; done) | (simp [*]; done)), H', ⟨by have := HJ5.out; first | omega | exact Nat.le_refl _⟩, ⟨by (with_reducible repeat (first | apply Kd.R_alloc | apply Kd.R_drewN | apply Kd.R_drew)); exact HO_310001.out⟩, ⟨by (with_reducible repeat (first | apply Kd.R_alloc | apply Kd.R_drewN | apply Kd.R_drew)); exact HO_321001.out⟩, ⟨by (with_reducible repeat (first | apply Kd.R_alloc | apply Kd.R_drewN | apply Kd.R_drew)); exact Kd.R_mono HO332.out (fun _ hk => ⟨hk.1.2, hk.2⟩)⟩, ⟨by (with_reducible repeat (first | refine blk_drewN ?_ _ | refine blk_drew ?_ | refine blk_alloc ?_ _)); exact BK298.out⟩, ⟨by (with_reducible repeat (first | refine blk_drewN ?_ _ | refine blk_drew ?_ | refine blk_alloc ?_ _)); exact BK309.out⟩, ⟨by (with_reducible repeat (first | refine blk_drewN ?_ _ | refine blk_drew ?_ | refine blk_alloc ?_ _)); exact BK320.out⟩, ⟨by (with_reducible repeat (first | refine blk_drewN ?_ _ | refine blk_drew ?_ | refine blk_alloc ?_ _)); exact BK335.out⟩, ⟨by repeat (first | (with_reducible first | exact HB.out | apply below_alloc | apply pw_below_drewN | apply below_drew1 | refine below_set ?_ GE298.out | refine below_set ?_ GE309.out | refine below_set ?_ GE320.out | refine below_set ?_ GE335.out) | exact HB.out)⟩⟩
              · replace c68 := Bool.eq_false_iff.mpr c68
                subst c68
                have H1 : (laws_FnExactFlDy.j1 kj5 t322 true t314 t323 t318) = some r := by rw [if_neg (show ¬ (false = true) by decide)] at H; exact H
                clear H
                have H := H1
                clear H1
                have H' := Aside0.mk H
                clear H
                have hnb77 := NB335_298.out
                have hnc77 := NB298_335.out
                have hnb78 := NB335_309.out
                have hnc78 := NB309_335.out
                have hnb79 := NB335_320.out
                have hnc79 := NB320_335.out
                have hcz80_0 : w61.cell? ⟨gb335, 0, none⟩ = some (.bool false) := (blk_cell BK335.out 0).trans rfl
                have hcz80_1 : w61.cell? ⟨gb335, 1, none⟩ = some (.slice none 0 0) := (blk_cell BK335.out 1).trans rfl
                have hcz80_2 : w61.cell? ⟨gb335, 2, none⟩ = some (.int .i64 0) := (blk_cell BK335.out 2).trans rfl
                have hfz80_0 := blk_frozen BK335.out 0
                have hfz80_1 := blk_frozen BK335.out 1
                have hfz80_2 := blk_frozen BK335.out 2
                have hnb81 := NB309_298.out
                have hnc81 := NB298_309.out
                have hnb82 := NB309_320.out
                have hnc82 := NB320_309.out
                have hcz83_0 : w61.cell? ⟨gb309, 0, none⟩ = some (.bool t303) := (blk_cell BK309.out 0).trans rfl
                have hcz83_1 : w61.cell? ⟨gb309, 1, none⟩ = some (.slice Ao14 t304.length co14) := (blk_cell BK309.out 1).trans rfl
                have hcz83_2 : w61.cell? ⟨gb309, 2, none⟩ = some (.int .i64 t307) := (blk_cell BK309.out 2).trans rfl
                have hfz83_0 := blk_frozen BK309.out 0
                have hfz83_1 := blk_frozen BK309.out 1
                have hfz83_2 := blk_frozen BK309.out 2
                go_wp2_with (first | ((with_reducible refine gate_callee (f := 11) rfl ?_); refine goesL_ (some 51) rfl rfl Tryd.func11 (by kernel_rfl) rfl #[.agg #[.bool t329, .slice Ao66 t330.length co66, .int .i64 t333], .agg #[.bool t303, .slice Ao14 t304.length co14, .int .i64 t307]] rfl hkL ?_; (with_reducible refine (laws_eqDy.calls kj5 t329 _ _ t330 t333 t303 _ _ t304 t307 false _ ?side1 ?side2 ?side3 ?side4 A67.out).mono ?_); (case side1 => refine (Kd.R_reads' (e := 3) (base := w.heap.size) (ok := fun k_ => ((True ∧ some k_ ≠ (.slice Ao14 t304.length co14 : Value).ownBlock) ∧ some k_ ≠ (.slice Ao22 t315.length co22 : Value).ownBlock)) (n := t330.length) (c := co66) ?_).2.2; exact (by (with_reducible repeat (first | apply Kd.R_alloc | apply Kd.R_drewN | apply Kd.R_drew)); exact (Kd.R_mono (Kd.R_far (p := ⟨gb335, 2, none⟩) (Kd.R_far (p := ⟨gb335, 1, none⟩) (Kd.R_far (p := ⟨gb335, 0, none⟩) (Kd.R_types HO332.out BK335.out (by decide)) (fun _ hk => hk.2) (.bool t329)) (fun _ hk => hk.2) (.slice Ao66 t330.length co66)) (fun _ hk => hk.2) (.int .i64 t333)) (fun _ h_ => h_.1)))); (case side2 => exact (Kd.R_reads' HO332.out).2.1); (case side3 => refine (Kd.R_reads' (e := 3) (base := w.heap.size) (ok := fun k_ => (some k_ ≠ (.slice Ao22 t315.length co22 : Value).ownBlock ∧ some k_ ≠ (.slice Ao66 t330.length co66 : Value).ownBlock)) (n := t304.length) (c := co14) ?_).2.2; exact (by (with_reducible repeat (first | apply Kd.R_alloc | apply Kd.R_drewN | apply Kd.R_drew)); exact (Kd.R_mono (Kd.R_far (p := ⟨gb335, 2, none⟩) (Kd.R_far (p := ⟨gb335, 1, none⟩) (Kd.R_far (p := ⟨gb335, 0, none⟩) (Kd.R_types HO_310001.out BK335.out (by decide)) (fun _ hk => hk.2) (.bool t329)) (fun _ hk => hk.2) (.slice Ao66 t330.length co66)) (fun _ hk => hk.2) (.int .i64 t333)) (fun _ h_ => h_.1)))); (case side4 => exact (Kd.R_reads' HO_310001.out).2.1); rintro e w84 ⟨rfl, hb⟩; refine ⟨_, rfl, ?_⟩; have n0_ := Aside0.mk (Kd.R_below (by (with_reducible repeat (first | apply Kd.R_alloc | apply Kd.R_drewN | apply Kd.R_drew)); exact (Kd.R_mono (Kd.R_far (p := ⟨gb335, 2, none⟩) (Kd.R_far (p := ⟨gb335, 1, none⟩) (Kd.R_far (p := ⟨gb335, 0, none⟩) (Kd.R_types HO_310001.out BK335.out (by decide)) (fun _ hk => hk.2) (.bool t329)) (fun _ hk => hk.2) (.slice Ao66 t330.length co66)) (fun _ hk => hk.2) (.int .i64 t333)) (fun _ h_ => h_.1))) hb); have n1_ := Aside0.mk (Kd.R_below (by (with_reducible repeat (first | apply Kd.R_alloc | apply Kd.R_drewN | apply Kd.R_drew)); exact (Kd.R_mono (Kd.R_far (p := ⟨gb335, 2, none⟩) (Kd.R_far (p := ⟨gb335, 1, none⟩) (Kd.R_far (p := ⟨gb335, 0, none⟩) (Kd.R_types HO_321001.out BK335.out (by decide)) (fun _ hk => hk.2) (.bool t329)) (fun _ hk => hk.2) (.slice Ao66 t330.length co66)) (fun _ hk => hk.2) (.int .i64 t333)) (fun _ h_ => h_.1))) hb); have n2_ := Aside0.mk (Kd.R_below (by (with_reducible repeat (first | apply Kd.R_alloc | apply Kd.R_drewN | apply Kd.R_drew)); exact (Kd.R_mono (Kd.R_far (p := ⟨gb335, 2, none⟩) (Kd.R_far (p := ⟨gb335, 1, none⟩) (Kd.R_far (p := ⟨gb335, 0, none⟩) (Kd.R_types HO332.out BK335.out (by decide)) (fun _ hk => hk.2) (.bool t329)) (fun _ hk => hk.2) (.slice Ao66 t330.length co66)) (fun _ hk => hk.2) (.int .i64 t333)) (fun _ h_ => h_.1))) hb); have n3_ := Aside0.mk (blk_below (g := gb298) (o := .cells #[.int .i64 a0_0, .bool a0_1, .int .i64 a0_2, .int .i64 a0_3] 23 (0, 0)) (by (with_reducible repeat (first | refine blk_drewN ?_ _ | refine blk_drew ?_ | refine blk_alloc ?_ _)); refine blk_far ?_ NB298_335.out _; (with_reducible repeat (first | refine blk_drewN ?_ _ | refine blk_drew ?_ | refine blk_alloc ?_ _)); refine blk_far ?_ NB298_335.out _; (with_reducible repeat (first | refine blk_drewN ?_ _ | refine blk_drew ?_ | refine blk_alloc ?_ _)); refine blk_far ?_ NB298_335.out _; (with_reducible repeat (first | refine blk_drewN ?_ _ | refine blk_drew ?_ | refine blk_alloc ?_ _)); exact BK298.out) hb); have n4_ := Aside0.mk (blk_below (g := gb309) (o := .cells #[.bool t303, .slice Ao14 t304.length co14, .int .i64 t307] 30 (0, 0)) (by (with_reducible repeat (first | refine blk_drewN ?_ _ | refine blk_drew ?_ | refine blk_alloc ?_ _)); refine blk_far ?_ NB309_335.out _; (with_reducible repeat (first | refine blk_drewN ?_ _ | refine blk_drew ?_ | refine blk_alloc ?_ _)); refine blk_far ?_ NB309_335.out _; (with_reducible repeat (first | refine blk_drewN ?_ _ | refine blk_drew ?_ | refine blk_alloc ?_ _)); refine blk_far ?_ NB309_335.out _; (with_reducible repeat (first | refine blk_drewN ?_ _ | refine blk_drew ?_ | refine blk_alloc ?_ _)); exact BK309.out) hb); have n5_ := Aside0.mk (blk_below (g := gb320) (o := .cells #[.bool t314, .slice Ao22 t315.length co22, .int .i64 t318] 30 (0, 0)) (by (with_reducible repeat (first | refine blk_drewN ?_ _ | refine blk_drew ?_ | refine blk_alloc ?_ _)); refine blk_far ?_ NB320_335.out _; (with_reducible repeat (first | refine blk_drewN ?_ _ | refine blk_drew ?_ | refine blk_alloc ?_ _)); refine blk_far ?_ NB320_335.out _; (with_reducible repeat (first | refine blk_drewN ?_ _ | refine blk_drew ?_ | refine blk_alloc ?_ _)); refine blk_far ?_ NB320_335.out _; (with_reducible repeat (first | refine blk_drewN ?_ _ | refine blk_drew ?_ | refine blk_alloc ?_ _)); exact BK320.out) hb); have n6_ := Aside0.mk (blk_below (g := gb335) (o := .cells #[.bool t329, .slice Ao66 t330.length co66, .int .i64 t333] 30 (0, 0)) (by (with_reducible repeat (first | refine blk_drewN ?_ _ | refine blk_drew ?_ | refine blk_alloc ?_ _)); refine blk_put (cs := #[.bool t329, .slice Ao66 t330.length co66, .int .i64 0]) ?_ 2 _ rfl; (with_reducible repeat (first | refine blk_drewN ?_ _ | refine blk_drew ?_ | refine blk_alloc ?_ _)); refine blk_put (cs := #[.bool t329, .slice none 0 0, .int .i64 0]) ?_ 1 _ rfl; (with_reducible repeat (first | refine blk_drewN ?_ _ | refine blk_drew ?_ | refine blk_alloc ?_ _)); refine blk_put (cs := #[.bool false, .slice none 0 0, .int .i64 0]) ?_ 0 _ rfl; (with_reducible repeat (first | refine blk_drewN ?_ _ | refine blk_drew ?_ | refine blk_alloc ?_ _)); exact BK335.out) hb); have n7_ := Aside0.mk (below_step (hkS HB) hb); clear HO_310001; clear HO_321001; clear HO332; clear BK298; clear BK309; clear BK320; clear BK335; clear HB; have HO_310001 := n0_; have HO_321001 := n1_; have HO332 := n2_; have BK298 := n3_; have BK309 := n4_; have BK320 := n5_; have BK335 := n6_; have HB := n7_; clear n0_ n1_ n2_ n3_ n4_ n5_ n6_ n7_; (try clear hb); (try clear hb2); (try clear hk); (try clear hi)))
                go_meet
                case rel => exact ⟨_, (true), (by first | rfl | (simp; done) | (simp [*]; done)), H', ⟨by have := HJ5.out; first | omega | exact Nat.le_refl _⟩, ⟨by (with_reducible repeat (first | apply Kd.R_alloc | apply Kd.R_drewN | apply Kd.R_drew)); exact HO_310001.out⟩, ⟨by (with_reducible repeat (first | apply Kd.R_alloc | apply Kd.R_drewN | apply Kd.R_drew)); exact HO_321001.out⟩, ⟨by (with_reducible repeat (first | apply Kd.R_alloc | apply Kd.R_drewN | apply Kd.R_drew)); exact Kd.R_mono HO332.out (fun _ hk => ⟨hk.1.2, hk.2⟩)⟩, ⟨by (with_reducible repeat (first | refine blk_drewN ?_ _ | refine blk_drew ?_ | refine blk_alloc ?_ _)); exact BK298.out⟩, ⟨by (with_reducible repeat (first | refine blk_drewN ?_ _ | refine blk_drew ?_ | refine blk_alloc ?_ _)); exact BK309.out⟩, ⟨by (with_reducible repeat (first | refine blk_drewN ?_ _ | refine blk_drew ?_ | refine blk_alloc ?_ _)); exact BK320.out⟩, ⟨by (with_reducible repeat (first | refine blk_drewN ?_ _ | refine blk_drew ?_ | refine blk_alloc ?_ _)); exact BK335.out⟩, ⟨by repeat (first | (with_reducible first | exact HB.out | apply below_alloc | apply pw_below_drewN | apply below_drew1 | refine below_set ?_ GE298.out | refine below_set ?_ GE309.out | refine below_set ?_ GE320.out | refine below_set ?_ GE335.out) | exact HB.out)⟩⟩
            case rest =>
              clear HC50
              try clear c1
              try clear c2
              try clear p2
              try clear c3
              try clear c4
              try clear c5
              try clear c6
              try clear c7
              try clear c8
              try clear c9
              try clear c10
              try clear c11
              try clear c12
              try clear c13
              try clear c19
              try clear c20
              try clear c24
              try clear c25
              try clear c26
              try clear c28
              try clear c31
              try clear c32
              try clear c34
              try clear c37
              try clear c40
              try clear c40b0
              try clear c41
              try clear c42
              try clear c47
              try clear c47b0
              try clear c47b1
              try clear c51
              try clear c52
              try clear c57
              try clear c62
              try clear c63
              try clear c64
              try clear c68
              try clear c69
              try clear c70
              try clear c71
              try clear c73
              try clear c74
              try clear c77
              try clear c78
              try clear c79
              try clear c81
              try clear c82
              try clear hcz13_0
              try clear hcz13_1
              try clear hcz13_2
              try clear hcz15_0
              try clear hcz15_1
              try clear hcz15_2
              try clear hcz15_3
              try clear hcz21_0
              try clear hcz21_1
              try clear hcz21_2
              try clear hcz27_0
              try clear hcz27_1
              try clear hcz27_2
              try clear hcz29_0
              try clear hcz29_1
              try clear hcz29_2
              try clear hcz33_0
              try clear hcz33_1
              try clear hcz33_2
              try clear hcz35_0
              try clear hcz35_1
              try clear hcz35_2
              try clear hcz43_0
              try clear hcz43_1
              try clear hcz43_2
              try clear hcz45_0
              try clear hcz45_1
              try clear hcz45_2
              try clear hcz53_0
              try clear hcz53_1
              try clear hcz53_2
              try clear hcz55_0
              try clear hcz55_1
              try clear hcz55_2
              try clear hcz58_0
              try clear hcz58_1
              try clear hcz58_2
              try clear hcz58_3
              try clear hcz65_0
              try clear hcz65_1
              try clear hcz65_2
              try clear hcz72_0
              try clear hcz72_1
              try clear hcz72_2
              try clear hcz75_0
              try clear hcz75_1
              try clear hcz75_2
              try clear hcz80_0
              try clear hcz80_1
              try clear hcz80_2
              try clear hcz83_0
              try clear hcz83_1
              try clear hcz83_2
              try clear hcz8_0
              try clear hcz8_1
              try clear hcz8_2
              try clear hcz8_3
              try clear hfz13_0
              try clear hfz13_1
              try clear hfz13_2
              try clear hfz15_0
              try clear hfz15_1
              try clear hfz15_2
              try clear hfz15_3
              try clear hfz21_0
              try clear hfz21_1
              try clear hfz21_2
              try clear hfz27_0
              try clear hfz27_1
              try clear hfz27_2
              try clear hfz29_0
              try clear hfz29_1
              try clear hfz29_2
              try clear hfz33_0
              try clear hfz33_1
              try clear hfz33_2
              try clear hfz35_0
              try clear hfz35_1
              try clear hfz35_2
              try clear hfz43_0
              try clear hfz43_1
              try clear hfz43_2
              try clear hfz45_0
              try clear hfz45_1
              try clear hfz45_2
              try clear hfz53_0
              try clear hfz53_1
              try clear hfz53_2
              try clear hfz55_0
              try clear hfz55_1
              try clear hfz55_2
              try clear hfz58_0
              try clear hfz58_1
              try clear hfz58_2
              try clear hfz58_3
              try clear hfz65_0
              try clear hfz65_1
              try clear hfz65_2
              try clear hfz72_0
              try clear hfz72_1
              try clear hfz72_2
              try clear hfz75_0
              try clear hfz75_1
              try clear hfz75_2
              try clear hfz80_0
              try clear hfz80_1
              try clear hfz80_2
              try clear hfz83_0
              try clear hfz83_1
              try clear hfz83_2
              try clear hfz8_0
              try clear hfz8_1
              try clear hfz8_2
              try clear hfz8_3
              try clear p2
              obtain ⟨kq, x57_49, rfl, HA, HJ49, HO_310001, HO_321001, HO_336001, BK298, BK309, BK320, BK335, HB⟩ := hcut
              have hl321001_49 := (Kd.R_reads' HO_321001.out).1
              rw [hl321001_49] at HO_321001
              (try simp only [hl321001_49])
              (try simp only [hl321001_49] at BK298)
              (try simp only [hl321001_49] at BK309)
              (try simp only [hl321001_49] at BK320)
              (try simp only [hl321001_49] at BK335)
              (try simp only [hl321001_49] at HO_310001)
              (try simp only [hl321001_49] at HO_336001)
              cases kq with
              | zero => exact absurd HA.out (by simp [laws_FnExactFlDy.j1])
              | succ kj49 =>
                have H := HA.out
                clear HA
                simp only [laws_FnExactFlDy.j1] at H
                by_cases c85 : x57_49 = true
                · subst c85
                  have H1 : (some false) = some r := by rw [if_pos rfl] at H; exact H
                  clear H
                  have H := H1
                  clear H1
                  obtain rfl := Option.some.inj H
                  go_wp2
                  go_ret
                  exact ⟨by first | rfl | (simp [errW_none, errW_some] <;> rfl) | (simp [*, errW_none, errW_some] <;> rfl), by repeat (first | (with_reducible first | exact HB.out | apply below_alloc | apply pw_below_drewN | apply below_drew1 | refine below_set ?_ GE298.out | refine below_set ?_ GE309.out | refine below_set ?_ GE320.out | refine below_set ?_ GE335.out) | exact HB.out)⟩
                · replace c85 := Bool.eq_false_iff.mpr c85
                  subst c85
                  have H1 : ((laws_heldDy.f kj49 t314 t323 t318 1).bind fun t337 => (if t337 < 0 then (some false) else (if t337 = t322 then (some true) else (some false)))) = some r := by rw [if_neg (show ¬ (false = true) by decide)] at H; exact H
                  clear H
                  have H := H1
                  clear H1
                  replace H := Option.bind_eq_some_iff.mp H
                  obtain ⟨t337, A860, H⟩ := H
                  replace H : (if t337 < 0 then (some false) else (if t337 = t322 then (some true) else (some false))) = some r := H
                  have A86 := Aside0.mk A860
                  clear A860
                  by_cases c87 : t337 < 0
                  · rw [if_pos c87] at H
                    have c87b0 : decide (t337 < 0) = true := decide_eq_true c87
                    clear c87
                    obtain rfl := Option.some.inj H
                    have hnb88 := NB320_298.out
                    have hnc88 := NB298_320.out
                    have hnb89 := NB320_309.out
                    have hnc89 := NB309_320.out
                    have hnb90 := NB320_335.out
                    have hnc90 := NB335_320.out
                    have hcz91_0 : wc.cell? ⟨gb320, 0, none⟩ = some (.bool t314) := (blk_cell BK320.out 0).trans rfl
                    have hcz91_1 : wc.cell? ⟨gb320, 1, none⟩ = some (.slice Ao22 t323.length co22) := (blk_cell BK320.out 1).trans rfl
                    have hcz91_2 : wc.cell? ⟨gb320, 2, none⟩ = some (.int .i64 t318) := (blk_cell BK320.out 2).trans rfl
                    have hfz91_0 := blk_frozen BK320.out 0
                    have hfz91_1 := blk_frozen BK320.out 1
                    have hfz91_2 := blk_frozen BK320.out 2
                    go_wp2_with (first | ((with_reducible refine gate_callee (f := 13) rfl ?_); refine goesL_ (some 60) rfl rfl Tryd.func13 (by kernel_rfl) rfl #[.agg #[.bool t314, .slice Ao22 t323.length co22, .int .i64 t318], .int .i64 1] rfl hkL ?_; (with_reducible refine (laws_heldDy.calls kj49 t314 _ _ t323 t318 1 t337 _ ?side1 ?side2 A86.out).mono ?_); (case side1 => repeat (first | exact (Kd.R_reads' HO_321001.out).2.2 | (with_reducible refine Kd.C_alloc ?_ _) | (with_reducible refine Kd.C_drewN ?_ _) | (with_reducible refine Kd.C_drew ?_))); (case side2 => exact (Kd.R_reads' HO_321001.out).2.1); rintro e w92 ⟨rfl, hb⟩; refine ⟨_, rfl, ?_⟩; have n0_ := hkRb HO_310001 hb; have n1_ := hkRb HO_321001 hb; have n2_ := hkRb HO_336001 hb; have n3_ := hkBb BK298 hb; have n4_ := hkBb BK309 hb; have n5_ := hkBb BK320 hb; have n6_ := hkBb BK335 hb; have n7_ := Aside0.mk (below_step (hkS HB) hb); clear HO_310001; clear HO_321001; clear HO_336001; clear BK298; clear BK309; clear BK320; clear BK335; clear HB; have HO_310001 := n0_; have HO_321001 := n1_; have HO_336001 := n2_; have BK298 := n3_; have BK309 := n4_; have BK320 := n5_; have BK335 := n6_; have HB := n7_; clear n0_ n1_ n2_ n3_ n4_ n5_ n6_ n7_; (try clear hb); (try clear hb2); (try clear hk); (try clear hi)))
                    go_ret
                    exact ⟨by first | rfl | (simp [errW_none, errW_some] <;> rfl) | (simp [*, errW_none, errW_some] <;> rfl), by repeat (first | (with_reducible first | exact HB.out | apply below_alloc | apply pw_below_drewN | apply below_drew1 | refine below_set ?_ GE298.out | refine below_set ?_ GE309.out | refine below_set ?_ GE320.out | refine below_set ?_ GE335.out) | exact HB.out)⟩
                  · rw [if_neg c87] at H
                    have c87b0 : decide (t337 < 0) = false := decide_eq_false c87
                    clear c87
                    by_cases c93 : t337 = t322
                    · rw [if_pos c93] at H
                      have c93b0 : (t337 == t322) = true := beq_iff_eq.mpr c93
                      have c93b1 : (t337 != t322) = false := bne_eq_false_iff_eq.mpr c93
                      clear c93
                      obtain rfl := Option.some.inj H
                      have hnb94 := NB320_298.out
                      have hnc94 := NB298_320.out
                      have hnb95 := NB320_309.out
                      have hnc95 := NB309_320.out
                      have hnb96 := NB320_335.out
                      have hnc96 := NB335_320.out
                      have hcz97_0 : wc.cell? ⟨gb320, 0, none⟩ = some (.bool t314) := (blk_cell BK320.out 0).trans rfl
                      have hcz97_1 : wc.cell? ⟨gb320, 1, none⟩ = some (.slice Ao22 t323.length co22) := (blk_cell BK320.out 1).trans rfl
                      have hcz97_2 : wc.cell? ⟨gb320, 2, none⟩ = some (.int .i64 t318) := (blk_cell BK320.out 2).trans rfl
                      have hfz97_0 := blk_frozen BK320.out 0
                      have hfz97_1 := blk_frozen BK320.out 1
                      have hfz97_2 := blk_frozen BK320.out 2
                      go_wp2_with (first | ((with_reducible refine gate_callee (f := 13) rfl ?_); refine goesL_ (some 60) rfl rfl Tryd.func13 (by kernel_rfl) rfl #[.agg #[.bool t314, .slice Ao22 t323.length co22, .int .i64 t318], .int .i64 1] rfl hkL ?_; (with_reducible refine (laws_heldDy.calls kj49 t314 _ _ t323 t318 1 t337 _ ?side1 ?side2 A86.out).mono ?_); (case side1 => repeat (first | exact (Kd.R_reads' HO_321001.out).2.2 | (with_reducible refine Kd.C_alloc ?_ _) | (with_reducible refine Kd.C_drewN ?_ _) | (with_reducible refine Kd.C_drew ?_))); (case side2 => exact (Kd.R_reads' HO_321001.out).2.1); rintro e w98 ⟨rfl, hb⟩; refine ⟨_, rfl, ?_⟩; have n0_ := hkRb HO_310001 hb; have n1_ := hkRb HO_321001 hb; have n2_ := hkRb HO_336001 hb; have n3_ := hkBb BK298 hb; have n4_ := hkBb BK309 hb; have n5_ := hkBb BK320 hb; have n6_ := hkBb BK335 hb; have n7_ := Aside0.mk (below_step (hkS HB) hb); clear HO_310001; clear HO_321001; clear HO_336001; clear BK298; clear BK309; clear BK320; clear BK335; clear HB; have HO_310001 := n0_; have HO_321001 := n1_; have HO_336001 := n2_; have BK298 := n3_; have BK309 := n4_; have BK320 := n5_; have BK335 := n6_; have HB := n7_; clear n0_ n1_ n2_ n3_ n4_ n5_ n6_ n7_; (try clear hb); (try clear hb2); (try clear hk); (try clear hi)))
                      go_ret
                      exact ⟨by first | rfl | (simp [errW_none, errW_some] <;> rfl) | (simp [*, errW_none, errW_some] <;> rfl), by repeat (first | (with_reducible first | exact HB.out | apply below_alloc | apply pw_below_drewN | apply below_drew1 | refine below_set ?_ GE298.out | refine below_set ?_ GE309.out | refine below_set ?_ GE320.out | refine below_set ?_ GE335.out) | exact HB.out)⟩
                    · rw [if_neg c93] at H
                      have c93b0 : (t337 == t322) = false := beq_eq_false_iff_ne.mpr c93
                      have c93b1 : (t337 != t322) = true := bne_iff_ne.mpr c93
                      obtain rfl := Option.some.inj H
                      have hnb99 := NB320_298.out
                      have hnc99 := NB298_320.out
                      have hnb100 := NB320_309.out
                      have hnc100 := NB309_320.out
                      have hnb101 := NB320_335.out
                      have hnc101 := NB335_320.out
                      have hcz102_0 : wc.cell? ⟨gb320, 0, none⟩ = some (.bool t314) := (blk_cell BK320.out 0).trans rfl
                      have hcz102_1 : wc.cell? ⟨gb320, 1, none⟩ = some (.slice Ao22 t323.length co22) := (blk_cell BK320.out 1).trans rfl
                      have hcz102_2 : wc.cell? ⟨gb320, 2, none⟩ = some (.int .i64 t318) := (blk_cell BK320.out 2).trans rfl
                      have hfz102_0 := blk_frozen BK320.out 0
                      have hfz102_1 := blk_frozen BK320.out 1
                      have hfz102_2 := blk_frozen BK320.out 2
                      go_wp2_with (first | ((with_reducible refine gate_callee (f := 13) rfl ?_); refine goesL_ (some 60) rfl rfl Tryd.func13 (by kernel_rfl) rfl #[.agg #[.bool t314, .slice Ao22 t323.length co22, .int .i64 t318], .int .i64 1] rfl hkL ?_; (with_reducible refine (laws_heldDy.calls kj49 t314 _ _ t323 t318 1 t337 _ ?side1 ?side2 A86.out).mono ?_); (case side1 => repeat (first | exact (Kd.R_reads' HO_321001.out).2.2 | (with_reducible refine Kd.C_alloc ?_ _) | (with_reducible refine Kd.C_drewN ?_ _) | (with_reducible refine Kd.C_drew ?_))); (case side2 => exact (Kd.R_reads' HO_321001.out).2.1); rintro e w103 ⟨rfl, hb⟩; refine ⟨_, rfl, ?_⟩; have n0_ := hkRb HO_310001 hb; have n1_ := hkRb HO_321001 hb; have n2_ := hkRb HO_336001 hb; have n3_ := hkBb BK298 hb; have n4_ := hkBb BK309 hb; have n5_ := hkBb BK320 hb; have n6_ := hkBb BK335 hb; have n7_ := Aside0.mk (below_step (hkS HB) hb); clear HO_310001; clear HO_321001; clear HO_336001; clear BK298; clear BK309; clear BK320; clear BK335; clear HB; have HO_310001 := n0_; have HO_321001 := n1_; have HO_336001 := n2_; have BK298 := n3_; have BK309 := n4_; have BK320 := n5_; have BK335 := n6_; have HB := n7_; clear n0_ n1_ n2_ n3_ n4_ n5_ n6_ n7_; (try clear hb); (try clear hb2); (try clear hk); (try clear hi)))
                      go_ret
                      exact ⟨by first | rfl | (simp [errW_none, errW_some] <;> rfl) | (simp [*, errW_none, errW_some] <;> rfl), by repeat (first | (with_reducible first | exact HB.out | apply below_alloc | apply pw_below_drewN | apply below_drew1 | refine below_set ?_ GE298.out | refine below_set ?_ GE309.out | refine below_set ?_ GE320.out | refine below_set ?_ GE335.out) | exact HB.out)⟩
          · rw [if_neg c47] at H
            have c47b0 : (t324 == t322) = false := beq_eq_false_iff_ne.mpr c47
            have c47b1 : (t324 != t322) = true := bne_iff_ne.mpr c47
            obtain rfl := Option.some.inj H
            have hnb104 := NB320_298.out
            have hnc104 := NB298_320.out
            have hnb105 := NB320_309.out
            have hnc105 := NB309_320.out
            have hcz106_0 : wc.cell? ⟨gb320, 0, none⟩ = some (.bool t314) := (blk_cell BK320.out 0).trans rfl
            have hcz106_1 : wc.cell? ⟨gb320, 1, none⟩ = some (.slice Ao22 t315.length co22) := (blk_cell BK320.out 1).trans rfl
            have hcz106_2 : wc.cell? ⟨gb320, 2, none⟩ = some (.int .i64 t318) := (blk_cell BK320.out 2).trans rfl
            have hfz106_0 := blk_frozen BK320.out 0
            have hfz106_1 := blk_frozen BK320.out 1
            have hfz106_2 := blk_frozen BK320.out 2
            go_wp2_with (first | ((with_reducible refine gate_callee (f := 12) rfl ?_); refine goesL_ (some 34) rfl rfl Tryd.func12 (by kernel_rfl) rfl #[.agg #[.bool t314, .slice Ao22 t315.length co22, .int .i64 t318], .int .i64 1] rfl hkL ?_; (with_reducible refine (laws_markDy.calls kj5 t314 (fun k_ => some k_ = (.slice Ao22 t315.length co22 : Value).ownBlock) (.slice Ao22 t315.length co22) t315 t318 1 t322 t323 w _ ?side1 ?side2 A38.out).mono ?_); (case side1 => repeat (first | (with_reducible first | exact HB.out | apply below_alloc | apply pw_below_drewN | apply below_drew1 | refine below_set ?_ GE298.out | refine below_set ?_ GE309.out | refine below_set ?_ GE320.out) | exact HB.out)); (case side2 => exact Kd.R_tight rfl HO_321001.out); rintro e w107 ⟨rfl, hy0, hb, hkp⟩; refine ⟨_, rfl, ?_⟩; have n0_ := Aside0.mk (Kd.R_mono (ok' := fun k_ => some k_ ≠ (.slice Ao22 t315.length co22 : Value).ownBlock) (Kd.R_keptB (HO_310001.out) hkp (fun k_ hk_ hs_ => (hk_) hs_)) (fun k_ hk_ => hk_.1)); have n1_ := Aside0.mk (Kd.R_reok rfl hy0 (fun k_ e_ => HO_321001.out.1 k_ e_)); have n2_ := Aside0.mk (blk_kept (hkB BK298) hkp (fun hs_ => (fun e_ => (Kd.R_ne HO_321001.out BK298.out (by decide)) e_) hs_)); have n3_ := Aside0.mk (blk_kept (hkB BK309) hkp (fun hs_ => (fun e_ => (Kd.R_ne HO_321001.out BK309.out (by decide)) e_) hs_)); have n4_ := Aside0.mk (blk_kept (hkB BK320) hkp (fun hs_ => (fun e_ => (Kd.R_ne HO_321001.out BK320.out (by decide)) e_) hs_)); have n5_ := Aside0.mk (hb); clear HO_310001; clear HO_321001; clear BK298; clear BK309; clear BK320; clear HB; have HO_310001 := n0_; have HO_321001 := n1_; have BK298 := n2_; have BK309 := n3_; have BK320 := n4_; have HB := n5_; clear n0_ n1_ n2_ n3_ n4_ n5_; (try clear hb); (try clear hkp); (try clear hy0); have hcz108_0 : w107.cell? ⟨gb320, 0, none⟩ = some (.bool t314) := (blk_cell BK320.out 0).trans rfl; have hcz108_1 : w107.cell? ⟨gb320, 1, none⟩ = some (.slice Ao22 t315.length co22) := (blk_cell BK320.out 1).trans rfl; have hcz108_2 : w107.cell? ⟨gb320, 2, none⟩ = some (.int .i64 t318) := (blk_cell BK320.out 2).trans rfl; have hfz108_0 := blk_frozen BK320.out 0; have hfz108_1 := blk_frozen BK320.out 1; have hfz108_2 := blk_frozen BK320.out 2) | ((with_reducible refine gate_callee (f := 13) rfl ?_); refine goesL_ (some 37) rfl rfl Tryd.func13 (by kernel_rfl) rfl #[.agg #[.bool t314, .slice Ao22 t323.length co22, .int .i64 t318], .int .i64 1] rfl (by (try simp only [List.map_toArray, List.map_cons, List.map_nil]); first | done | (rw [show t323.length = t315.length from (Kd.R_reads' HO_321001.out).1.symm] <;> rfl) | rfl | (simp only [List.length_drop, List.length_take]; rfl)) ?_; (with_reducible refine (laws_heldDy.calls kj5 t314 _ _ t323 t318 1 t324 _ ?side1 ?side2 A39.out).mono ?_); (case side1 => repeat (first | exact (Kd.R_reads' HO_321001.out).2.2 | (with_reducible refine Kd.C_alloc ?_ _) | (with_reducible refine Kd.C_drewN ?_ _) | (with_reducible refine Kd.C_drew ?_))); (case side2 => rw [show t323.length = t315.length from (Kd.R_reads' HO_321001.out).1.symm]; exact (Kd.R_reads' HO_321001.out).2.1); rintro e w109 ⟨rfl, hb⟩; refine ⟨_, rfl, ?_⟩; have n0_ := hkRb HO_310001 hb; have n1_ := hkRb HO_321001 hb; have n2_ := hkBb BK298 hb; have n3_ := hkBb BK309 hb; have n4_ := hkBb BK320 hb; have n5_ := Aside0.mk (below_step (hkS HB) hb); clear HO_310001; clear HO_321001; clear BK298; clear BK309; clear BK320; clear HB; have HO_310001 := n0_; have HO_321001 := n1_; have BK298 := n2_; have BK309 := n3_; have BK320 := n4_; have HB := n5_; clear n0_ n1_ n2_ n3_ n4_ n5_; (try clear hb); (try clear hb2); (try clear hk); (try clear hi)))
            go_ret
            exact ⟨by first | rfl | (simp [errW_none, errW_some] <;> rfl) | (simp [*, errW_none, errW_some] <;> rfl), by repeat (first | (with_reducible first | exact HB.out | apply below_alloc | apply pw_below_drewN | apply below_drew1 | refine below_set ?_ GE298.out | refine below_set ?_ GE309.out | refine below_set ?_ GE320.out) | exact HB.out)⟩

/-- THE ONE PURE STATEMENT of laws_FnExactFlDy. -/
def laws_FnExactFlDy.Pure : Prop := ∀ (a0_0 : Int) (a0_1 : Bool) (a0_2 : Int) (a0_3 : Int), (Lit.int .i64 a0_0).wf = true → (Lit.int .i64 a0_2).wf = true → (Lit.int .i64 a0_3).wf = true → ∃ k, laws_FnExactFlDy.f k a0_0 a0_1 a0_2 a0_3 = some true
theorem laws_FnExactFlDy.walk (P : laws_FnExactFlDy.Pure) (a0_0 : Int) (a0_1 : Bool) (a0_2 : Int) (a0_3 : Int) (w : World) (w0_0 : (Lit.int .i64 a0_0).wf = true) (w0_2 : (Lit.int .i64 a0_2).wf = true) (w0_3 : (Lit.int .i64 a0_3).wf = true) (hT : hTab w) :
    Calls Tryd.prog 3 #[.agg #[.int .i64 a0_0, .bool a0_1, .int .i64 a0_2, .int .i64 a0_3]] w fun e w' => e = .returned (.bool true) ∧ Below w.heap.size w w' := by
  have HT0 := Aside0.mk hT
  clear hT
  obtain ⟨k, h⟩ := P a0_0 a0_1 a0_2 a0_3 w0_0 w0_2 w0_3
  refine (laws_FnExactFlDy.calls k a0_0 a0_1 a0_2 a0_3 true w h).mono ?_
  rintro e w' ⟨rfl, hd⟩
  exact ⟨rfl, hd⟩

end Go.Proofs.YtgjpahofopoflaaDoor.PFnExactFlDy
