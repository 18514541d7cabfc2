-- Written by our own driver (wip/hand/hprint.py) over the seat's translation.
import Derived.Test.YtgjpahofopoflaaPFnDyTopsx0
import Derived.Test.YtgjpahofopoflaaPFnDyTopsx1
import Derived.Test.YtgjpahofopoflaaPFnDyTopsx6
import Derived.Test.YtgjpahofopoflaaPFnDyTopsx10
import Derived.Test.YtgjpahofopoflaaPFnDyTopsx11
namespace Go.Proofs.Ytgjpahofopoflaa.PFnDyTops
open Go.RowKit Go.Proofs.YtgjpahofopoflaaW.PrintWords Go.Proofs.YtgjpahofopoflaaW.PrintLast Go.Proofs.YtgjpahofopoflaaW.PrintMore
attribute [local go_sem] max2_int min2_int max_two min_two max_three min_three max_four min_four   -- for this text's walks alone
set_option linter.unusedVariables false
set_option linter.unusedSimpArgs false

/-! ### laws_FnDyTops: function 7 -/
def laws_FnDyTops.j0 : Nat → Int → Bool → Bool → List Int → Int → Option (Bool)
 | 0, _, _, _, _, _ => none
 | k + 1, x4, x28, x594000, x594001, x594002 => if x28 = true then ((laws_dy.f k 5 1).bind fun bt596 => ((impl_DyTop.f bt596.1 bt596.2.1 bt596.2.2).bind fun t601 => (some (t601 == 4)))) else ((laws_abs.f k x594000 x594001 x594002).bind fun bt602 => ((laws_dy.f k 1 x4).bind fun bt608 => ((spec_DyCmp.f k bt602.1 bt602.2.1 bt602.2.2 bt608.1 bt608.2.1 bt608.2.2).bind fun t613 => (if t613 < 0 then ((laws_dy.f k 1 (wrap64 (x4 - 1))).bind fun bt614 => ((spec_DyCmp.f k bt602.1 bt602.2.1 bt602.2.2 bt614.1 bt614.2.1 bt614.2.2).bind fun t619 => (some (decide (t619 ≥ 0))))) else (some false)))))
def laws_FnDyTops.f (k : Nat) (l0 : List Int) : Option (Bool) := (spec_DrawDyTop.f k l0).bind fun bt588 => ((impl_DyTop.f bt588.1 bt588.2.1 bt588.2.2).bind fun t594 => ((spec_DyOk.f k bt588.1 bt588.2.1 bt588.2.2).bind fun t595 => (if t595 = true then (if (bt588.2.1.length : Int) = 0 then (laws_FnDyTops.j0 k t594 true bt588.1 bt588.2.1 bt588.2.2) else (if t594 > 3000 then (laws_FnDyTops.j0 k t594 true bt588.1 bt588.2.1 bt588.2.2) else (laws_FnDyTops.j0 k t594 (decide (t594 ≤ (-3000))) bt588.1 bt588.2.1 bt588.2.2))) else (laws_FnDyTops.j0 k t594 true bt588.1 bt588.2.1 bt588.2.2))))
theorem laws_FnDyTops.mono_l : ∀ k, (∀ y0 y1 y2 y3 y4, LeO (laws_FnDyTops.j0 k y0 y1 y2 y3 y4) (laws_FnDyTops.j0 (k + 1) y0 y1 y2 y3 y4))
 | 0 => fun _ _ _ _ _ r h => by simp [laws_FnDyTops.j0] at h
 | k + 1 => by
  have ih0 := laws_FnDyTops.mono_l k
  ·intro y0 y1 y2 y3 y4
   unfold laws_FnDyTops.j0
   repeat' first
   | (with_reducible exact ih0 _ _ _ _ _)
   | (with_reducible exact laws_abs.mono _ _ _ _)
   | (with_reducible exact laws_dy.mono _ _ _)
   | (with_reducible exact spec_DrawDyTop.mono _ _)
   | (with_reducible exact spec_DyCmp.mono _ _ _ _ _ _ _)
   | (with_reducible exact spec_DyOk.mono _ _ _ _)
   | (with_reducible exact LeO.refl _)
   | (with_reducible exact LeO.none _)
   | (with_reducible refine LeO.ite ?_ ?_)
   | (with_reducible refine LeO.bind ?_ (fun _ => ?_))
   | exact ih0 _ _ _ _ _
   | exact laws_abs.mono _ _ _ _
   | exact laws_dy.mono _ _ _
   | exact spec_DrawDyTop.mono _ _
   | exact spec_DyCmp.mono _ _ _ _ _ _ _
   | exact spec_DyOk.mono _ _ _ _
   | exact LeO.none _
   | refine LeO.ite ?_ ?_
   | refine LeO.bind ?_ (fun _ => ?_)
theorem laws_FnDyTops.mono : ∀ a0 k, LeO (laws_FnDyTops.f k a0) (laws_FnDyTops.f (k + 1) a0) := by
 intro a0 k
 have ih0 := laws_FnDyTops.mono_l k
 unfold laws_FnDyTops.f
 repeat' first
   | (with_reducible exact ih0 _ _ _ _ _)
   | (with_reducible exact laws_abs.mono _ _ _ _)
   | (with_reducible exact laws_dy.mono _ _ _)
   | (with_reducible exact spec_DrawDyTop.mono _ _)
   | (with_reducible exact spec_DyCmp.mono _ _ _ _ _ _ _)
   | (with_reducible exact spec_DyOk.mono _ _ _ _)
   | (with_reducible exact LeO.refl _)
   | (with_reducible exact LeO.none _)
   | (with_reducible refine LeO.ite ?_ ?_)
   | (with_reducible refine LeO.bind ?_ (fun _ => ?_))
   | exact ih0 _ _ _ _ _
   | exact laws_abs.mono _ _ _ _
   | exact laws_dy.mono _ _ _
   | exact spec_DrawDyTop.mono _ _
   | exact spec_DyCmp.mono _ _ _ _ _ _ _
   | exact spec_DyOk.mono _ _ _ _
   | exact LeO.none _
   | refine LeO.ite ?_ ?_
   | refine LeO.bind ?_ (fun _ => ?_)
def laws_FnDyTops.T6 : Bool × List (List Nat × List Nat) := (true, [([], []), ([], []), ([1], [1]), ([0, 2, 2], [0, 2]), ([3], [3]), ([4, 3], [4]), ([5], [5]), ([5], [5]), ([7, 5], [5, 7]), ([8, 5, 5], [5, 8]), ([6, 9, 9, 5], [5, 6, 9]), ([10, 5], [5, 10]), ([5, 11], [5, 11]), ([12, 10, 0, 1, 2, 3, 4, 5, 6, 7, 8, 9, 10, 11, 12], [12])])
def laws_FnDyTops.B6 : List Nat := [0, 0, 2, 7, 15, 31, 63, 63, 191, 447, 1023, 2047, 4095, 8191]
theorem laws_FnDyTops.tab6 : rtab .any (opsOf Try.f7 6) = laws_FnDyTops.T6 := by kernel_rfl
theorem laws_FnDyTops.bits6 : waitsOk laws_FnDyTops.T6.2 laws_FnDyTops.B6 = true := by kernel_rfl
set_option maxHeartbeats 8000000 in
set_option maxRecDepth 100000 in
theorem laws_FnDyTops.calls (k : Nat) (A0 : Option Addr) (c0 : Nat) (l0 : List Int) (w : World) (hr0 : Kd.C (Kd.int .u8) w A0 l0.length l0) (hc0 : l0.length ≤ c0) (h : laws_FnDyTops.f k l0 = some true) :
  Calls Try.prog 7 #[.slice A0 l0.length c0] w fun e w' => e = .returned (.bool true) ∧ Below w.heap.size w w' := by
 have hu42 := Try.underlying42
 have HR0 := Aside0.mk hr0
 have HC0 := Aside0.mk hc0
 clear hr0 hc0
 have HB := Aside0.mk (Below.refl w.heap.size w)
 have H : ((spec_DrawDyTop.f k l0).bind fun bt588 => ((impl_DyTop.f bt588.1 bt588.2.1 bt588.2.2).bind fun t594 => ((spec_DyOk.f k bt588.1 bt588.2.1 bt588.2.2).bind fun t595 => (if t595 = true then (if (bt588.2.1.length : Int) = 0 then (laws_FnDyTops.j0 k t594 true bt588.1 bt588.2.1 bt588.2.2) else (if t594 > 3000 then (laws_FnDyTops.j0 k t594 true bt588.1 bt588.2.1 bt588.2.2) else (laws_FnDyTops.j0 k t594 (decide (t594 ≤ (-3000))) bt588.1 bt588.2.1 bt588.2.2))) else (laws_FnDyTops.j0 k t594 true bt588.1 bt588.2.1 bt588.2.2))))) = some true := h
 clear h
 replace H := Option.bind_eq_some_iff.mp H
 obtain ⟨⟨t588, t589, t592⟩, A20, H⟩ := H
 replace H : ((impl_DyTop.f t588 t589 t592).bind fun t594 => ((spec_DyOk.f k t588 t589 t592).bind fun t595 => (if t595 = true then (if (t589.length : Int) = 0 then (laws_FnDyTops.j0 k t594 true t588 t589 t592) else (if t594 > 3000 then (laws_FnDyTops.j0 k t594 true t588 t589 t592) else (laws_FnDyTops.j0 k t594 (decide (t594 ≤ (-3000))) t588 t589 t592))) else (laws_FnDyTops.j0 k t594 true t588 t589 t592)))) = some true := H
 have A2 := Aside0.mk A20
 clear A20
 replace H := Option.bind_eq_some_iff.mp H
 obtain ⟨t594, A30, H⟩ := H
 replace H : ((spec_DyOk.f k t588 t589 t592).bind fun t595 => (if t595 = true then (if (t589.length : Int) = 0 then (laws_FnDyTops.j0 k t594 true t588 t589 t592) else (if t594 > 3000 then (laws_FnDyTops.j0 k t594 true t588 t589 t592) else (laws_FnDyTops.j0 k t594 (decide (t594 ≤ (-3000))) t588 t589 t592))) else (laws_FnDyTops.j0 k t594 true t588 t589 t592))) = some true := H
 have A3 := Aside0.mk A30
 clear A30
 have HC4 := Aside0.mk H
 clear H
 go_enter Try.func7, Try.ntmps7
 go_upto_region 3 with (first | ((with_reducible refine gate_callee (f := 30) rfl ?_); refine goesL_ (some 7) rfl rfl Try.func30 (by kernel_rfl) rfl #[.slice A0 l0.length c0] rfl hkL ?_; (with_reducible refine (spec_DrawDyTop.calls k _ _ l0 t588 t589 t592 _ ?side1 ?side2 A2.out).mono ?_); (case side1 => exact hkC (HR0.out)); (case side2 => exact HC0.out); rintro e w5 ⟨v590, rfl, ho0, hb⟩; refine ⟨_, rfl, ?_⟩; have n0_ := Aside0.mk (Kd.R_lower ho0 (below_size (hkS HB))); have n1_ := hkU HB hb; clear HB; have HO591 := n0_; have HB := n1_; clear n0_ n1_; (try clear hb); (try clear hb2); (try clear hk); (try clear hi); (try clear ho0)) | ((with_reducible refine gate_dst (N := 3) rfl ?_); (try (refine gate_guard (by rfl) ?_; dsimp only)); refine box_event ?hg (N := 3) ?hd (cs := #[.bool false, .slice none 0 0, .int .i64 0]) (t := 42) ?hr ?_; (case hd => rfl); (case hg => rfl); (case hr => first | (go_simp; done) | (go_simp; rfl)); intro gb593 hg w6 hbox hb; have n0_ := hkRb HO591 hb; have n1_ := hkU HB hb; have n2_ := Aside0.mk (hbox); have n3_ := hkG hg (hkS HB); have n4_ := hkG hg (hkS HB); clear HO591; clear HB; have HO591 := n0_; have HB := n1_; have BK593 := n2_; have GW593 := n3_; have GE593 := n4_; clear n0_ n1_ n2_ n3_ n4_; clear hb hbox hg; have hcz7_0 : w6.cell? ⟨gb593, 0, none⟩ = some (.bool false) := (blk_cell BK593.out 0).trans rfl; have hcz7_1 : w6.cell? ⟨gb593, 1, none⟩ = some (.slice none 0 0) := (blk_cell BK593.out 1).trans rfl; have hcz7_2 : w6.cell? ⟨gb593, 2, none⟩ = some (.int .i64 0) := (blk_cell BK593.out 2).trans rfl; have hfz7_0 := blk_frozen BK593.out 0; have hfz7_1 := blk_frozen BK593.out 1; have hfz7_2 := blk_frozen BK593.out 2; obtain ⟨Ao8, co8, eo8⟩ := Kd.R_slice HO591.out; subst eo8) | ((with_reducible refine gate_callee (f := 31) rfl ?_); refine goesL_ (some 9) rfl rfl Try.func31 (by kernel_rfl) rfl #[.agg #[.bool t588, .slice Ao8 t589.length co8, .int .i64 t592]] rfl hkL ?_; (with_reducible refine (impl_DyTop.calls t588 _ _ t589 t592 t594 _ ?side1 ?side2 A3.out).mono ?_); (case side1 => refine (Kd.R_reads' (e := 3) (base := w.heap.size) (ok := fun k_ => True) (n := t589.length) (c := co8) ?_).2.2; exact (by (with_reducible repeat (first | apply Kd.R_alloc | apply Kd.R_drewN | apply Kd.R_drew)); exact (Kd.R_mono (Kd.R_far (p := ⟨gb593, 2, none⟩) (Kd.R_far (p := ⟨gb593, 1, none⟩) (Kd.R_far (p := ⟨gb593, 0, none⟩) (Kd.R_types HO591.out BK593.out (by decide)) (fun _ hk => hk.2) (.bool t588)) (fun _ hk => hk.2) (.slice Ao8 t589.length co8)) (fun _ hk => hk.2) (.int .i64 t592)) (fun _ h_ => h_.1)))); (case side2 => exact (Kd.R_reads' HO591.out).2.1); rintro e w9 ⟨rfl, hb⟩; refine ⟨_, rfl, ?_⟩; have n0_ := Aside0.mk (Kd.R_below (by (with_reducible repeat (first | apply Kd.R_alloc | apply Kd.R_drewN | apply Kd.R_drew)); exact (Kd.R_mono (Kd.R_far (p := ⟨gb593, 2, none⟩) (Kd.R_far (p := ⟨gb593, 1, none⟩) (Kd.R_far (p := ⟨gb593, 0, none⟩) (Kd.R_types HO591.out BK593.out (by decide)) (fun _ hk => hk.2) (.bool t588)) (fun _ hk => hk.2) (.slice Ao8 t589.length co8)) (fun _ hk => hk.2) (.int .i64 t592)) (fun _ h_ => h_.1))) hb); have n1_ := Aside0.mk (blk_below (g := gb593) (o := .cells #[.bool t588, .slice Ao8 t589.length co8, .int .i64 t592] 42 (0, 0)) (by refine hkz ?_; refine blk_put (cs := #[.bool t588, .slice Ao8 t589.length co8, .int .i64 0]) ?_ 2 _ rfl; refine hkz ?_; refine blk_put (cs := #[.bool t588, .slice none 0 0, .int .i64 0]) ?_ 1 _ rfl; refine hkz ?_; refine blk_put (cs := #[.bool false, .slice none 0 0, .int .i64 0]) ?_ 0 _ rfl; refine hkz ?_; exact BK593.out) hb); have n2_ := hkU HB hb; clear HO591; clear BK593; clear HB; have HO591 := n0_; have BK593 := n1_; have HB := n2_; clear n0_ n1_ n2_; (try clear hb); (try clear hb2); (try clear hk); (try clear hi)))
 (try simp only [Act.put, List.setIfInBounds_toArray, List.set_cons_zero, List.set_cons_succ])
 go_cut [28] (fun v28 wc => ∃ (kq : Nat) (x28_3 : Bool), v28 = .bool x28_3 ∧ Aside0 (laws_FnDyTops.j0 kq t594 x28_3 t588 t589 t592 = some true) ∧ Aside0 (kq ≤ k) ∧ Aside0 (Kd.R (Kd.int .i64) 3 wc w.heap.size (fun _ => True) (.slice Ao8 t589.length co8) t589) ∧ Aside0 (wc.heap[gb593]? = some (.cells #[.bool t588, (.slice Ao8 t589.length co8), .int .i64 t592] 42 (0, 0))) ∧ Aside0 (Below w.heap.size w wc))
 case first =>
  have H := HC4.out
  clear HC4
  replace H := Option.bind_eq_some_iff.mp H
  obtain ⟨t595, A100, H⟩ := H
  replace H : (if t595 = true then (if (t589.length : Int) = 0 then (laws_FnDyTops.j0 k t594 true t588 t589 t592) else (if t594 > 3000 then (laws_FnDyTops.j0 k t594 true t588 t589 t592) else (laws_FnDyTops.j0 k t594 (decide (t594 ≤ (-3000))) t588 t589 t592))) else (laws_FnDyTops.j0 k t594 true t588 t589 t592)) = some true := H
  have A10 := Aside0.mk A100
  clear A100
  by_cases c11 : t595 = true
  ·subst c11
   have H1 : (if (t589.length : Int) = 0 then (laws_FnDyTops.j0 k t594 true t588 t589 t592) else (if t594 > 3000 then (laws_FnDyTops.j0 k t594 true t588 t589 t592) else (laws_FnDyTops.j0 k t594 (decide (t594 ≤ (-3000))) t588 t589 t592))) = some true := by rw [if_pos rfl] at H; exact H
   clear H
   have H := H1
   clear H1
   by_cases c12 : (t589.length : Int) = 0
   ·rw [if_pos c12] at H
    have c12b0 : ((t589.length : Int) == 0) = true := beq_iff_eq.mpr c12
    have c12b1 : ((t589.length : Int) != 0) = false := bne_eq_false_iff_eq.mpr c12
    clear c12
    (first | rw [c12b0] | (simp only [i64_w, i32_w]; rw [c12b0]) | skip)
    have H' := Aside0.mk H
    clear H
    have hcz13_0 : w9.cell? ⟨gb593, 0, none⟩ = some (.bool t588) := (blk_cell BK593.out 0).trans rfl
    have hcz13_1 : w9.cell? ⟨gb593, 1, none⟩ = some (.slice Ao8 t589.length co8) := (blk_cell BK593.out 1).trans rfl
    have hcz13_2 : w9.cell? ⟨gb593, 2, none⟩ = some (.int .i64 t592) := (blk_cell BK593.out 2).trans rfl
    have hfz13_0 := blk_frozen BK593.out 0
    have hfz13_1 := blk_frozen BK593.out 1
    have hfz13_2 := blk_frozen BK593.out 2
    go_wp2_with (first | ((with_reducible refine gate_callee (f := 32) rfl ?_); refine goesL_ (some 11) rfl rfl Try.func32 (by kernel_rfl) rfl #[.agg #[.bool t588, .slice Ao8 t589.length co8, .int .i64 t592]] rfl hkL ?_; (with_reducible refine (spec_DyOk.calls k t588 _ _ t589 t592 true _ ?side1 ?side2 A10.out).mono ?_); (case side1 => exact hkC ((Kd.R_reads' HO591.out).2.2)); (case side2 => exact (Kd.R_reads' HO591.out).2.1); rintro e w14 ⟨rfl, hb⟩; refine ⟨_, rfl, ?_⟩; have n0_ := hkRb HO591 hb; have n1_ := hkBb BK593 hb; have n2_ := hkU HB hb; clear HO591; clear BK593; clear HB; have HO591 := n0_; have BK593 := n1_; have HB := n2_; clear n0_ n1_ n2_; (try clear hb); (try clear hb2); (try clear hk); (try clear hi); have hcz15_0 : w14.cell? ⟨gb593, 0, none⟩ = some (.bool t588) := (blk_cell BK593.out 0).trans rfl; have hcz15_1 : w14.cell? ⟨gb593, 1, none⟩ = some (.slice Ao8 t589.length co8) := (blk_cell BK593.out 1).trans rfl; have hcz15_2 : w14.cell? ⟨gb593, 2, none⟩ = some (.int .i64 t592) := (blk_cell BK593.out 2).trans rfl; have hfz15_0 := blk_frozen BK593.out 0; have hfz15_1 := blk_frozen BK593.out 1; have hfz15_2 := blk_frozen BK593.out 2))
    go_meet
    case rel => exact ⟨_, (true), (by first | rfl | (simp; done) | (simp [*]; done)), H', ⟨by first | omega | exact Nat.le_refl _⟩, ⟨by (with_reducible repeat (first | apply Kd.R_alloc | apply Kd.R_drewN | apply Kd.R_drew)); exact HO591.out⟩, ⟨by refine hkz ?_; exact BK593.out⟩, ⟨hkS HB⟩⟩
   ·rw [if_neg c12] at H
    have c12b0 : ((t589.length : Int) == 0) = false := beq_eq_false_iff_ne.mpr c12
    have c12b1 : ((t589.length : Int) != 0) = true := bne_iff_ne.mpr c12
    have c12b2 : ¬ (t589 = []) := fun h_ => c12 (by rw [h_]; rfl)
    (first | rw [c12b0] | (simp only [i64_w, i32_w]; rw [c12b0]) | skip)
    by_cases c16 : t594 > 3000
    ·rw [if_pos c16] at H
     have c16b0 : decide (3000 < t594) = true := decide_eq_true c16
     clear c16
     have H' := Aside0.mk H
     clear H
     have hcz17_0 : w9.cell? ⟨gb593, 0, none⟩ = some (.bool t588) := (blk_cell BK593.out 0).trans rfl
     have hcz17_1 : w9.cell? ⟨gb593, 1, none⟩ = some (.slice Ao8 t589.length co8) := (blk_cell BK593.out 1).trans rfl
     have hcz17_2 : w9.cell? ⟨gb593, 2, none⟩ = some (.int .i64 t592) := (blk_cell BK593.out 2).trans rfl
     have hfz17_0 := blk_frozen BK593.out 0
     have hfz17_1 := blk_frozen BK593.out 1
     have hfz17_2 := blk_frozen BK593.out 2
     go_wp2_with (first | ((with_reducible refine gate_callee (f := 32) rfl ?_); refine goesL_ (some 11) rfl rfl Try.func32 (by kernel_rfl) rfl #[.agg #[.bool t588, .slice Ao8 t589.length co8, .int .i64 t592]] rfl hkL ?_; (with_reducible refine (spec_DyOk.calls k t588 _ _ t589 t592 true _ ?side1 ?side2 A10.out).mono ?_); (case side1 => exact hkC ((Kd.R_reads' HO591.out).2.2)); (case side2 => exact (Kd.R_reads' HO591.out).2.1); rintro e w18 ⟨rfl, hb⟩; refine ⟨_, rfl, ?_⟩; have n0_ := hkRb HO591 hb; have n1_ := hkBb BK593 hb; have n2_ := hkU HB hb; clear HO591; clear BK593; clear HB; have HO591 := n0_; have BK593 := n1_; have HB := n2_; clear n0_ n1_ n2_; (try clear hb); (try clear hb2); (try clear hk); (try clear hi); have hcz19_0 : w18.cell? ⟨gb593, 0, none⟩ = some (.bool t588) := (blk_cell BK593.out 0).trans rfl; have hcz19_1 : w18.cell? ⟨gb593, 1, none⟩ = some (.slice Ao8 t589.length co8) := (blk_cell BK593.out 1).trans rfl; have hcz19_2 : w18.cell? ⟨gb593, 2, none⟩ = some (.int .i64 t592) := (blk_cell BK593.out 2).trans rfl; have hfz19_0 := blk_frozen BK593.out 0; have hfz19_1 := blk_frozen BK593.out 1; have hfz19_2 := blk_frozen BK593.out 2))
     go_meet
     case rel => exact ⟨_, (true), (by first | rfl | (simp; done) | (simp [*]; done)), H', ⟨by first | omega | exact Nat.le_refl _⟩, ⟨by (with_reducible repeat (first | apply Kd.R_alloc | apply Kd.R_drewN | apply Kd.R_drew)); exact HO591.out⟩, ⟨by refine hkz ?_; exact BK593.out⟩, ⟨hkS HB⟩⟩
    ·rw [if_neg c16] at H
     have c16b0 : decide (3000 < t594) = false := decide_eq_false c16
     clear c16
     have H' := Aside0.mk H
     clear H
     have hcz20_0 : w9.cell? ⟨gb593, 0, none⟩ = some (.bool t588) := (blk_cell BK593.out 0).trans rfl
     have hcz20_1 : w9.cell? ⟨gb593, 1, none⟩ = some (.slice Ao8 t589.length co8) := (blk_cell BK593.out 1).trans rfl
     have hcz20_2 : w9.cell? ⟨gb593, 2, none⟩ = some (.int .i64 t592) := (blk_cell BK593.out 2).trans rfl
     have hfz20_0 := blk_frozen BK593.out 0
     have hfz20_1 := blk_frozen BK593.out 1
     have hfz20_2 := blk_frozen BK593.out 2
     go_wp2_with (first | ((with_reducible refine gate_callee (f := 32) rfl ?_); refine goesL_ (some 11) rfl rfl Try.func32 (by kernel_rfl) rfl #[.agg #[.bool t588, .slice Ao8 t589.length co8, .int .i64 t592]] rfl hkL ?_; (with_reducible refine (spec_DyOk.calls k t588 _ _ t589 t592 true _ ?side1 ?side2 A10.out).mono ?_); (case side1 => exact hkC ((Kd.R_reads' HO591.out).2.2)); (case side2 => exact (Kd.R_reads' HO591.out).2.1); rintro e w21 ⟨rfl, hb⟩; refine ⟨_, rfl, ?_⟩; have n0_ := hkRb HO591 hb; have n1_ := hkBb BK593 hb; have n2_ := hkU HB hb; clear HO591; clear BK593; clear HB; have HO591 := n0_; have BK593 := n1_; have HB := n2_; clear n0_ n1_ n2_; (try clear hb); (try clear hb2); (try clear hk); (try clear hi); have hcz22_0 : w21.cell? ⟨gb593, 0, none⟩ = some (.bool t588) := (blk_cell BK593.out 0).trans rfl; have hcz22_1 : w21.cell? ⟨gb593, 1, none⟩ = some (.slice Ao8 t589.length co8) := (blk_cell BK593.out 1).trans rfl; have hcz22_2 : w21.cell? ⟨gb593, 2, none⟩ = some (.int .i64 t592) := (blk_cell BK593.out 2).trans rfl; have hfz22_0 := blk_frozen BK593.out 0; have hfz22_1 := blk_frozen BK593.out 1; have hfz22_2 := blk_frozen BK593.out 2))
     go_meet
     case rel => exact ⟨_, (decide (t594 ≤ (-3000))), (by first | rfl | (simp; done) | (simp [*]; done)), H', ⟨by first | omega | exact Nat.le_refl _⟩, ⟨by (with_reducible repeat (first | apply Kd.R_alloc | apply Kd.R_drewN | apply Kd.R_drew)); exact HO591.out⟩, ⟨by refine hkz ?_; exact BK593.out⟩, ⟨hkS HB⟩⟩
  ·replace c11 := Bool.eq_false_iff.mpr c11
   subst c11
   have H1 : (laws_FnDyTops.j0 k t594 true t588 t589 t592) = some true := by rw [if_neg (show ¬ (false = true) by decide)] at H; exact H
   clear H
   have H := H1
   clear H1
   have H' := Aside0.mk H
   clear H
   have hcz23_0 : w9.cell? ⟨gb593, 0, none⟩ = some (.bool t588) := (blk_cell BK593.out 0).trans rfl
   have hcz23_1 : w9.cell? ⟨gb593, 1, none⟩ = some (.slice Ao8 t589.length co8) := (blk_cell BK593.out 1).trans rfl
   have hcz23_2 : w9.cell? ⟨gb593, 2, none⟩ = some (.int .i64 t592) := (blk_cell BK593.out 2).trans rfl
   have hfz23_0 := blk_frozen BK593.out 0
   have hfz23_1 := blk_frozen BK593.out 1
   have hfz23_2 := blk_frozen BK593.out 2
   go_wp2_with (first | ((with_reducible refine gate_callee (f := 32) rfl ?_); refine goesL_ (some 11) rfl rfl Try.func32 (by kernel_rfl) rfl #[.agg #[.bool t588, .slice Ao8 t589.length co8, .int .i64 t592]] rfl hkL ?_; (with_reducible refine (spec_DyOk.calls k t588 _ _ t589 t592 false _ ?side1 ?side2 A10.out).mono ?_); (case side1 => exact hkC ((Kd.R_reads' HO591.out).2.2)); (case side2 => exact (Kd.R_reads' HO591.out).2.1); rintro e w24 ⟨rfl, hb⟩; refine ⟨_, rfl, ?_⟩; have n0_ := hkRb HO591 hb; have n1_ := hkBb BK593 hb; have n2_ := hkU HB hb; clear HO591; clear BK593; clear HB; have HO591 := n0_; have BK593 := n1_; have HB := n2_; clear n0_ n1_ n2_; (try clear hb); (try clear hb2); (try clear hk); (try clear hi)))
   go_meet
   case rel => exact ⟨_, (true), (by first | rfl | (simp; done) | (simp [*]; done)), H', ⟨by first | omega | exact Nat.le_refl _⟩, ⟨by (with_reducible repeat (first | apply Kd.R_alloc | apply Kd.R_drewN | apply Kd.R_drew)); exact HO591.out⟩, ⟨by refine hkz ?_; exact BK593.out⟩, ⟨hkS HB⟩⟩
 case rest =>
  clear HC4
  try clear c1
  try clear p2
  try clear c3
  try clear c7
  try clear c11
  try clear c12
  try clear c12b0
  try clear c12b1
  try clear c12b2
  try clear c16
  try clear c16b0
  try clear hcz13_0
  try clear hcz13_1
  try clear hcz13_2
  try clear hcz15_0
  try clear hcz15_1
  try clear hcz15_2
  try clear hcz17_0
  try clear hcz17_1
  try clear hcz17_2
  try clear hcz19_0
  try clear hcz19_1
  try clear hcz19_2
  try clear hcz20_0
  try clear hcz20_1
  try clear hcz20_2
  try clear hcz22_0
  try clear hcz22_1
  try clear hcz22_2
  try clear hcz23_0
  try clear hcz23_1
  try clear hcz23_2
  try clear hcz7_0
  try clear hcz7_1
  try clear hcz7_2
  try clear hfz13_0
  try clear hfz13_1
  try clear hfz13_2
  try clear hfz15_0
  try clear hfz15_1
  try clear hfz15_2
  try clear hfz17_0
  try clear hfz17_1
  try clear hfz17_2
  try clear hfz19_0
  try clear hfz19_1
  try clear hfz19_2
  try clear hfz20_0
  try clear hfz20_1
  try clear hfz20_2
  try clear hfz22_0
  try clear hfz22_1
  try clear hfz22_2
  try clear hfz23_0
  try clear hfz23_1
  try clear hfz23_2
  try clear hfz7_0
  try clear hfz7_1
  try clear hfz7_2
  obtain ⟨kq, x28_3, rfl, HA, HJ3, HO_594001, BK593, HB⟩ := hcut
  cases kq with
  | zero => exact absurd HA.out (by simp [laws_FnDyTops.j0])
  | succ kj3 =>
   have H := HA.out
   clear HA
   simp only [laws_FnDyTops.j0] at H
   by_cases c25 : x28_3 = true
   ·subst c25
    have H1 : ((laws_dy.f kj3 5 1).bind fun bt596 => ((impl_DyTop.f bt596.1 bt596.2.1 bt596.2.2).bind fun t601 => (some (t601 == 4)))) = some true := by rw [if_pos rfl] at H; exact H
    clear H
    have H := H1
    clear H1
    replace H := Option.bind_eq_some_iff.mp H
    obtain ⟨⟨t596, t597, t600⟩, A260, H⟩ := H
    replace H : ((impl_DyTop.f t596 t597 t600).bind fun t601 => (some (t601 == 4))) = some true := H
    have A26 := Aside0.mk A260
    clear A260
    replace H := Option.bind_eq_some_iff.mp H
    obtain ⟨t601, A270, H⟩ := H
    replace H : (some (t601 == 4)) = some true := H
    have A27 := Aside0.mk A270
    clear A270
    have hr_ := Option.some.inj H
    clear H
    go_wp2_with (first | ((with_reducible refine gate_callee (f := 33) rfl ?_); refine goesL_ (some 29) rfl rfl Try.func33 (by kernel_rfl) rfl #[.int .i64 5, .int .i64 1] rfl hkL ?_; (with_reducible refine (laws_dy.calls kj3 5 1 t596 t597 t600 _ A26.out).mono ?_); rintro e w28 ⟨v598, rfl, ho0, hb⟩; refine ⟨_, rfl, ?_⟩; have n0_ := Aside0.mk (Kd.R_elder' (hkR HO_594001) (Kd.R_base ho0) hb); have n1_ := Aside0.mk (Kd.R_lower (Kd.R_new' ho0 (Kd.R_lt (hkR HO_594001))) (below_size (hkS HB))); have n2_ := hkBb BK593 hb; have n3_ := hkU HB hb; clear HO_594001; clear BK593; clear HB; have HO_594001 := n0_; have HO599 := n1_; have BK593 := n2_; have HB := n3_; clear n0_ n1_ n2_ n3_; (try clear hb); (try clear hb2); (try clear hk); (try clear hi); (try clear ho0); obtain ⟨Ao29, co29, eo29⟩ := Kd.R_slice HO599.out; subst eo29) | ((with_reducible refine gate_callee (f := 31) rfl ?_); refine goesL_ (some 30) rfl rfl Try.func31 (by kernel_rfl) rfl #[.agg #[.bool t596, .slice Ao29 t597.length co29, .int .i64 t600]] rfl hkL ?_; (with_reducible refine (impl_DyTop.calls t596 _ _ t597 t600 t601 _ ?side1 ?side2 A27.out).mono ?_); (case side1 => exact hkC ((Kd.R_reads' HO599.out).2.2)); (case side2 => exact (Kd.R_reads' HO599.out).2.1); rintro e w30 ⟨rfl, hb⟩; refine ⟨_, rfl, ?_⟩; have n0_ := hkRb HO_594001 hb; have n1_ := hkRb HO599 hb; have n2_ := hkBb BK593 hb; have n3_ := hkU HB hb; clear HO_594001; clear HO599; clear BK593; clear HB; have HO_594001 := n0_; have HO599 := n1_; have BK593 := n2_; have HB := n3_; clear n0_ n1_ n2_ n3_; (try clear hb); (try clear hb2); (try clear hk); (try clear hi)))
    go_ret
    exact ⟨by first | rfl | (rw [hr_]; done) | (simp [errW_none, errW_some] <;> rfl) | (simp [*, errW_none, errW_some] <;> rfl), hkS HB⟩
   ·replace c25 := Bool.eq_false_iff.mpr c25
    subst c25
    have H1 : ((laws_abs.f kj3 t588 t589 t592).bind fun bt602 => ((laws_dy.f kj3 1 t594).bind fun bt608 => ((spec_DyCmp.f kj3 bt602.1 bt602.2.1 bt602.2.2 bt608.1 bt608.2.1 bt608.2.2).bind fun t613 => (if t613 < 0 then ((laws_dy.f kj3 1 (wrap64 (t594 - 1))).bind fun bt614 => ((spec_DyCmp.f kj3 bt602.1 bt602.2.1 bt602.2.2 bt614.1 bt614.2.1 bt614.2.2).bind fun t619 => (some (decide (t619 ≥ 0))))) else (some false))))) = some true := by rw [if_neg (show ¬ (false = true) by decide)] at H; exact H
    clear H
    have H := H1
    clear H1
    replace H := Option.bind_eq_some_iff.mp H
    obtain ⟨⟨t602, t603, t606⟩, A310, H⟩ := H
    replace H : ((laws_dy.f kj3 1 t594).bind fun bt608 => ((spec_DyCmp.f kj3 t602 t603 t606 bt608.1 bt608.2.1 bt608.2.2).bind fun t613 => (if t613 < 0 then ((laws_dy.f kj3 1 (wrap64 (t594 - 1))).bind fun bt614 => ((spec_DyCmp.f kj3 t602 t603 t606 bt614.1 bt614.2.1 bt614.2.2).bind fun t619 => (some (decide (t619 ≥ 0))))) else (some false)))) = some true := H
    have A31 := Aside0.mk A310
    clear A310
    replace H := Option.bind_eq_some_iff.mp H
    obtain ⟨⟨t608, t609, t612⟩, A320, H⟩ := H
    replace H : ((spec_DyCmp.f kj3 t602 t603 t606 t608 t609 t612).bind fun t613 => (if t613 < 0 then ((laws_dy.f kj3 1 (wrap64 (t594 - 1))).bind fun bt614 => ((spec_DyCmp.f kj3 t602 t603 t606 bt614.1 bt614.2.1 bt614.2.2).bind fun t619 => (some (decide (t619 ≥ 0))))) else (some false))) = some true := H
    have A32 := Aside0.mk A320
    clear A320
    replace H := Option.bind_eq_some_iff.mp H
    obtain ⟨t613, A330, H⟩ := H
    replace H : (if t613 < 0 then ((laws_dy.f kj3 1 (wrap64 (t594 - 1))).bind fun bt614 => ((spec_DyCmp.f kj3 t602 t603 t606 bt614.1 bt614.2.1 bt614.2.2).bind fun t619 => (some (decide (t619 ≥ 0))))) else (some false)) = some true := H
    have A33 := Aside0.mk A330
    clear A330
    by_cases c34 : t613 < 0
    ·rw [if_pos c34] at H
     have c34b0 : decide (t613 < 0) = true := decide_eq_true c34
     clear c34
     replace H := Option.bind_eq_some_iff.mp H
     obtain ⟨⟨t614, t615, t618⟩, A350, H⟩ := H
     replace H : ((spec_DyCmp.f kj3 t602 t603 t606 t614 t615 t618).bind fun t619 => (some (decide (t619 ≥ 0)))) = some true := H
     have A35 := Aside0.mk A350
     clear A350
     replace H := Option.bind_eq_some_iff.mp H
     obtain ⟨t619, A360, H⟩ := H
     replace H : (some (decide (t619 ≥ 0))) = some true := H
     have A36 := Aside0.mk A360
     clear A360
     have hr_ := Option.some.inj H
     clear H
     have hcz37_0 : wc.cell? ⟨gb593, 0, none⟩ = some (.bool t588) := (blk_cell BK593.out 0).trans rfl
     have hcz37_1 : wc.cell? ⟨gb593, 1, none⟩ = some (.slice Ao8 t589.length co8) := (blk_cell BK593.out 1).trans rfl
     have hcz37_2 : wc.cell? ⟨gb593, 2, none⟩ = some (.int .i64 t592) := (blk_cell BK593.out 2).trans rfl
     have hfz37_0 := blk_frozen BK593.out 0
     have hfz37_1 := blk_frozen BK593.out 1
     have hfz37_2 := blk_frozen BK593.out 2
     try go_wp2_with (first | ((with_reducible refine gate_callee (f := 34) rfl ?_); refine goesL_ (some 33) rfl rfl Try.func34 (by kernel_rfl) rfl #[.agg #[.bool t588, .slice Ao8 t589.length co8, .int .i64 t592]] rfl hkL ?_; (with_reducible refine (laws_abs.calls kj3 t588 (fun k_ => some k_ = (.slice Ao8 t589.length co8 : Value).ownBlock) (.slice Ao8 t589.length co8) t589 t592 t602 t603 t606 w _ ?side1 ?side2 A31.out).mono ?_); (case side1 => exact hkS HB); (case side2 => exact Kd.R_tight rfl HO_594001.out); rintro e w38 ⟨v604, rfl, ho0, hb, hkp⟩; refine ⟨_, rfl, ?_⟩; have n0_ := Aside0.mk (blk_kept (hkB BK593) hkp (fun hs_ => (fun e_ => (Kd.R_ne HO_594001.out BK593.out (by decide)) e_) hs_)); have n1_ := Aside0.mk (Kd.R_mono (ok' := fun k_ => True) ho0 (fun k_ hk_ => trivial)); have n2_ := Aside0.mk (hb); clear BK593; clear HB; clear HO_594001; have BK593 := n0_; have HO605 := n1_; have HB := n2_; clear n0_ n1_ n2_; (try clear hb); (try clear hkp); (try clear ho0)) | ((with_reducible refine gate_dst (N := 5) rfl ?_); (try (refine gate_guard (by rfl) ?_; dsimp only)); refine box_event ?hg (N := 5) ?hd (cs := #[.bool false, .slice none 0 0, .int .i64 0]) (t := 42) ?hr ?_; (case hd => rfl); (case hg => rfl); (case hr => first | (go_simp; done) | (go_simp; rfl)); intro gb607 hg w39 hbox hb; have n0_ := hkRb HO605 hb; have n1_ := hkBb BK593 hb; have n2_ := hkU HB hb; have n3_ := Aside0.mk (hbox); have n4_ := hkG hg (hkS HB); have n5_ := hkG hg (hkS HB); have n6_ := hkN hg BK593; have n7_ := hkM hg BK593; clear HO605; clear BK593; clear HB; have HO605 := n0_; have BK593 := n1_; have HB := n2_; have BK607 := n3_; have GW607 := n4_; have GE607 := n5_; have NB593_607 := n6_; have NB607_593 := n7_; clear n0_ n1_ n2_ n3_ n4_ n5_ n6_ n7_; clear hb hbox hg; have hnb40 := NB607_593.out; have hnc40 := NB593_607.out; have hcz41_0 : w39.cell? ⟨gb607, 0, none⟩ = some (.bool false) := (blk_cell BK607.out 0).trans rfl; have hcz41_1 : w39.cell? ⟨gb607, 1, none⟩ = some (.slice none 0 0) := (blk_cell BK607.out 1).trans rfl; have hcz41_2 : w39.cell? ⟨gb607, 2, none⟩ = some (.int .i64 0) := (blk_cell BK607.out 2).trans rfl; have hfz41_0 := blk_frozen BK607.out 0; have hfz41_1 := blk_frozen BK607.out 1; have hfz41_2 := blk_frozen BK607.out 2; obtain ⟨Ao42, co42, eo42⟩ := Kd.R_slice HO605.out; subst eo42))
     have n0_ : Aside0 (Kd.R (Kd.int .i64) 3 (((w39.setCell ⟨gb607, 0, none⟩ (.bool t602)).setCell ⟨gb607, 1, none⟩ (.slice Ao42 t603.length co42)).setCell ⟨gb607, 2, none⟩ (.int .i64 t606)) w.heap.size (fun _ => True) (.slice Ao42 t603.length co42) t603) := ⟨by (with_reducible repeat (first | apply Kd.R_alloc | apply Kd.R_drewN | apply Kd.R_drew)); exact Kd.R_mono (Kd.R_far (p := ⟨gb607, 2, none⟩) (Kd.R_far (p := ⟨gb607, 1, none⟩) (Kd.R_far (p := ⟨gb607, 0, none⟩) (Kd.R_types HO605.out BK607.out (by decide)) (fun _ hk => hk.2) (.bool t602)) (fun _ hk => hk.2) (.slice Ao42 t603.length co42)) (fun _ hk => hk.2) (.int .i64 t606)) (fun _ hk => trivial)⟩
     have n1_ : Aside0 ((((w39.setCell ⟨gb607, 0, none⟩ (.bool t602)).setCell ⟨gb607, 1, none⟩ (.slice Ao42 t603.length co42)).setCell ⟨gb607, 2, none⟩ (.int .i64 t606)).heap[gb593]? = some (.cells #[.bool t588, .slice Ao8 t589.length co8, .int .i64 t592] 42 (0, 0))) := ⟨by refine hkz ?_; refine blk_far ?_ NB593_607.out _; refine hkz ?_; refine blk_far ?_ NB593_607.out _; refine hkz ?_; refine blk_far ?_ NB593_607.out _; refine hkz ?_; exact BK593.out⟩
     have n2_ : Aside0 ((((w39.setCell ⟨gb607, 0, none⟩ (.bool t602)).setCell ⟨gb607, 1, none⟩ (.slice Ao42 t603.length co42)).setCell ⟨gb607, 2, none⟩ (.int .i64 t606)).heap[gb607]? = some (.cells #[.bool t602, .slice Ao42 t603.length co42, .int .i64 t606] 42 (0, 0))) := ⟨by refine hkz ?_; refine blk_put (cs := #[.bool t602, .slice Ao42 t603.length co42, .int .i64 0]) ?_ 2 _ rfl; refine hkz ?_; refine blk_put (cs := #[.bool t602, .slice none 0 0, .int .i64 0]) ?_ 1 _ rfl; refine hkz ?_; refine blk_put (cs := #[.bool false, .slice none 0 0, .int .i64 0]) ?_ 0 _ rfl; refine hkz ?_; exact BK607.out⟩
     have n3_ : Aside0 (Below w.heap.size w (((w39.setCell ⟨gb607, 0, none⟩ (.bool t602)).setCell ⟨gb607, 1, none⟩ (.slice Ao42 t603.length co42)).setCell ⟨gb607, 2, none⟩ (.int .i64 t606))) := ⟨hkS HB⟩
     (try clear HO605)
     (try clear BK593)
     (try clear BK607)
     (try clear HB)
     generalize (((w39.setCell ⟨gb607, 0, none⟩ (.bool t602)).setCell ⟨gb607, 1, none⟩ (.slice Ao42 t603.length co42)).setCell ⟨gb607, 2, none⟩ (.int .i64 t606)) = w43 at n0_ n1_ n2_ n3_ ⊢
     have HO605 := n0_
     have BK593 := n1_
     have BK607 := n2_
     have HB := n3_
     clear n0_ n1_ n2_ n3_
     have n0_ := Aside0.mk (Kd.R_drew HO605.out)
     have n1_ := Aside0.mk (blk_drew BK593.out)
     have n2_ := Aside0.mk (blk_drew BK607.out)
     have n3_ := Aside0.mk (below_drew1 HB.out)
     clear HO605
     clear BK593
     clear BK607
     clear HB
     have HO605 := n0_
     have BK593 := n1_
     have BK607 := n2_
     have HB := n3_
     clear n0_ n1_ n2_ n3_
     refine start_ (n := 14) (S := fun w' => w'.cell? ⟨gb607, 0, none⟩ = some (.bool t602) ∧ w'.cell? ⟨gb607, 1, none⟩ = some (.slice Ao42 t603.length co42) ∧ w'.cell? ⟨gb607, 2, none⟩ = some (.int .i64 t606)) (ds := []) #[false, false, false, false, false, false, false, false, false, false, false, false, false, false] (by kernel_rfl) rfl rfl ⟨(blk_cell BK607.out 0).trans rfl, (blk_cell BK607.out 1).trans rfl, (blk_cell BK607.out 2).trans rfl⟩ (fun hHeld => ?_); refine with_tabW laws_FnDyTops.tab6 laws_FnDyTops.bits6 (fun HT_ HW_ => ?_)
     generalize w43.drew = w44 at HO605 BK593 BK607 HB hHeld ⊢
     refine pure_ (i := 1) (N := some 35) (v := ?_) (a' := ?_) #[false, true, false, false, false, false, false, false, false, false, false, false, false, false] rfl rfl (any_of HT_.out (by kernel_rfl)) (fun _ _ _ h => h) (Or.inl ⟨by rfl, ?_⟩) ?_ ?_
     rotate_left
     ·intro w'
      go_simp
      with_reducible rfl
     rotate_left
     ·simp only [Act.put, List.setIfInBounds_toArray, List.set_cons_zero, List.set_cons_succ, i64_w, i32_w]
      rfl
     refine take_ (i := 0) (N := some 34) (v := ?_) (a' := ?_) #[true, true, false, false, false, false, false, false, false, false, false, false, false, false] rfl rfl (take_ofW HT_.out HW_.out (by kernel_rfl)) (fun _ _ _ h => h) (Or.inl ⟨by rfl, ?_⟩) hHeld ?_ ?_
     rotate_left
     ·rintro w' ⟨s0, s1, s2⟩
      go_simp
      with_reducible rfl
     rotate_left
     ·simp only [Act.put, List.setIfInBounds_toArray, List.set_cons_zero, List.set_cons_succ, i64_w, i32_w]
      rfl
     refine one_ (i := 2) (N := some 36) #[true, true, true, false, false, false, false, false, false, false, false, false, false, false] rfl rfl (one_of HT_.out (by kernel_rfl)) (by decide) (fun K hK => ?_)
     refine goes_ Try.func33 (by kernel_rfl) rfl #[.int .i64 1, .int .i64 t594] (by rfl) rfl rfl hkL ?_
     with_reducible refine (laws_dy.calls kj3 1 t594 t608 t609 t612 _ A32.out).mono ?_
     rintro e w45 ⟨v610, rfl, ho0, hb⟩
     refine ⟨_, rfl, ?_⟩
     have n0_ := Aside0.mk (Kd.R_elder' (hkR HO605) (Kd.R_base ho0) hb)
     have n1_ := Aside0.mk (Kd.R_lower (Kd.R_new' ho0 (Kd.R_lt (hkR HO605))) (below_size (hkS HB)))
     have n2_ := hkBb BK593 hb
     have n3_ := hkBb BK607 hb
     have n4_ := hkU HB hb
     clear HO605
     clear BK593
     clear BK607
     clear HB
     have HO605 := n0_
     have HO611 := n1_
     have BK593 := n2_
     have BK607 := n3_
     have HB := n4_
     clear n0_ n1_ n2_ n3_ n4_
     (try clear hb)
     (try clear hb2)
     (try clear hk)
     (try clear hi)
     (try clear ho0)
     obtain ⟨Ao46, co46, eo46⟩ := Kd.R_slice HO611.out
     (first | subst eo46 | (injection eo46 with f1_ f2_ f3_; have f4_ := f1_.symm; have f5_ := f3_.symm; clear f1_ f2_ f3_; subst f4_; subst f5_))
     refine hK.out _ _ ⟨(blk_cell BK607.out 0).trans rfl, (blk_cell BK607.out 1).trans rfl, (blk_cell BK607.out 2).trans rfl⟩ (fun hHeld => ?_)
     clear hK K
     refine norm_ (a' := ?_) ?_ ?_
     rotate_left
     ·show Act.put _ (some 36) _ = _
      simp only [Act.put, List.setIfInBounds_toArray, List.set_cons_zero, List.set_cons_succ, i64_w, i32_w]
      rfl
     refine one_ (i := 3) (N := some 37) #[true, true, true, true, false, false, false, false, false, false, false, false, false, false] rfl rfl (one_of HT_.out (by kernel_rfl)) (by decide) (fun K hK => ?_)
     refine goes_ Try.func14 (by kernel_rfl) rfl #[.agg #[.bool t602, .slice Ao42 t603.length co42, .int .i64 t606], .agg #[.bool t608, .slice Ao46 t609.length co46, .int .i64 t612]] (by rfl) rfl rfl hkL ?_
     with_reducible refine (spec_DyCmp.calls kj3 t602 _ _ t603 t606 t608 _ _ t609 t612 t613 _ ?side1 ?side2 ?side3 ?side4 A33.out).mono ?_
     (case side1 => exact hkC ((Kd.R_reads' HO605.out).2.2))
     (case side2 => exact (Kd.R_reads' HO605.out).2.1)
     (case side3 => exact hkC ((Kd.R_reads' HO611.out).2.2))
     (case side4 => exact (Kd.R_reads' HO611.out).2.1)
     rintro e w47 ⟨rfl, hb⟩
     refine ⟨_, rfl, ?_⟩
     have n0_ := hkRb HO605 hb
     have n1_ := hkRb HO611 hb
     have n2_ := hkBb BK593 hb
     have n3_ := hkBb BK607 hb
     have n4_ := hkU HB hb
     clear HO605
     clear HO611
     clear BK593
     clear BK607
     clear HB
     have HO605 := n0_
     have HO611 := n1_
     have BK593 := n2_
     have BK607 := n3_
     have HB := n4_
     clear n0_ n1_ n2_ n3_ n4_
     (try clear hb)
     (try clear hb2)
     (try clear hk)
     (try clear hi)
     refine hK.out _ _ ⟨(blk_cell BK607.out 0).trans rfl, (blk_cell BK607.out 1).trans rfl, (blk_cell BK607.out 2).trans rfl⟩ (fun hHeld => ?_)
     clear hK K
     refine norm_ (a' := ?_) ?_ ?_
     rotate_left
     ·show Act.put _ (some 37) _ = _
      simp only [Act.put, List.setIfInBounds_toArray, List.set_cons_zero, List.set_cons_succ, i64_w, i32_w]
      rfl
     refine pure_ (i := 4) (N := some 38) (v := ?_) (a' := ?_) #[true, true, true, true, true, false, false, false, false, false, false, false, false, false] rfl rfl (any_of HT_.out (by kernel_rfl)) (fun _ _ _ h => h) (Or.inl ⟨by rfl, ?_⟩) ?_ ?_
     rotate_left
     ·intro w'
      go_simp
      with_reducible rfl
     rotate_left
     ·simp only [Act.put, List.setIfInBounds_toArray, List.set_cons_zero, List.set_cons_succ, i64_w, i32_w]
      rfl
     refine pure_ (i := 5) (N := some 39) (v := ?_) (a' := ?_) #[true, true, true, true, true, true, false, false, false, false, false, false, false, false] rfl rfl (any_of HT_.out (by kernel_rfl)) (fun _ _ _ h => h) (Or.inl ⟨by rfl, ?_⟩) ?_ ?_
     rotate_left
     ·intro w'
      go_simp
      with_reducible rfl
     rotate_left
     ·simp only [Act.put, List.setIfInBounds_toArray, List.set_cons_zero, List.set_cons_succ, i64_w, i32_w]
      rfl
     refine pure_ (i := 7) (N := some 41) (v := ?_) (a' := ?_) #[true, true, true, true, true, true, false, true, false, false, false, false, false, false] rfl rfl (any_of HT_.out (by kernel_rfl)) (fun _ _ _ h => h) (Or.inl ⟨by rfl, ?_⟩) ?_ ?_
     rotate_left
     ·intro w'
      go_simp
      with_reducible rfl
     rotate_left
     ·simp only [Act.put, List.setIfInBounds_toArray, List.set_cons_zero, List.set_cons_succ, i64_w, i32_w]
      rfl
     refine pure_ (i := 8) (N := some 42) (v := ?_) (a' := ?_) #[true, true, true, true, true, true, false, true, true, false, false, false, false, false] rfl rfl (any_of HT_.out (by kernel_rfl)) (fun _ _ _ h => h) (Or.inl ⟨by rfl, ?_⟩) ?_ ?_
     rotate_left
     ·intro w'
      go_simp
      with_reducible rfl
     rotate_left
     ·simp only [Act.put, List.setIfInBounds_toArray, List.set_cons_zero, List.set_cons_succ, i64_w, i32_w]
      rfl
     refine take_ (i := 6) (N := some 40) (v := ?_) (a' := ?_) #[true, true, true, true, true, true, true, true, true, false, false, false, false, false] rfl rfl (take_ofW HT_.out HW_.out (by kernel_rfl)) (fun _ _ _ h => h) (Or.inl ⟨by rfl, ?_⟩) hHeld ?_ ?_
     rotate_left
     ·rintro w' ⟨s0, s1, s2⟩
      go_simp
      with_reducible rfl
     rotate_left
     ·simp only [Act.put, List.setIfInBounds_toArray, List.set_cons_zero, List.set_cons_succ, i64_w, i32_w]
      rfl
     refine one_ (i := 9) (N := some 43) #[true, true, true, true, true, true, true, true, true, true, false, false, false, false] rfl rfl (one_of HT_.out (by kernel_rfl)) (by decide) (fun K hK => ?_)
     refine goes_ Try.func33 (by kernel_rfl) rfl #[.int .i64 1, .int .i64 (wrap64 (t594 - 1))] (by rfl) rfl rfl hkL ?_
     with_reducible refine (laws_dy.calls kj3 1 (wrap64 (t594 - 1)) t614 t615 t618 _ A35.out).mono ?_
     rintro e w48 ⟨v616, rfl, ho0, hb⟩
     refine ⟨_, rfl, ?_⟩
     have n0_ := Aside0.mk (Kd.R_elder' (hkR HO605) (Kd.R_base ho0) hb)
     have n1_ := Aside0.mk (Kd.R_elder' (hkR HO611) (Kd.R_base ho0) hb)
     have n2_ := Aside0.mk (Kd.R_lower (Kd.R_new' (Kd.R_new' ho0 (Kd.R_lt (hkR HO605))) (Kd.R_lt (hkR HO611))) (below_size (hkS HB)))
     have n3_ := hkBb BK593 hb
     have n4_ := hkBb BK607 hb
     have n5_ := hkU HB hb
     clear HO605
     clear HO611
     clear BK593
     clear BK607
     clear HB
     have HO605 := n0_
     have HO611 := n1_
     have HO617 := n2_
     have BK593 := n3_
     have BK607 := n4_
     have HB := n5_
     clear n0_ n1_ n2_ n3_ n4_ n5_
     (try clear hb)
     (try clear hb2)
     (try clear hk)
     (try clear hi)
     (try clear ho0)
     obtain ⟨Ao49, co49, eo49⟩ := Kd.R_slice HO617.out
     (first | subst eo49 | (injection eo49 with f1_ f2_ f3_; have f4_ := f1_.symm; have f5_ := f3_.symm; clear f1_ f2_ f3_; subst f4_; subst f5_))
     refine hK.out _ _ ⟨(blk_cell BK607.out 0).trans rfl, (blk_cell BK607.out 1).trans rfl, (blk_cell BK607.out 2).trans rfl⟩ (fun hHeld => ?_)
     clear hK K
     refine norm_ (a' := ?_) ?_ ?_
     rotate_left
     ·show Act.put _ (some 43) _ = _
      simp only [Act.put, List.setIfInBounds_toArray, List.set_cons_zero, List.set_cons_succ, i64_w, i32_w]
      rfl
     refine one_ (i := 10) (N := some 44) #[true, true, true, true, true, true, true, true, true, true, true, false, false, false] rfl rfl (one_of HT_.out (by kernel_rfl)) (by decide) (fun K hK => ?_)
     refine goes_ Try.func14 (by kernel_rfl) rfl #[.agg #[.bool t602, .slice Ao42 t603.length co42, .int .i64 t606], .agg #[.bool t614, .slice Ao49 t615.length co49, .int .i64 t618]] (by rfl) rfl rfl hkL ?_
     with_reducible refine (spec_DyCmp.calls kj3 t602 _ _ t603 t606 t614 _ _ t615 t618 t619 _ ?side1 ?side2 ?side3 ?side4 A36.out).mono ?_
     (case side1 => exact hkC ((Kd.R_reads' HO605.out).2.2))
     (case side2 => exact (Kd.R_reads' HO605.out).2.1)
     (case side3 => exact hkC ((Kd.R_reads' HO617.out).2.2))
     (case side4 => exact (Kd.R_reads' HO617.out).2.1)
     rintro e w50 ⟨rfl, hb⟩
     refine ⟨_, rfl, ?_⟩
     have n0_ := hkRb HO605 hb
     have n1_ := hkRb HO611 hb
     have n2_ := hkRb HO617 hb
     have n3_ := hkBb BK593 hb
     have n4_ := hkBb BK607 hb
     have n5_ := hkU HB hb
     clear HO605
     clear HO611
     clear HO617
     clear BK593
     clear BK607
     clear HB
     have HO605 := n0_
     have HO611 := n1_
     have HO617 := n2_
     have BK593 := n3_
     have BK607 := n4_
     have HB := n5_
     clear n0_ n1_ n2_ n3_ n4_ n5_
     (try clear hb)
     (try clear hb2)
     (try clear hk)
     (try clear hi)
     refine hK.out _ _ ⟨(blk_cell BK607.out 0).trans rfl, (blk_cell BK607.out 1).trans rfl, (blk_cell BK607.out 2).trans rfl⟩ (fun hHeld => ?_)
     clear hK K
     refine norm_ (a' := ?_) ?_ ?_
     rotate_left
     ·show Act.put _ (some 44) _ = _
      simp only [Act.put, List.setIfInBounds_toArray, List.set_cons_zero, List.set_cons_succ, i64_w, i32_w]
      rfl
     refine pure_ (i := 11) (N := some 45) (v := ?_) (a' := ?_) #[true, true, true, true, true, true, true, true, true, true, true, true, false, false] rfl rfl (any_of HT_.out (by kernel_rfl)) (fun _ _ _ h => h) (Or.inl ⟨by rfl, ?_⟩) ?_ ?_
     rotate_left
     ·intro w'
      go_simp
      with_reducible rfl
     rotate_left
     ·simp only [Act.put, List.setIfInBounds_toArray, List.set_cons_zero, List.set_cons_succ, i64_w, i32_w]
      rfl
     refine pure_ (i := 12) (N := some 46) (v := ?_) (a' := ?_) #[true, true, true, true, true, true, true, true, true, true, true, true, true, false] rfl rfl (any_of HT_.out (by kernel_rfl)) (fun _ _ _ h => h) (Or.inl ⟨by rfl, ?_⟩) ?_ ?_
     rotate_left
     ·intro w'
      go_simp
      with_reducible rfl
     rotate_left
     ·simp only [Act.put, List.setIfInBounds_toArray, List.set_cons_zero, List.set_cons_succ, i64_w, i32_w]
      rfl
     refine pure_ (i := 13) (N := some 2) (v := ?_) (a' := ?_) #[true, true, true, true, true, true, true, true, true, true, true, true, true, true] rfl rfl (any_of HT_.out (by kernel_rfl)) (fun _ _ _ h => h) (Or.inl ⟨by rfl, ?_⟩) ?_ ?_
     rotate_left
     ·intro w'
      go_simp
      with_reducible rfl
     rotate_left
     ·simp only [Act.put, List.setIfInBounds_toArray, List.set_cons_zero, List.set_cons_succ, i64_w, i32_w]
      rfl
     refine done_ (done_of HT_.out (by kernel_rfl)) ?_
     try go_wp2
     go_ret
     exact ⟨by first | rfl | (rw [hr_]; done) | (simp [errW_none, errW_some] <;> rfl) | (simp [*, errW_none, errW_some] <;> rfl), hkS HB⟩
    ·rw [if_neg c34] at H
     have c34b0 : decide (t613 < 0) = false := decide_eq_false c34
     clear c34
     exact absurd (Option.some.inj H) (by decide)
/-- THE ONE PURE STATEMENT of laws_FnDyTops. -/
def laws_FnDyTops.Pure : Prop := ∀ (l0 : List Int), l0.length ≤ maxLen → l0.length * 1 ≤ 140737488351232 → (∀ x ∈ l0, (Lit.int .u8 x).wf = true) → ∃ k, laws_FnDyTops.f k l0 = some true
theorem laws_FnDyTops.walk (P : laws_FnDyTops.Pure) (a0 : Option Addr) (len0 cap0 : Nat) (z0 : List Int) (w : World) (w0 : ((a0 = none ∧ len0 = 0 ∧ cap0 = 0 ∧ z0 = []) ∨ ∃ x, a0 = some x ∧ len0 ≤ cap0 ∧ cap0 ≤ maxLen ∧ z0.length = cap0 ∧ (∀ i, i < z0.length → w.cell? (x.add i) = some (.int .u8 (z0.getD i 0))) ∧ ∀ n ∈ z0, (Lit.int .u8 n).wf = true)) (y0 : len0 * 1 ≤ 140737488351232) :
  Calls Try.prog 7 #[.slice a0 len0 cap0] w fun e w' => e = .returned (.bool true) ∧ Below w.heap.size w w' := by
 obtain ⟨l0, rfl, hr0, hm0, hw0, hc0⟩ := ReadsInt.ofRowC w0
 obtain ⟨k, h⟩ := P l0 hm0 y0 hw0
 refine (laws_FnDyTops.calls k _ _ l0 w (Kd.C_of_reads (d := (0 : Int)) (h1 := fun _ => rfl) hr0) hc0 h).mono ?_
 rintro e w' ⟨rfl, hd⟩
 exact ⟨rfl, hd⟩

end Go.Proofs.Ytgjpahofopoflaa.PFnDyTops
