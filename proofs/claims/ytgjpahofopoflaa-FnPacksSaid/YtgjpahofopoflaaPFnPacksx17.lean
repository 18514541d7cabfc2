-- Written by our own driver (wip/hand/hprint.py) over the seat's translation.
import Derived.Test.YtgjpahofopoflaaPFnPacksx0
import Derived.Test.YtgjpahofopoflaaPFnPacksx12
import Derived.Test.YtgjpahofopoflaaPFnPacksx15
import Derived.Test.YtgjpahofopoflaaPFnPacksx16
namespace Go.Proofs.Ytgjpahofopoflaa.PFnPacks
open Go.RowKit Go.Proofs.YtgjpahofopoflaaW.PrintWords Go.Proofs.YtgjpahofopoflaaW.PrintLast Go.Proofs.YtgjpahofopoflaaW.PrintMore
attribute [local go_sem] max2_int min2_int max_two min_two max_three min_three max_four min_four   -- for this text's walks alone
set_option linter.unusedVariables false
set_option linter.unusedSimpArgs false

/-! ### spec_l3of: function 121 -/
def spec_l3of.f (k : Nat) (a0 : Int) : Option (Bool × List Int) := if a0 < 0 then ((spec_l2of.f k (wrap64 (-(wrap64 (a0 + 1))))).bind fun t301 => ((spec_l2of.f k 1).bind fun t304 => ((spec_l2add.f k t301 t304).bind fun t307 => ((spec_l3make.f k true t307).bind fun bt310 => (some (bt310.1, bt310.2)))))) else ((spec_l2of.f k a0).bind fun t314 => ((spec_l3make.f k false t314).bind fun bt317 => (some (bt317.1, bt317.2))))
theorem spec_l3of.mono : ∀ a0 k, LeO (spec_l3of.f k a0) (spec_l3of.f (k + 1) a0) := by
 intro a0 k
 unfold spec_l3of.f
 repeat' first
   | (with_reducible exact spec_l2add.mono _ _ _)
   | (with_reducible exact spec_l2of.mono _ _)
   | (with_reducible exact spec_l3make.mono _ _ _)
   | (with_reducible exact LeO.refl _)
   | (with_reducible exact LeO.none _)
   | (with_reducible refine LeO.ite ?_ ?_)
   | (with_reducible refine LeO.bind ?_ (fun _ => ?_))
   | exact spec_l2add.mono _ _ _
   | exact spec_l2of.mono _ _
   | exact spec_l3make.mono _ _ _
   | exact LeO.none _
   | refine LeO.ite ?_ ?_
   | refine LeO.bind ?_ (fun _ => ?_)
set_option maxHeartbeats 8000000 in
set_option maxRecDepth 100000 in
theorem spec_l3of.calls (k : Nat) (a0 : Int) (r1 : Bool) (r2 : List Int) (w : World) (h : spec_l3of.f k a0 = some (r1, r2)) :
  Calls Try.prog 121 #[.int .i64 a0] w fun e w' => ∃ v1_ : Value, e = .returned (.agg #[.bool r1, v1_]) ∧ Kd.R (Kd.int .i64) 3 w' w.heap.size (fun _ => True) v1_ r2 ∧ Below w.heap.size w w' := by
 have hu40 := Try.underlying40
 have HB := Aside0.mk (Below.refl w.heap.size w)
 have H : (if a0 < 0 then ((spec_l2of.f k (wrap64 (-(wrap64 (a0 + 1))))).bind fun t301 => ((spec_l2of.f k 1).bind fun t304 => ((spec_l2add.f k t301 t304).bind fun t307 => ((spec_l3make.f k true t307).bind fun bt310 => (some (bt310.1, bt310.2)))))) else ((spec_l2of.f k a0).bind fun t314 => ((spec_l3make.f k false t314).bind fun bt317 => (some (bt317.1, bt317.2))))) = some (r1, r2) := h
 clear h
 by_cases c2 : a0 < 0
 ·rw [if_pos c2] at H
  have c2b0 : decide (a0 < 0) = true := decide_eq_true c2
  clear c2
  replace H := hBi H
  obtain ⟨t301, A30, H⟩ := H
  replace H : ((spec_l2of.f k 1).bind fun t304 => ((spec_l2add.f k t301 t304).bind fun t307 => ((spec_l3make.f k true t307).bind fun bt310 => (some (bt310.1, bt310.2))))) = some (r1, r2) := H
  have A3 := Aside0.mk A30
  clear A30
  replace H := hBi H
  obtain ⟨t304, A40, H⟩ := H
  replace H : ((spec_l2add.f k t301 t304).bind fun t307 => ((spec_l3make.f k true t307).bind fun bt310 => (some (bt310.1, bt310.2)))) = some (r1, r2) := H
  have A4 := Aside0.mk A40
  clear A40
  replace H := hBi H
  obtain ⟨t307, A50, H⟩ := H
  replace H : ((spec_l3make.f k true t307).bind fun bt310 => (some (bt310.1, bt310.2))) = some (r1, r2) := H
  have A5 := Aside0.mk A50
  clear A50
  replace H := hBi H
  obtain ⟨⟨t310, t311⟩, A60, H⟩ := H
  replace H : (some (t310, t311)) = some (r1, r2) := H
  have A6 := Aside0.mk A60
  clear A60
  simp only [Option.some.injEq, Prod.mk.injEq] at H
  obtain ⟨rfl, rfl⟩ := H
  go_enter Try.func121, Try.ntmps121
  go_wp2_with (first | ((with_reducible refine gate_dst (N := 2) rfl ?_); refine hkBox (N := 2) (cs := #[.bool false, .slice none 0 0]) (t := 40) ?_; intro gb300 hg w7 hbox hb; have n_ := hkA (hkU HB hb) (hkA (Aside0.mk (hbox)) (hkA (hkG hg (hkS HB)) (hkG hg (hkS HB)))); clear HB; obtain ⟨HB, BK300, GW300, GE300⟩ := n_; clear hb hbox hg) | ((with_reducible refine gate_callee (f := 56) rfl ?_); refine hkGo (N := some 8) Try.func56 #[.int .i64 (wrap64 (-(wrap64 (a0 + 1))))] ?_; (with_reducible refine (spec_l2of.calls k (wrap64 (-(wrap64 (a0 + 1)))) t301 _ A3.out).mono ?_); rintro e w8 ⟨v302, rfl, ho0, hb⟩; refine ⟨_, rfl, ?_⟩; have n_ := hkA (Aside0.mk (Kd.R_lower ho0 (below_size (hkS HB)))) (hkA (hkBb BK300 hb) (hkU HB hb)); clear BK300 HB; obtain ⟨HO303, BK300, HB⟩ := n_; (try clear hb); (try clear ho0)) | ((with_reducible refine gate_callee (f := 56) rfl ?_); refine hkGo (N := some 9) Try.func56 #[.int .i64 1] ?_; (with_reducible refine (spec_l2of.calls k 1 t304 _ A4.out).mono ?_); rintro e w9 ⟨v305, rfl, ho0, hb⟩; refine ⟨_, rfl, ?_⟩; have n_ := hkA (Aside0.mk (Kd.R_elder' (hkR HO303) (Kd.R_base ho0) hb)) (hkA (Aside0.mk (Kd.R_lower (Kd.R_new' ho0 (Kd.R_lt (hkR HO303))) (below_size (hkS HB)))) (hkA (hkBb BK300 hb) (hkU HB hb))); clear HO303 BK300 HB; obtain ⟨HO303, HO306, BK300, HB⟩ := n_; (try clear hb); (try clear ho0); obtain ⟨Ao10, co10, eo10⟩ := Kd.R_slice HO303.out; subst eo10; obtain ⟨Ao11, co11, eo11⟩ := Kd.R_slice HO306.out; subst eo11) | ((with_reducible refine gate_callee (f := 139) rfl ?_); refine hkGo (N := some 10) Try.func139 #[.agg #[.slice Ao10 t301.length co10], .agg #[.slice Ao11 t304.length co11]] ?_; (with_reducible refine (spec_l2add.calls k _ _ t301 _ _ t304 t307 _ ?side1 ?side2 ?side3 ?side4 A5.out).mono ?_); (case side1 => exact hkC ((Kd.R_reads' HO303.out).2.2)); (case side2 => exact (Kd.R_reads' HO303.out).2.1); (case side3 => exact hkC ((Kd.R_reads' HO306.out).2.2)); (case side4 => exact (Kd.R_reads' HO306.out).2.1); rintro e w12 ⟨v308, rfl, ho0, hb⟩; refine ⟨_, rfl, ?_⟩; have n_ := hkA (Aside0.mk (Kd.R_elder' (hkR HO303) (Kd.R_base ho0) hb)) (hkA (Aside0.mk (Kd.R_elder' (hkR HO306) (Kd.R_base ho0) hb)) (hkA (Aside0.mk (Kd.R_lower (Kd.R_new' (Kd.R_new' ho0 (Kd.R_lt (hkR HO303))) (Kd.R_lt (hkR HO306))) (below_size (hkS HB)))) (hkA (hkBb BK300 hb) (hkU HB hb)))); clear HO303 HO306 BK300 HB; obtain ⟨HO303, HO306, HO309, BK300, HB⟩ := n_; (try clear hb); (try clear ho0); obtain ⟨Ao13, co13, eo13⟩ := Kd.R_slice HO309.out; subst eo13) | ((with_reducible refine gate_callee (f := 90) rfl ?_); refine hkGo (N := some 11) Try.func90 #[.bool true, .agg #[.slice Ao13 t307.length co13]] ?_; (with_reducible refine (spec_l3make.calls k true _ _ t307 t310 t311 _ ?side1 ?side2 A6.out).mono ?_); (case side1 => exact hkC ((Kd.R_reads' HO309.out).2.2)); (case side2 => exact (Kd.R_reads' HO309.out).2.1); rintro e w14 ⟨v312, rfl, ho0, hb⟩; refine ⟨_, rfl, ?_⟩; have n_ := hkA (Aside0.mk (Kd.R_elder' (hkR HO303) (Kd.R_base ho0) hb)) (hkA (Aside0.mk (Kd.R_elder' (hkR HO306) (Kd.R_base ho0) hb)) (hkA (Aside0.mk (Kd.R_elder' (hkR HO309) (Kd.R_base ho0) hb)) (hkA (Aside0.mk (Kd.R_lower (Kd.R_new' (Kd.R_new' (Kd.R_new' ho0 (Kd.R_lt (hkR HO303))) (Kd.R_lt (hkR HO306))) (Kd.R_lt (hkR HO309))) (below_size (hkS HB)))) (hkA (hkBb BK300 hb) (hkU HB hb))))); clear HO303 HO306 HO309 BK300 HB; obtain ⟨HO303, HO306, HO309, HO313, BK300, HB⟩ := n_; (try clear hb); (try clear ho0); obtain ⟨hcz15_0, hfz15_0, hcz15_1, hfz15_1⟩ := hkc2 BK300; obtain ⟨Ao16, co16, eo16⟩ := Kd.R_slice HO313.out; subst eo16))
  refine bodyPost_ret (results_cell_row rfl _ _ gb300 40 #[.bool t310, .slice Ao16 t311.length co16] (0, 0) _ rfl hkPp Try.underlying40 rfl (by kernel_rfl)) rfl ?_
  exact ⟨_, hkE, by (with_reducible repeat (first | apply Kd.R_alloc | apply Kd.R_drewN | apply Kd.R_drew)); exact Kd.R_mono (Kd.R_far (p := ⟨gb300, 1, none⟩) (Kd.R_far (p := ⟨gb300, 0, none⟩) (Kd.R_types HO313.out BK300.out (by decide)) (fun _ hk => hk.2) (.bool t310)) (fun _ hk => hk.2) (.slice Ao16 t311.length co16)) (fun _ hk => trivial), hkS HB⟩
 ·rw [if_neg c2] at H
  have c2b0 : decide (a0 < 0) = false := decide_eq_false c2
  clear c2
  replace H := hBi H
  obtain ⟨t314, A170, H⟩ := H
  replace H : ((spec_l3make.f k false t314).bind fun bt317 => (some (bt317.1, bt317.2))) = some (r1, r2) := H
  have A17 := Aside0.mk A170
  clear A170
  replace H := hBi H
  obtain ⟨⟨t317, t318⟩, A180, H⟩ := H
  replace H : (some (t317, t318)) = some (r1, r2) := H
  have A18 := Aside0.mk A180
  clear A180
  simp only [Option.some.injEq, Prod.mk.injEq] at H
  obtain ⟨rfl, rfl⟩ := H
  go_enter Try.func121, Try.ntmps121
  go_wp2_with (first | ((with_reducible refine gate_dst (N := 2) rfl ?_); refine hkBox (N := 2) (cs := #[.bool false, .slice none 0 0]) (t := 40) ?_; intro gb300 hg w19 hbox hb; have n_ := hkA (hkU HB hb) (hkA (Aside0.mk (hbox)) (hkA (hkG hg (hkS HB)) (hkG hg (hkS HB)))); clear HB; obtain ⟨HB, BK300, GW300, GE300⟩ := n_; clear hb hbox hg) | ((with_reducible refine gate_callee (f := 56) rfl ?_); refine hkGo (N := some 13) Try.func56 #[.int .i64 a0] ?_; (with_reducible refine (spec_l2of.calls k a0 t314 _ A17.out).mono ?_); rintro e w20 ⟨v315, rfl, ho0, hb⟩; refine ⟨_, rfl, ?_⟩; have n_ := hkA (Aside0.mk (Kd.R_lower ho0 (below_size (hkS HB)))) (hkA (hkBb BK300 hb) (hkU HB hb)); clear BK300 HB; obtain ⟨HO316, BK300, HB⟩ := n_; (try clear hb); (try clear ho0); obtain ⟨Ao21, co21, eo21⟩ := Kd.R_slice HO316.out; subst eo21) | ((with_reducible refine gate_callee (f := 90) rfl ?_); refine hkGo (N := some 14) Try.func90 #[.bool false, .agg #[.slice Ao21 t314.length co21]] ?_; (with_reducible refine (spec_l3make.calls k false _ _ t314 t317 t318 _ ?side1 ?side2 A18.out).mono ?_); (case side1 => exact hkC ((Kd.R_reads' HO316.out).2.2)); (case side2 => exact (Kd.R_reads' HO316.out).2.1); rintro e w22 ⟨v319, rfl, ho0, hb⟩; refine ⟨_, rfl, ?_⟩; have n_ := hkA (Aside0.mk (Kd.R_elder' (hkR HO316) (Kd.R_base ho0) hb)) (hkA (Aside0.mk (Kd.R_lower (Kd.R_new' ho0 (Kd.R_lt (hkR HO316))) (below_size (hkS HB)))) (hkA (hkBb BK300 hb) (hkU HB hb))); clear HO316 BK300 HB; obtain ⟨HO316, HO320, BK300, HB⟩ := n_; (try clear hb); (try clear ho0); obtain ⟨hcz23_0, hfz23_0, hcz23_1, hfz23_1⟩ := hkc2 BK300; obtain ⟨Ao24, co24, eo24⟩ := Kd.R_slice HO320.out; subst eo24))
  refine bodyPost_ret (results_cell_row rfl _ _ gb300 40 #[.bool t317, .slice Ao24 t318.length co24] (0, 0) _ rfl hkPp Try.underlying40 rfl (by kernel_rfl)) rfl ?_
  exact ⟨_, hkE, by (with_reducible repeat (first | apply Kd.R_alloc | apply Kd.R_drewN | apply Kd.R_drew)); exact Kd.R_mono (Kd.R_far (p := ⟨gb300, 1, none⟩) (Kd.R_far (p := ⟨gb300, 0, none⟩) (Kd.R_types HO320.out BK300.out (by decide)) (fun _ hk => hk.2) (.bool t317)) (fun _ hk => hk.2) (.slice Ao24 t318.length co24)) (fun _ hk => trivial), hkS HB⟩

/-! ### spec_l5nan: function 125 -/
def spec_l5nan.f  : Option (Int × Bool × Int × Int) := some (3, false, 0, 0)
set_option maxHeartbeats 8000000 in
set_option maxRecDepth 100000 in
theorem spec_l5nan.calls  (r1 : Int) (r2 : Bool) (r3 : Int) (r4 : Int) (w : World) (h : spec_l5nan.f  = some (r1, r2, r3, r4)) :
  Calls Try.prog 125 #[] w fun e w' => e = .returned (.agg #[.int .i64 r1, .bool r2, .int .i64 r3, .int .i64 r4]) ∧ Below w.heap.size w w' := by
 have hu26 := Try.underlying26
 have HB := Aside0.mk (Below.refl w.heap.size w)
 have H : (some (3, false, 0, 0)) = some (r1, r2, r3, r4) := h
 clear h
 simp only [Option.some.injEq, Prod.mk.injEq] at H
 obtain ⟨rfl, rfl, rfl, rfl⟩ := H
 go_enter Try.func125, Try.ntmps125
 go_wp2_with (first | ((with_reducible refine gate_dst (N := 0) rfl ?_); refine hkBox (N := 0) (cs := #[.int .i64 0, .bool false, .int .i64 0, .int .i64 0]) (t := 26) ?_; intro gb321 hg w1 hbox hb; have n_ := hkA (hkU HB hb) (hkA (Aside0.mk (hbox)) (hkA (hkG hg (hkS HB)) (hkG hg (hkS HB)))); clear HB; obtain ⟨HB, BK321, GW321, GE321⟩ := n_; clear hb hbox hg; obtain ⟨hcz2_0, hfz2_0, hcz2_1, hfz2_1, hcz2_2, hfz2_2, hcz2_3, hfz2_3⟩ := hkc4 BK321))
 refine bodyPost_ret (results_cell_row rfl _ _ gb321 26 #[.int .i64 3, .bool false, .int .i64 0, .int .i64 0] (0, 0) _ rfl hkPp Try.underlying26 rfl (by kernel_rfl)) rfl ?_
 exact ⟨hkE, hkS HB⟩

end Go.Proofs.Ytgjpahofopoflaa.PFnPacks
