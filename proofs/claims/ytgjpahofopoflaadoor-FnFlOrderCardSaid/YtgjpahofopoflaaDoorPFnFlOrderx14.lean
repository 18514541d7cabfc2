-- Written by our own driver (wip/hand/hprint.py) over the seat's translation.
import Derived.Test.YtgjpahofopoflaaDoorPFnFlOrderx0
import Derived.Test.YtgjpahofopoflaaDoorPFnFlOrderx7
import Derived.Test.YtgjpahofopoflaaDoorPFnFlOrderx9
import Derived.Test.YtgjpahofopoflaaDoorPFnFlOrderx12
import Derived.Test.YtgjpahofopoflaaDoorPFnFlOrderx13
namespace Go.Proofs.YtgjpahofopoflaaDoor.PFnFlOrder
open Go.RowKit Go.Proofs.YtgjpahofopoflaaDoorW.PrintWords Go.Proofs.YtgjpahofopoflaaDoorW.PrintLast Go.Proofs.YtgjpahofopoflaaDoorW.PrintMore
attribute [local go_sem] max2_int min2_int max_two min_two max_three min_three max_four min_four   -- for this text's walks alone
set_option linter.unusedVariables false
set_option linter.unusedSimpArgs false

/-! ### spec_l3of: function 87 -/
def spec_l3of.f (k : Nat) (a0 : Int) : Option (Bool × List Int) := if a0 < 0 then ((spec_l2of.f k (wrap64 (-(wrap64 (a0 + 1))))).bind fun t288 => ((spec_l2of.f k 1).bind fun t291 => ((spec_l2add.f k t288 t291).bind fun t294 => ((spec_l3make.f k true t294).bind fun bt297 => (some (bt297.1, bt297.2)))))) else ((spec_l2of.f k a0).bind fun t301 => ((spec_l3make.f k false t301).bind fun bt304 => (some (bt304.1, bt304.2))))
theorem spec_l3of.mono : ∀ a0 k, LeO (spec_l3of.f k a0) (spec_l3of.f (k + 1) a0) := by
 intro a0 k
 unfold spec_l3of.f
 repeat' first
   | (with_reducible exact spec_l2add.mono _ _ _)
   | (with_reducible exact spec_l2of.mono _ _)
   | (with_reducible exact spec_l3make.mono _ _ _)
   | (with_reducible exact LeO.refl _)
   | (with_reducible exact LeO.none _)
   | (with_reducible refine LeO.ite ?_ ?_)
   | (with_reducible refine LeO.bind ?_ (fun _ => ?_))
   | exact spec_l2add.mono _ _ _
   | exact spec_l2of.mono _ _
   | exact spec_l3make.mono _ _ _
   | exact LeO.none _
   | refine LeO.ite ?_ ?_
   | refine LeO.bind ?_ (fun _ => ?_)
set_option maxHeartbeats 8000000 in
set_option maxRecDepth 100000 in
theorem spec_l3of.calls (k : Nat) (a0 : Int) (r1 : Bool) (r2 : List Int) (w : World) (h : spec_l3of.f k a0 = some (r1, r2)) :
  Calls Tryd.prog 87 #[.int .i64 a0] w fun e w' => ∃ v1_ : Value, e = .returned (.agg #[.bool r1, v1_]) ∧ Kd.R (Kd.int .i64) 3 w' w.heap.size (fun _ => True) v1_ r2 ∧ Below w.heap.size w w' := by
 have hu28 := Tryd.underlying28
 have HB := Aside0.mk (Below.refl w.heap.size w)
 have H : (if a0 < 0 then ((spec_l2of.f k (wrap64 (-(wrap64 (a0 + 1))))).bind fun t288 => ((spec_l2of.f k 1).bind fun t291 => ((spec_l2add.f k t288 t291).bind fun t294 => ((spec_l3make.f k true t294).bind fun bt297 => (some (bt297.1, bt297.2)))))) else ((spec_l2of.f k a0).bind fun t301 => ((spec_l3make.f k false t301).bind fun bt304 => (some (bt304.1, bt304.2))))) = some (r1, r2) := h
 clear h
 by_cases c2 : a0 < 0
 ·rw [if_pos c2] at H
  have c2b0 : decide (a0 < 0) = true := decide_eq_true c2
  clear c2
  replace H := hBi H
  obtain ⟨t288, A30, H⟩ := H
  replace H : ((spec_l2of.f k 1).bind fun t291 => ((spec_l2add.f k t288 t291).bind fun t294 => ((spec_l3make.f k true t294).bind fun bt297 => (some (bt297.1, bt297.2))))) = some (r1, r2) := H
  have A3 := Aside0.mk A30
  clear A30
  replace H := hBi H
  obtain ⟨t291, A40, H⟩ := H
  replace H : ((spec_l2add.f k t288 t291).bind fun t294 => ((spec_l3make.f k true t294).bind fun bt297 => (some (bt297.1, bt297.2)))) = some (r1, r2) := H
  have A4 := Aside0.mk A40
  clear A40
  replace H := hBi H
  obtain ⟨t294, A50, H⟩ := H
  replace H : ((spec_l3make.f k true t294).bind fun bt297 => (some (bt297.1, bt297.2))) = some (r1, r2) := H
  have A5 := Aside0.mk A50
  clear A50
  replace H := hBi H
  obtain ⟨⟨t297, t298⟩, A60, H⟩ := H
  replace H : (some (t297, t298)) = some (r1, r2) := H
  have A6 := Aside0.mk A60
  clear A60
  simp only [Option.some.injEq, Prod.mk.injEq] at H
  obtain ⟨rfl, rfl⟩ := H
  go_enter Tryd.func87, Tryd.ntmps87
  go_wp2_with (first | ((with_reducible refine gate_dst (N := 2) rfl ?_); refine hkBox (N := 2) (cs := #[.bool false, .slice none 0 0]) (t := 28) ?_; intro gb287 hg w7 hbox hb; have n_ := hkA (hkU HB hb) (hkA (Aside0.mk (hbox)) (hkA (hkG hg (hkS HB)) (hkG hg (hkS HB)))); clear HB; obtain ⟨HB, BK287, GW287, GE287⟩ := n_; clear hb hbox hg) | ((with_reducible refine gate_callee (f := 68) rfl ?_); refine hkGo (N := some 8) Tryd.func68 #[.int .i64 (wrap64 (-(wrap64 (a0 + 1))))] ?_; (with_reducible refine (spec_l2of.calls k (wrap64 (-(wrap64 (a0 + 1)))) t288 _ A3.out).mono ?_); rintro e w8 ⟨v289, rfl, ho0, hb⟩; refine ⟨_, rfl, ?_⟩; have n_ := hkA (Aside0.mk (Kd.R_lower ho0 (below_size (hkS HB)))) (hkA (hkBb BK287 hb) (hkU HB hb)); clear BK287 HB; obtain ⟨HO290, BK287, HB⟩ := n_; (try clear hb); (try clear ho0)) | ((with_reducible refine gate_callee (f := 68) rfl ?_); refine hkGo (N := some 9) Tryd.func68 #[.int .i64 1] ?_; (with_reducible refine (spec_l2of.calls k 1 t291 _ A4.out).mono ?_); rintro e w9 ⟨v292, rfl, ho0, hb⟩; refine ⟨_, rfl, ?_⟩; have n_ := hkA (Aside0.mk (Kd.R_elder' (hkR HO290) (Kd.R_base ho0) hb)) (hkA (Aside0.mk (Kd.R_lower (Kd.R_new' ho0 (Kd.R_lt (hkR HO290))) (below_size (hkS HB)))) (hkA (hkBb BK287 hb) (hkU HB hb))); clear HO290 BK287 HB; obtain ⟨HO290, HO293, BK287, HB⟩ := n_; (try clear hb); (try clear ho0); obtain ⟨Ao10, co10, eo10⟩ := Kd.R_slice HO290.out; subst eo10; obtain ⟨Ao11, co11, eo11⟩ := Kd.R_slice HO293.out; subst eo11) | ((with_reducible refine gate_callee (f := 109) rfl ?_); refine hkGo (N := some 10) Tryd.func109 #[.agg #[.slice Ao10 t288.length co10], .agg #[.slice Ao11 t291.length co11]] ?_; (with_reducible refine (spec_l2add.calls k _ _ t288 _ _ t291 t294 _ ?side1 ?side2 ?side3 ?side4 A5.out).mono ?_); (case side1 => exact hkC ((Kd.R_reads' HO290.out).2.2)); (case side2 => exact (Kd.R_reads' HO290.out).2.1); (case side3 => exact hkC ((Kd.R_reads' HO293.out).2.2)); (case side4 => exact (Kd.R_reads' HO293.out).2.1); rintro e w12 ⟨v295, rfl, ho0, hb⟩; refine ⟨_, rfl, ?_⟩; have n_ := hkA (Aside0.mk (Kd.R_elder' (hkR HO290) (Kd.R_base ho0) hb)) (hkA (Aside0.mk (Kd.R_elder' (hkR HO293) (Kd.R_base ho0) hb)) (hkA (Aside0.mk (Kd.R_lower (Kd.R_new' (Kd.R_new' ho0 (Kd.R_lt (hkR HO290))) (Kd.R_lt (hkR HO293))) (below_size (hkS HB)))) (hkA (hkBb BK287 hb) (hkU HB hb)))); clear HO290 HO293 BK287 HB; obtain ⟨HO290, HO293, HO296, BK287, HB⟩ := n_; (try clear hb); (try clear ho0); obtain ⟨Ao13, co13, eo13⟩ := Kd.R_slice HO296.out; subst eo13) | ((with_reducible refine gate_callee (f := 46) rfl ?_); refine hkGo (N := some 11) Tryd.func46 #[.bool true, .agg #[.slice Ao13 t294.length co13]] ?_; (with_reducible refine (spec_l3make.calls k true _ _ t294 t297 t298 _ ?side1 ?side2 A6.out).mono ?_); (case side1 => exact hkC ((Kd.R_reads' HO296.out).2.2)); (case side2 => exact (Kd.R_reads' HO296.out).2.1); rintro e w14 ⟨v299, rfl, ho0, hb⟩; refine ⟨_, rfl, ?_⟩; have n_ := hkA (Aside0.mk (Kd.R_elder' (hkR HO290) (Kd.R_base ho0) hb)) (hkA (Aside0.mk (Kd.R_elder' (hkR HO293) (Kd.R_base ho0) hb)) (hkA (Aside0.mk (Kd.R_elder' (hkR HO296) (Kd.R_base ho0) hb)) (hkA (Aside0.mk (Kd.R_lower (Kd.R_new' (Kd.R_new' (Kd.R_new' ho0 (Kd.R_lt (hkR HO290))) (Kd.R_lt (hkR HO293))) (Kd.R_lt (hkR HO296))) (below_size (hkS HB)))) (hkA (hkBb BK287 hb) (hkU HB hb))))); clear HO290 HO293 HO296 BK287 HB; obtain ⟨HO290, HO293, HO296, HO300, BK287, HB⟩ := n_; (try clear hb); (try clear ho0); obtain ⟨hcz15_0, hfz15_0, hcz15_1, hfz15_1⟩ := hkc2 BK287; obtain ⟨Ao16, co16, eo16⟩ := Kd.R_slice HO300.out; subst eo16))
  refine bodyPost_ret (results_cell_row rfl _ _ gb287 28 #[.bool t297, .slice Ao16 t298.length co16] (0, 0) _ rfl hkPp Tryd.underlying28 rfl (by kernel_rfl)) rfl ?_
  exact ⟨_, hkE, by (with_reducible repeat (first | apply Kd.R_alloc | apply Kd.R_drewN | apply Kd.R_drew)); exact Kd.R_mono (Kd.R_far (p := ⟨gb287, 1, none⟩) (Kd.R_far (p := ⟨gb287, 0, none⟩) (Kd.R_types HO300.out BK287.out (by decide)) (fun _ hk => hk.2) (.bool t297)) (fun _ hk => hk.2) (.slice Ao16 t298.length co16)) (fun _ hk => trivial), hkS HB⟩
 ·rw [if_neg c2] at H
  have c2b0 : decide (a0 < 0) = false := decide_eq_false c2
  clear c2
  replace H := hBi H
  obtain ⟨t301, A170, H⟩ := H
  replace H : ((spec_l3make.f k false t301).bind fun bt304 => (some (bt304.1, bt304.2))) = some (r1, r2) := H
  have A17 := Aside0.mk A170
  clear A170
  replace H := hBi H
  obtain ⟨⟨t304, t305⟩, A180, H⟩ := H
  replace H : (some (t304, t305)) = some (r1, r2) := H
  have A18 := Aside0.mk A180
  clear A180
  simp only [Option.some.injEq, Prod.mk.injEq] at H
  obtain ⟨rfl, rfl⟩ := H
  go_enter Tryd.func87, Tryd.ntmps87
  go_wp2_with (first | ((with_reducible refine gate_dst (N := 2) rfl ?_); refine hkBox (N := 2) (cs := #[.bool false, .slice none 0 0]) (t := 28) ?_; intro gb287 hg w19 hbox hb; have n_ := hkA (hkU HB hb) (hkA (Aside0.mk (hbox)) (hkA (hkG hg (hkS HB)) (hkG hg (hkS HB)))); clear HB; obtain ⟨HB, BK287, GW287, GE287⟩ := n_; clear hb hbox hg) | ((with_reducible refine gate_callee (f := 68) rfl ?_); refine hkGo (N := some 13) Tryd.func68 #[.int .i64 a0] ?_; (with_reducible refine (spec_l2of.calls k a0 t301 _ A17.out).mono ?_); rintro e w20 ⟨v302, rfl, ho0, hb⟩; refine ⟨_, rfl, ?_⟩; have n_ := hkA (Aside0.mk (Kd.R_lower ho0 (below_size (hkS HB)))) (hkA (hkBb BK287 hb) (hkU HB hb)); clear BK287 HB; obtain ⟨HO303, BK287, HB⟩ := n_; (try clear hb); (try clear ho0); obtain ⟨Ao21, co21, eo21⟩ := Kd.R_slice HO303.out; subst eo21) | ((with_reducible refine gate_callee (f := 46) rfl ?_); refine hkGo (N := some 14) Tryd.func46 #[.bool false, .agg #[.slice Ao21 t301.length co21]] ?_; (with_reducible refine (spec_l3make.calls k false _ _ t301 t304 t305 _ ?side1 ?side2 A18.out).mono ?_); (case side1 => exact hkC ((Kd.R_reads' HO303.out).2.2)); (case side2 => exact (Kd.R_reads' HO303.out).2.1); rintro e w22 ⟨v306, rfl, ho0, hb⟩; refine ⟨_, rfl, ?_⟩; have n_ := hkA (Aside0.mk (Kd.R_elder' (hkR HO303) (Kd.R_base ho0) hb)) (hkA (Aside0.mk (Kd.R_lower (Kd.R_new' ho0 (Kd.R_lt (hkR HO303))) (below_size (hkS HB)))) (hkA (hkBb BK287 hb) (hkU HB hb))); clear HO303 BK287 HB; obtain ⟨HO303, HO307, BK287, HB⟩ := n_; (try clear hb); (try clear ho0); obtain ⟨hcz23_0, hfz23_0, hcz23_1, hfz23_1⟩ := hkc2 BK287; obtain ⟨Ao24, co24, eo24⟩ := Kd.R_slice HO307.out; subst eo24))
  refine bodyPost_ret (results_cell_row rfl _ _ gb287 28 #[.bool t304, .slice Ao24 t305.length co24] (0, 0) _ rfl hkPp Tryd.underlying28 rfl (by kernel_rfl)) rfl ?_
  exact ⟨_, hkE, by (with_reducible repeat (first | apply Kd.R_alloc | apply Kd.R_drewN | apply Kd.R_drew)); exact Kd.R_mono (Kd.R_far (p := ⟨gb287, 1, none⟩) (Kd.R_far (p := ⟨gb287, 0, none⟩) (Kd.R_types HO307.out BK287.out (by decide)) (fun _ hk => hk.2) (.bool t304)) (fun _ hk => hk.2) (.slice Ao24 t305.length co24)) (fun _ hk => trivial), hkS HB⟩

/-! ### spec_l1PickInt: function 116 -/
def spec_l1PickInt.f (s0_0 : List Int) (s0_1 : Int) (s0_2 : Int) (l1 : List Int) : Option (Int × Int × Int) := (spec_l1Below.f s0_0 s0_1 s0_2 (l1.length : Int)).bind fun bt308 => (if 0 ≤ bt308.1 then (if bt308.1 < (l1.length : Int) then (some (rd l1 bt308.1, bt308.2.1, bt308.2.2)) else (none)) else (none))
set_option maxHeartbeats 8000000 in
set_option maxRecDepth 100000 in
theorem spec_l1PickInt.calls (g : Nat) (s0_0 : List Int) (s0_1 : Int) (s0_2 : Int) (A1 : Option Addr) (c1 : Nat) (l1 : List Int) (r1 : Int) (r2 : Int) (r3 : Int) (w0 w : World) (hI : IsS122 w0 w g s0_0 s0_1 s0_2) (hB : Below w0.heap.size w0 w) (hr1 : Kd.C (Kd.int .i64) w A1 l1.length l1) (hc1 : l1.length ≤ c1) (hf1 : ∀ ad, A1 = some ad → 0 < l1.length → ad.block ≠ g) (h : spec_l1PickInt.f s0_0 s0_1 s0_2 l1 = some (r1, r2, r3)) :
  Calls Tryd.prog 116 #[.pointer (some ⟨g, 0, none⟩), .slice A1 l1.length c1] w fun e w' => e = .returned (.int .i64 r1) ∧ IsS122 w0 w' g s0_0 r2 r3 ∧ Below w0.heap.size w0 w' ∧ KeepBut w w' g none := by
 have HR1 := Aside0.mk hr1
 have HC1 := Aside0.mk hc1
 clear hr1 hc1
 have HI0 := Aside0.mk hI
 have HK := Aside0.mk (KeepBut.refl w g none)
 have HL := Aside0.mk hB.size
 clear hI
 have HW0 := Aside0.mk hB.size
 have HB := Aside0.mk hB
 clear hB
 have H : ((spec_l1Below.f s0_0 s0_1 s0_2 (l1.length : Int)).bind fun bt308 => (if 0 ≤ bt308.1 then (if bt308.1 < (l1.length : Int) then (some (rd l1 bt308.1, bt308.2.1, bt308.2.2)) else (none)) else (none))) = some (r1, r2, r3) := h
 clear h
 replace H := hBi H
 obtain ⟨⟨t308, t309, t310⟩, A30, H⟩ := H
 replace H : (if 0 ≤ t308 then (if t308 < (l1.length : Int) then (some (rd l1 t308, t309, t310)) else (none)) else (none)) = some (r1, r2, r3) := H
 have A3 := Aside0.mk A30
 clear A30
 by_cases c4 : 0 ≤ t308
 ·rw [if_pos c4] at H
  have c4b0 : decide (0 ≤ t308) = true := decide_eq_true c4
  clear c4
  by_cases c5 : t308 < (l1.length : Int)
  ·rw [if_pos c5] at H
   have c5b0 : decide (t308 < (l1.length : Int)) = true := decide_eq_true c5
   clear c5
   simp only [Option.some.injEq, Prod.mk.injEq] at H
   obtain ⟨rfl, rfl, rfl⟩ := H
   go_enter Tryd.func116, Tryd.ntmps116
   go_wp2_with (first | ((with_reducible refine gate_callee (f := 97) rfl ?_); refine hkGo (N := some 9) Tryd.func97 #[.pointer (some ⟨g, 0, none⟩), .int .i64 (l1.length : Int)] ?_; (with_reducible refine (spec_l1Below.calls g s0_0 s0_1 s0_2 (l1.length : Int) t308 t309 t310 w0 _ ?side1 ?side2 A3.out).mono ?_); (case side1 => exact hkI122); (case side2 => exact hkJ122); rintro e w6 ⟨rfl, hi, hb, hk⟩; refine ⟨_, rfl, ?_⟩; have n_ := hkA (Aside0.mk (KeepBut.trans (hkKp) hk (.inl rfl))) (hkA (Aside0.mk (hb)) (Aside0.mk (hi))); clear HK HB HI0; obtain ⟨HK, HB, HI0⟩ := n_; (try clear hb); (try clear hk); (try clear hi); have p311 : 0 ≤ (t308 : Int) := of_decide_eq_true (by first | (with_reducible assumption) | assumption); have q311 : t308 < (l1.length : Int) := of_decide_eq_true (by first | (with_reducible assumption) | assumption); obtain ⟨ad311, e311, hx311_0⟩ := Kd.at_int HR1.out t308 p311 q311; cases e311; replace hx311_0 := keep_cell HK.out hx311_0 (by first | (rw [add_block]; exact hf1 _ rfl (by omega)) | exact hf1 _ rfl (by omega) | exact hf1 ad311 rfl (by omega)); replace p311 := eq_true p311; replace q311 := eq_true q311))
   go_ret
   exact ⟨hkE, hkI122, hkJ122, hkKp⟩
  ·rw [if_neg c5] at H
   exact absurd H (by simp)
 ·rw [if_neg c4] at H
  exact absurd H (by simp)

/-! ### spec_l5nan: function 117 -/
def spec_l5nan.f  : Option (Int × Bool × Int × Int) := some (3, false, 0, 0)
set_option maxHeartbeats 8000000 in
set_option maxRecDepth 100000 in
theorem spec_l5nan.calls  (r1 : Int) (r2 : Bool) (r3 : Int) (r4 : Int) (w : World) (h : spec_l5nan.f  = some (r1, r2, r3, r4)) :
  Calls Tryd.prog 117 #[] w fun e w' => e = .returned (.agg #[.int .i64 r1, .bool r2, .int .i64 r3, .int .i64 r4]) ∧ Below w.heap.size w w' := by
 have hu33 := Tryd.underlying33
 have HB := Aside0.mk (Below.refl w.heap.size w)
 have H : (some (3, false, 0, 0)) = some (r1, r2, r3, r4) := h
 clear h
 simp only [Option.some.injEq, Prod.mk.injEq] at H
 obtain ⟨rfl, rfl, rfl, rfl⟩ := H
 go_enter Tryd.func117, Tryd.ntmps117
 go_wp2_with (first | ((with_reducible refine gate_dst (N := 0) rfl ?_); refine hkBox (N := 0) (cs := #[.int .i64 0, .bool false, .int .i64 0, .int .i64 0]) (t := 33) ?_; intro gb312 hg w1 hbox hb; have n_ := hkA (hkU HB hb) (hkA (Aside0.mk (hbox)) (hkA (hkG hg (hkS HB)) (hkG hg (hkS HB)))); clear HB; obtain ⟨HB, BK312, GW312, GE312⟩ := n_; clear hb hbox hg; obtain ⟨hcz2_0, hfz2_0, hcz2_1, hfz2_1, hcz2_2, hfz2_2, hcz2_3, hfz2_3⟩ := hkc4 BK312))
 refine bodyPost_ret (results_cell_row rfl _ _ gb312 33 #[.int .i64 3, .bool false, .int .i64 0, .int .i64 0] (0, 0) _ rfl hkPp Tryd.underlying33 rfl (by kernel_rfl)) rfl ?_
 exact ⟨hkE, hkS HB⟩

/-! ### spec_l5most: function 118 -/
def spec_l5most.f (a0 : Bool) : Option (Int × Bool × Int × Int) := some (1, a0, 9007199254740991, 971)
set_option maxHeartbeats 8000000 in
set_option maxRecDepth 100000 in
theorem spec_l5most.calls (a0 : Bool) (r1 : Int) (r2 : Bool) (r3 : Int) (r4 : Int) (w : World) (h : spec_l5most.f a0 = some (r1, r2, r3, r4)) :
  Calls Tryd.prog 118 #[.bool a0] w fun e w' => e = .returned (.agg #[.int .i64 r1, .bool r2, .int .i64 r3, .int .i64 r4]) ∧ Below w.heap.size w w' := by
 have hu33 := Tryd.underlying33
 have HB := Aside0.mk (Below.refl w.heap.size w)
 have H : (some (1, a0, 9007199254740991, 971)) = some (r1, r2, r3, r4) := h
 clear h
 simp only [Option.some.injEq, Prod.mk.injEq] at H
 obtain ⟨rfl, rfl, rfl, rfl⟩ := H
 go_enter Tryd.func118, Tryd.ntmps118
 go_wp2_with (first | ((with_reducible refine gate_dst (N := 2) rfl ?_); refine hkBox (N := 2) (cs := #[.int .i64 0, .bool false, .int .i64 0, .int .i64 0]) (t := 33) ?_; intro gb313 hg w2 hbox hb; have n_ := hkA (hkU HB hb) (hkA (Aside0.mk (hbox)) (hkA (hkG hg (hkS HB)) (hkG hg (hkS HB)))); clear HB; obtain ⟨HB, BK313, GW313, GE313⟩ := n_; clear hb hbox hg; obtain ⟨hcz3_0, hfz3_0, hcz3_1, hfz3_1, hcz3_2, hfz3_2, hcz3_3, hfz3_3⟩ := hkc4 BK313))
 refine bodyPost_ret (results_cell_row rfl _ _ gb313 33 #[.int .i64 1, .bool a0, .int .i64 9007199254740991, .int .i64 971] (0, 0) _ rfl hkPp Tryd.underlying33 rfl (by kernel_rfl)) rfl ?_
 exact ⟨hkE, hkS HB⟩

end Go.Proofs.YtgjpahofopoflaaDoor.PFnFlOrder
