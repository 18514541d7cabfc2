-- Written by our own driver (wip/hand/hprint.py) over the seat's translation.
import Derived.Test.YtgjpahofopoflaaPFnExactNatDivx0
import Derived.Test.YtgjpahofopoflaaPFnExactNatDivx11
import Derived.Test.YtgjpahofopoflaaPFnExactNatDivx17
namespace Go.Proofs.Ytgjpahofopoflaa.PFnExactNatDiv
open Go.RowKit Go.Proofs.YtgjpahofopoflaaW.PrintWords Go.Proofs.YtgjpahofopoflaaW.PrintLast Go.Proofs.YtgjpahofopoflaaW.PrintMore
attribute [local go_sem] max2_int min2_int max_two min_two max_three min_three max_four min_four   -- for this text's walks alone
set_option linter.unusedVariables false
set_option linter.unusedSimpArgs false

/-! ### spec_NatDiv: function 25 -/
def spec_NatDiv.f (k : Nat) (l0_0 : List Int) (l1_0 : List Int) : Option (List Int × List Int × Bool) := (spec_NatOk.f k l0_0).bind fun t359 => (if t359 = true then ((spec_NatOk.f k l1_0).bind fun t360 => (if t360 = true then (if (l1_0.length : Int) = 0 then (some (([] : List Int), ([] : List Int), false)) else ((spec_l2div.f k l0_0 l1_0).bind fun bt361 => (some (bt361.1, bt361.2, true)))) else (some (([] : List Int), ([] : List Int), false)))) else (some (([] : List Int), ([] : List Int), false)))
theorem spec_NatDiv.mono : ∀ a0 a1 k, LeO (spec_NatDiv.f k a0 a1) (spec_NatDiv.f (k + 1) a0 a1) := by
 intro a0 a1 k
 unfold spec_NatDiv.f
 repeat' first
   | (with_reducible exact spec_NatOk.mono _ _)
   | (with_reducible exact spec_l2div.mono _ _ _)
   | (with_reducible exact LeO.refl _)
   | (with_reducible exact LeO.none _)
   | (with_reducible refine LeO.ite ?_ ?_)
   | (with_reducible refine LeO.bind ?_ (fun _ => ?_))
   | exact spec_NatOk.mono _ _
   | exact spec_l2div.mono _ _ _
   | exact LeO.none _
   | refine LeO.ite ?_ ?_
   | refine LeO.bind ?_ (fun _ => ?_)
set_option maxHeartbeats 8000000 in
set_option maxRecDepth 100000 in
theorem spec_NatDiv.calls (k : Nat) (A0_0 : Option Addr) (c0_0 : Nat) (l0_0 : List Int) (A1_0 : Option Addr) (c1_0 : Nat) (l1_0 : List Int) (r1 : List Int) (r2 : List Int) (r3 : Bool) (w : World) (hr0_0 : Kd.C (Kd.int .i64) w A0_0 l0_0.length l0_0) (hc0_0 : l0_0.length ≤ c0_0) (hr1_0 : Kd.C (Kd.int .i64) w A1_0 l1_0.length l1_0) (hc1_0 : l1_0.length ≤ c1_0) (h : spec_NatDiv.f k l0_0 l1_0 = some (r1, r2, r3)) :
  Calls Try.prog 25 #[.agg #[.slice A0_0 l0_0.length c0_0], .agg #[.slice A1_0 l1_0.length c1_0]] w fun e w' => ∃ v0_ v1_ : Value, e = .returned (.tuple #[.agg #[v0_], .agg #[v1_], .bool r3]) ∧ Kd.R (Kd.int .i64) 3 w' w.heap.size (fun k_ => some k_ ≠ (v1_ : Value).ownBlock) v0_ r1 ∧ Kd.R (Kd.int .i64) 3 w' w.heap.size (fun k_ => some k_ ≠ (v0_ : Value).ownBlock) v1_ r2 ∧ Below w.heap.size w w' := by
 have hu38 := Try.underlying38
 have HR0_0 := Aside0.mk hr0_0
 have HC0_0 := Aside0.mk hc0_0
 clear hr0_0 hc0_0
 have HR1_0 := Aside0.mk hr1_0
 have HC1_0 := Aside0.mk hc1_0
 clear hr1_0 hc1_0
 have HB := Aside0.mk (Below.refl w.heap.size w)
 have H : ((spec_NatOk.f k l0_0).bind fun t359 => (if t359 = true then ((spec_NatOk.f k l1_0).bind fun t360 => (if t360 = true then (if (l1_0.length : Int) = 0 then (some (([] : List Int), ([] : List Int), false)) else ((spec_l2div.f k l0_0 l1_0).bind fun bt361 => (some (bt361.1, bt361.2, true)))) else (some (([] : List Int), ([] : List Int), false)))) else (some (([] : List Int), ([] : List Int), false)))) = some (r1, r2, r3) := h
 clear h
 replace H := hBi H
 obtain ⟨t359, A30, H⟩ := H
 replace H : (if t359 = true then ((spec_NatOk.f k l1_0).bind fun t360 => (if t360 = true then (if (l1_0.length : Int) = 0 then (some (([] : List Int), ([] : List Int), false)) else ((spec_l2div.f k l0_0 l1_0).bind fun bt361 => (some (bt361.1, bt361.2, true)))) else (some (([] : List Int), ([] : List Int), false)))) else (some (([] : List Int), ([] : List Int), false))) = some (r1, r2, r3) := H
 have A3 := Aside0.mk A30
 clear A30
 by_cases c4 : t359 = true
 ·subst c4
  have H1 : ((spec_NatOk.f k l1_0).bind fun t360 => (if t360 = true then (if (l1_0.length : Int) = 0 then (some (([] : List Int), ([] : List Int), false)) else ((spec_l2div.f k l0_0 l1_0).bind fun bt361 => (some (bt361.1, bt361.2, true)))) else (some (([] : List Int), ([] : List Int), false)))) = some (r1, r2, r3) := by rw [if_pos rfl] at H; exact H
  clear H
  have H := H1
  clear H1
  replace H := hBi H
  obtain ⟨t360, A50, H⟩ := H
  replace H : (if t360 = true then (if (l1_0.length : Int) = 0 then (some (([] : List Int), ([] : List Int), false)) else ((spec_l2div.f k l0_0 l1_0).bind fun bt361 => (some (bt361.1, bt361.2, true)))) else (some (([] : List Int), ([] : List Int), false))) = some (r1, r2, r3) := H
  have A5 := Aside0.mk A50
  clear A50
  by_cases c6 : t360 = true
  ·subst c6
   have H1 : (if (l1_0.length : Int) = 0 then (some (([] : List Int), ([] : List Int), false)) else ((spec_l2div.f k l0_0 l1_0).bind fun bt361 => (some (bt361.1, bt361.2, true)))) = some (r1, r2, r3) := by rw [if_pos rfl] at H; exact H
   clear H
   have H := H1
   clear H1
   by_cases c7 : (l1_0.length : Int) = 0
   ·rw [if_pos c7] at H
    have c7b0 : ((l1_0.length : Int) == 0) = true := beq_iff_eq.mpr c7
    have c7b1 : ((l1_0.length : Int) != 0) = false := bne_eq_false_iff_eq.mpr c7
    clear c7
    simp only [Option.some.injEq, Prod.mk.injEq] at H
    obtain ⟨rfl, rfl, rfl⟩ := H
    go_enter Try.func25, Try.ntmps25
    go_wp2_with (first | ((with_reducible refine gate_dst (N := 2) rfl ?_); (try (refine gate_guard (by rfl) ?_; dsimp only)); refine hkBox (N := 2) (cs := #[.slice A0_0 l0_0.length c0_0]) (t := 38) ?_; intro gb355 hg w8 hbox hb; have n_ := hkA (hkU HB hb) (hkA (Aside0.mk (hbox)) (hkA (hkG hg (hkS HB)) (hkG hg (hkS HB)))); clear HB; obtain ⟨HB, BK355, GW355, GE355⟩ := n_; clear hb hbox hg) | ((with_reducible refine gate_dst (N := 3) rfl ?_); (try (refine gate_guard (by rfl) ?_; dsimp only)); refine hkBox (N := 3) (cs := #[.slice A1_0 l1_0.length c1_0]) (t := 38) ?_; intro gb356 hg w9 hbox hb; have n_ := hkA (hkBb BK355 hb) (hkA (hkU HB hb) (hkA (Aside0.mk (hbox)) (hkA (hkG hg (hkS HB)) (hkA (hkG hg (hkS HB)) (hkA (hkN hg BK355) (hkM hg BK355)))))); clear BK355 HB; obtain ⟨BK355, HB, BK356, GW356, GE356, NB355_356, NB356_355⟩ := n_; clear hb hbox hg) | ((with_reducible refine gate_dst (N := 4) rfl ?_); (try (refine gate_guard (by rfl) ?_; dsimp only)); refine hkBox (N := 4) (cs := #[.slice none 0 0]) (t := 38) ?_; intro gb357 hg w10 hbox hb; have n_ := hkA (hkBb BK355 hb) (hkA (hkBb BK356 hb) (hkA (hkU HB hb) (hkA (Aside0.mk (hbox)) (hkA (hkG hg (hkS HB)) (hkA (hkG hg (hkS HB)) (hkA (hkN hg BK355) (hkA (hkM hg BK355) (hkA (hkN hg BK356) (hkM hg BK356))))))))); clear BK355 BK356 HB; obtain ⟨BK355, BK356, HB, BK357, GW357, GE357, NB355_357, NB357_355, NB356_357, NB357_356⟩ := n_; clear hb hbox hg) | ((with_reducible refine gate_dst (N := 5) rfl ?_); (try (refine gate_guard (by rfl) ?_; dsimp only)); refine hkBox (N := 5) (cs := #[.slice none 0 0]) (t := 38) ?_; intro gb358 hg w11 hbox hb; have n_ := hkA (hkBb BK355 hb) (hkA (hkBb BK356 hb) (hkA (hkBb BK357 hb) (hkA (hkU HB hb) (hkA (Aside0.mk (hbox)) (hkA (hkG hg (hkS HB)) (hkA (hkG hg (hkS HB)) (hkA (hkN hg BK355) (hkA (hkM hg BK355) (hkA (hkN hg BK356) (hkA (hkM hg BK356) (hkA (hkN hg BK357) (hkM hg BK357)))))))))))); clear BK355 BK356 BK357 HB; obtain ⟨BK355, BK356, BK357, HB, BK358, GW358, GE358, NB355_358, NB358_355, NB356_358, NB358_356, NB357_358, NB358_357⟩ := n_; clear hb hbox hg; have hnb12 := NB355_356.out; have hnc12 := NB356_355.out; have hnb13 := NB355_357.out; have hnc13 := NB357_355.out; have hnb14 := NB355_358.out; have hnc14 := NB358_355.out; obtain ⟨hcz15_0, hfz15_0⟩ := hkc1 BK355) | ((with_reducible refine gate_callee (f := 20) rfl ?_); refine hkGo (N := some 10) Try.func20 #[.agg #[.slice A0_0 l0_0.length c0_0]] ?_; (with_reducible refine (spec_NatOk.calls k _ _ l0_0 true _ ?side1 ?side2 A3.out).mono ?_); (case side1 => exact hkC ((Kd.C_below HR0_0.out HB.out))); (case side2 => exact HC0_0.out); rintro e w16 ⟨rfl, hb⟩; refine ⟨_, rfl, ?_⟩; have n_ := hkA (hkBb BK355 hb) (hkA (hkBb BK356 hb) (hkA (hkBb BK357 hb) (hkA (hkBb BK358 hb) (hkU HB hb)))); clear BK355 BK356 BK357 BK358 HB; obtain ⟨BK355, BK356, BK357, BK358, HB⟩ := n_; (try clear hb); have hnb17 := NB356_357.out; have hnc17 := NB357_356.out; have hnb18 := NB356_358.out; have hnc18 := NB358_356.out; obtain ⟨hcz19_0, hfz19_0⟩ := hkc1 BK356) | (go_at_call 20; (with_reducible refine (spec_NatOk.calls k _ _ l1_0 true _ ?side1 ?side2 A5.out).mono ?_); (case side1 => exact hkC ((Kd.C_below HR1_0.out HB.out))); (case side2 => exact HC1_0.out); rintro e w20 ⟨rfl, hb⟩; have n_ := hkA (hkBb BK355 hb) (hkA (hkBb BK356 hb) (hkA (hkBb BK357 hb) (hkA (hkBb BK358 hb) (hkU HB hb)))); clear BK355 BK356 BK357 BK358 HB; obtain ⟨BK355, BK356, BK357, BK358, HB⟩ := n_; (try clear hb); obtain ⟨hcz21_0, hfz21_0⟩ := hkc1 BK356; have hnb22 := NB357_358.out; have hnc22 := NB358_357.out; obtain ⟨hcz23_0, hfz23_0⟩ := hkc1 BK357; obtain ⟨hcz24_0, hfz24_0⟩ := hkc1 BK358))
    refine bodyPost_ret (results_list (rs := [.cell 4 38, .cell 5 38, .tmp 6]) rfl (by simp) (.cell gb357 38 #[.slice none 0 0] (0, 0) _ rfl hkPp Try.underlying38 rfl (by kernel_rfl) (.cell gb358 38 #[.slice none 0 0] (0, 0) _ rfl hkPp Try.underlying38 rfl (by kernel_rfl) (.tmp .nil)))) rfl ?_
    exact ⟨_, _, hkE, by first | exact Kd.R_nil _ _ _ _ _ | exact Kd.N_nil _ _ _ _ _ | exact Kd.V_nil _ _ _ _ _ | exact Kd.Q_nil _ _ _ _ _ | exact Kd.S_nil _ _ _ _ _, by first | exact Kd.R_nil _ _ _ _ _ | exact Kd.N_nil _ _ _ _ _ | exact Kd.V_nil _ _ _ _ _ | exact Kd.Q_nil _ _ _ _ _ | exact Kd.S_nil _ _ _ _ _, hkS HB⟩
   ·rw [if_neg c7] at H
    have c7b0 : ((l1_0.length : Int) == 0) = false := beq_eq_false_iff_ne.mpr c7
    have c7b1 : ((l1_0.length : Int) != 0) = true := bne_iff_ne.mpr c7
    have c7b2 : ¬ (l1_0 = []) := fun h_ => c7 (by rw [h_]; rfl)
    replace H := hBi H
    obtain ⟨⟨t361, t364⟩, A250, H⟩ := H
    replace H : (some (t361, t364, true)) = some (r1, r2, r3) := H
    have A25 := Aside0.mk A250
    clear A250
    simp only [Option.some.injEq, Prod.mk.injEq] at H
    obtain ⟨rfl, rfl, rfl⟩ := H
    go_enter Try.func25, Try.ntmps25
    try go_wp2_with (first | ((with_reducible refine gate_dst (N := 2) rfl ?_); (try (refine gate_guard (by rfl) ?_; dsimp only)); refine hkBox (N := 2) (cs := #[.slice A0_0 l0_0.length c0_0]) (t := 38) ?_; intro gb355 hg w26 hbox hb; have n_ := hkA (hkU HB hb) (hkA (Aside0.mk (hbox)) (hkA (hkG hg (hkS HB)) (hkG hg (hkS HB)))); clear HB; obtain ⟨HB, BK355, GW355, GE355⟩ := n_; clear hb hbox hg) | ((with_reducible refine gate_dst (N := 3) rfl ?_); (try (refine gate_guard (by rfl) ?_; dsimp only)); refine hkBox (N := 3) (cs := #[.slice A1_0 l1_0.length c1_0]) (t := 38) ?_; intro gb356 hg w27 hbox hb; have n_ := hkA (hkBb BK355 hb) (hkA (hkU HB hb) (hkA (Aside0.mk (hbox)) (hkA (hkG hg (hkS HB)) (hkA (hkG hg (hkS HB)) (hkA (hkN hg BK355) (hkM hg BK355)))))); clear BK355 HB; obtain ⟨BK355, HB, BK356, GW356, GE356, NB355_356, NB356_355⟩ := n_; clear hb hbox hg) | ((with_reducible refine gate_dst (N := 4) rfl ?_); (try (refine gate_guard (by rfl) ?_; dsimp only)); refine hkBox (N := 4) (cs := #[.slice none 0 0]) (t := 38) ?_; intro gb357 hg w28 hbox hb; have n_ := hkA (hkBb BK355 hb) (hkA (hkBb BK356 hb) (hkA (hkU HB hb) (hkA (Aside0.mk (hbox)) (hkA (hkG hg (hkS HB)) (hkA (hkG hg (hkS HB)) (hkA (hkN hg BK355) (hkA (hkM hg BK355) (hkA (hkN hg BK356) (hkM hg BK356))))))))); clear BK355 BK356 HB; obtain ⟨BK355, BK356, HB, BK357, GW357, GE357, NB355_357, NB357_355, NB356_357, NB357_356⟩ := n_; clear hb hbox hg) | ((with_reducible refine gate_dst (N := 5) rfl ?_); (try (refine gate_guard (by rfl) ?_; dsimp only)); refine hkBox (N := 5) (cs := #[.slice none 0 0]) (t := 38) ?_; intro gb358 hg w29 hbox hb; have n_ := hkA (hkBb BK355 hb) (hkA (hkBb BK356 hb) (hkA (hkBb BK357 hb) (hkA (hkU HB hb) (hkA (Aside0.mk (hbox)) (hkA (hkG hg (hkS HB)) (hkA (hkG hg (hkS HB)) (hkA (hkN hg BK355) (hkA (hkM hg BK355) (hkA (hkN hg BK356) (hkA (hkM hg BK356) (hkA (hkN hg BK357) (hkM hg BK357)))))))))))); clear BK355 BK356 BK357 HB; obtain ⟨BK355, BK356, BK357, HB, BK358, GW358, GE358, NB355_358, NB358_355, NB356_358, NB358_356, NB357_358, NB358_357⟩ := n_; clear hb hbox hg; have hnb30 := NB355_356.out; have hnc30 := NB356_355.out; have hnb31 := NB355_357.out; have hnc31 := NB357_355.out; have hnb32 := NB355_358.out; have hnc32 := NB358_355.out; obtain ⟨hcz33_0, hfz33_0⟩ := hkc1 BK355) | ((with_reducible refine gate_callee (f := 20) rfl ?_); refine hkGo (N := some 10) Try.func20 #[.agg #[.slice A0_0 l0_0.length c0_0]] ?_; (with_reducible refine (spec_NatOk.calls k _ _ l0_0 true _ ?side1 ?side2 A3.out).mono ?_); (case side1 => exact hkC ((Kd.C_below HR0_0.out HB.out))); (case side2 => exact HC0_0.out); rintro e w34 ⟨rfl, hb⟩; refine ⟨_, rfl, ?_⟩; have n_ := hkA (hkBb BK355 hb) (hkA (hkBb BK356 hb) (hkA (hkBb BK357 hb) (hkA (hkBb BK358 hb) (hkU HB hb)))); clear BK355 BK356 BK357 BK358 HB; obtain ⟨BK355, BK356, BK357, BK358, HB⟩ := n_; (try clear hb); have hnb35 := NB356_357.out; have hnc35 := NB357_356.out; have hnb36 := NB356_358.out; have hnc36 := NB358_356.out; obtain ⟨hcz37_0, hfz37_0⟩ := hkc1 BK356) | (go_at_call 20; (with_reducible refine (spec_NatOk.calls k _ _ l1_0 true _ ?side1 ?side2 A5.out).mono ?_); (case side1 => exact hkC ((Kd.C_below HR1_0.out HB.out))); (case side2 => exact HC1_0.out); rintro e w38 ⟨rfl, hb⟩; have n_ := hkA (hkBb BK355 hb) (hkA (hkBb BK356 hb) (hkA (hkBb BK357 hb) (hkA (hkBb BK358 hb) (hkU HB hb)))); clear BK355 BK356 BK357 BK358 HB; obtain ⟨BK355, BK356, BK357, BK358, HB⟩ := n_; (try clear hb); obtain ⟨hcz39_0, hfz39_0⟩ := hkc1 BK356; obtain ⟨hcz40_0, hfz40_0⟩ := hkc1 BK355) | ((with_reducible refine gate_callee (f := 64) rfl ?_); refine hkGo (N := some 28) Try.func64 #[.agg #[.slice A0_0 l0_0.length c0_0], .agg #[.slice A1_0 l1_0.length c1_0]] ?_; (with_reducible refine (spec_l2div.calls k _ _ l0_0 _ _ l1_0 t361 t364 _ ?side1 ?side2 ?side3 ?side4 A25.out).mono ?_); (case side1 => exact hkC ((Kd.C_below HR0_0.out HB.out))); (case side2 => exact HC0_0.out); (case side3 => exact hkC ((Kd.C_below HR1_0.out HB.out))); (case side4 => exact HC1_0.out); rintro e w41 ⟨v362, v365, rfl, ho0, ho1, hb⟩; refine ⟨_, rfl, ?_⟩; have n_ := hkA (Aside0.mk (Kd.R_lower ho0 (below_size (hkS HB)))) (hkA (Aside0.mk (Kd.R_lower ho1 (below_size (hkS HB)))) (hkA (hkBb BK355 hb) (hkA (hkBb BK356 hb) (hkA (hkBb BK357 hb) (hkA (hkBb BK358 hb) (hkU HB hb)))))); clear BK355 BK356 BK357 BK358 HB; obtain ⟨HO363, HO366, BK355, BK356, BK357, BK358, HB⟩ := n_; (try clear hb); (try clear ho0); (try clear ho1)) | ((with_reducible refine gate_dst (N := 7) rfl ?_); (try (refine gate_guard (by rfl) ?_; dsimp only)); refine hkBox (N := 7) (cs := #[.slice none 0 0]) (t := 38) ?_; intro gb367 hg w42 hbox hb; have n_ := hkA (hkRb HO363 hb) (hkA (hkRb HO366 hb) (hkA (hkBb BK355 hb) (hkA (hkBb BK356 hb) (hkA (hkBb BK357 hb) (hkA (hkBb BK358 hb) (hkA (hkU HB hb) (hkA (Aside0.mk (hbox)) (hkA (hkG hg (hkS HB)) (hkA (hkG hg (hkS HB)) (hkA (hkN hg BK355) (hkA (hkM hg BK355) (hkA (hkN hg BK356) (hkA (hkM hg BK356) (hkA (hkN hg BK357) (hkA (hkM hg BK357) (hkA (hkN hg BK358) (hkM hg BK358))))))))))))))))); clear HO363 HO366 BK355 BK356 BK357 BK358 HB; obtain ⟨HO363, HO366, BK355, BK356, BK357, BK358, HB, BK367, GW367, GE367, NB355_367, NB367_355, NB356_367, NB367_356, NB357_367, NB367_357, NB358_367, NB367_358⟩ := n_; clear hb hbox hg) | ((with_reducible refine gate_dst (N := 8) rfl ?_); (try (refine gate_guard (by rfl) ?_; dsimp only)); refine hkBox (N := 8) (cs := #[.slice none 0 0]) (t := 38) ?_; intro gb368 hg w43 hbox hb; have n_ := hkA (hkRb HO363 hb) (hkA (hkRb HO366 hb) (hkA (hkBb BK355 hb) (hkA (hkBb BK356 hb) (hkA (hkBb BK357 hb) (hkA (hkBb BK358 hb) (hkA (hkBb BK367 hb) (hkA (hkU HB hb) (hkA (Aside0.mk (hbox)) (hkA (hkG hg (hkS HB)) (hkA (hkG hg (hkS HB)) (hkA (hkN hg BK355) (hkA (hkM hg BK355) (hkA (hkN hg BK356) (hkA (hkM hg BK356) (hkA (hkN hg BK357) (hkA (hkM hg BK357) (hkA (hkN hg BK358) (hkA (hkM hg BK358) (hkA (hkN hg BK367) (hkM hg BK367)))))))))))))))))))); clear HO363 HO366 BK355 BK356 BK357 BK358 BK367 HB; obtain ⟨HO363, HO366, BK355, BK356, BK357, BK358, BK367, HB, BK368, GW368, GE368, NB355_368, NB368_355, NB356_368, NB368_356, NB357_368, NB368_357, NB358_368, NB368_358, NB367_368, NB368_367⟩ := n_; clear hb hbox hg; obtain ⟨Ao44, co44, eo44⟩ := Kd.R_slice HO363.out; subst eo44; have hnb45 := NB367_355.out; have hnc45 := NB355_367.out; have hnb46 := NB367_356.out; have hnc46 := NB356_367.out; have hnb47 := NB367_357.out; have hnc47 := NB357_367.out; have hnb48 := NB367_358.out; have hnc48 := NB358_367.out; have hnb49 := NB367_368.out; have hnc49 := NB368_367.out; obtain ⟨hcz50_0, hfz50_0⟩ := hkc1 BK367; obtain ⟨Ao51, co51, eo51⟩ := Kd.R_slice HO366.out; subst eo51; have hnb52 := NB368_355.out; have hnc52 := NB355_368.out; have hnb53 := NB368_356.out; have hnc53 := NB356_368.out; have hnb54 := NB368_357.out; have hnc54 := NB357_368.out; have hnb55 := NB368_358.out; have hnc55 := NB358_368.out; obtain ⟨hcz56_0, hfz56_0⟩ := hkc1 BK368))
    have n0_ : Aside0 (Kd.R (Kd.int .i64) 3 ((w43.setCell ⟨gb367, 0, none⟩ (.slice Ao44 t361.length co44)).setCell ⟨gb368, 0, none⟩ (.slice Ao51 t364.length co51)) w.heap.size (fun k_ => some k_ ≠ (.slice Ao51 t364.length co51 : Value).ownBlock) (.slice Ao44 t361.length co44) t361) := ⟨by (with_reducible repeat (first | apply Kd.R_alloc | apply Kd.R_drewN | apply Kd.R_drew)); exact Kd.R_mono (Kd.R_far (p := ⟨gb368, 0, none⟩) (Kd.R_far (p := ⟨gb367, 0, none⟩) (Kd.R_types (Kd.R_types HO363.out BK367.out (by decide)) BK368.out (by decide)) (fun _ hk => hk.1.2) (.slice Ao44 t361.length co44)) (fun _ hk => hk.2) (.slice Ao51 t364.length co51)) (fun _ hk => hk.1.1)⟩
    have n1_ : Aside0 (Kd.R (Kd.int .i64) 3 ((w43.setCell ⟨gb367, 0, none⟩ (.slice Ao44 t361.length co44)).setCell ⟨gb368, 0, none⟩ (.slice Ao51 t364.length co51)) w.heap.size (fun k_ => some k_ ≠ (.slice Ao44 t361.length co44 : Value).ownBlock) (.slice Ao51 t364.length co51) t364) := ⟨by (with_reducible repeat (first | apply Kd.R_alloc | apply Kd.R_drewN | apply Kd.R_drew)); exact Kd.R_mono (Kd.R_far (p := ⟨gb368, 0, none⟩) (Kd.R_far (p := ⟨gb367, 0, none⟩) (Kd.R_types (Kd.R_types HO366.out BK367.out (by decide)) BK368.out (by decide)) (fun _ hk => hk.1.2) (.slice Ao44 t361.length co44)) (fun _ hk => hk.2) (.slice Ao51 t364.length co51)) (fun _ hk => hk.1.1)⟩
    have n2_ : Aside0 (((w43.setCell ⟨gb367, 0, none⟩ (.slice Ao44 t361.length co44)).setCell ⟨gb368, 0, none⟩ (.slice Ao51 t364.length co51)).heap[gb355]? = some (.cells #[.slice A0_0 l0_0.length c0_0] 38 (0, 0))) := ⟨by refine hkz ?_; refine blk_far ?_ NB355_368.out _; refine hkz ?_; refine blk_far ?_ NB355_367.out _; refine hkz ?_; exact BK355.out⟩
    have n3_ : Aside0 (((w43.setCell ⟨gb367, 0, none⟩ (.slice Ao44 t361.length co44)).setCell ⟨gb368, 0, none⟩ (.slice Ao51 t364.length co51)).heap[gb356]? = some (.cells #[.slice A1_0 l1_0.length c1_0] 38 (0, 0))) := ⟨by refine hkz ?_; refine blk_far ?_ NB356_368.out _; refine hkz ?_; refine blk_far ?_ NB356_367.out _; refine hkz ?_; exact BK356.out⟩
    have n4_ : Aside0 (((w43.setCell ⟨gb367, 0, none⟩ (.slice Ao44 t361.length co44)).setCell ⟨gb368, 0, none⟩ (.slice Ao51 t364.length co51)).heap[gb357]? = some (.cells #[.slice none 0 0] 38 (0, 0))) := ⟨by refine hkz ?_; refine blk_far ?_ NB357_368.out _; refine hkz ?_; refine blk_far ?_ NB357_367.out _; refine hkz ?_; exact BK357.out⟩
    have n5_ : Aside0 (((w43.setCell ⟨gb367, 0, none⟩ (.slice Ao44 t361.length co44)).setCell ⟨gb368, 0, none⟩ (.slice Ao51 t364.length co51)).heap[gb358]? = some (.cells #[.slice none 0 0] 38 (0, 0))) := ⟨by refine hkz ?_; refine blk_far ?_ NB358_368.out _; refine hkz ?_; refine blk_far ?_ NB358_367.out _; refine hkz ?_; exact BK358.out⟩
    have n6_ : Aside0 (((w43.setCell ⟨gb367, 0, none⟩ (.slice Ao44 t361.length co44)).setCell ⟨gb368, 0, none⟩ (.slice Ao51 t364.length co51)).heap[gb367]? = some (.cells #[.slice Ao44 t361.length co44] 38 (0, 0))) := ⟨by refine hkz ?_; refine blk_far ?_ NB367_368.out _; refine hkz ?_; refine blk_put (cs := #[.slice none 0 0]) ?_ 0 _ rfl; refine hkz ?_; exact BK367.out⟩
    have n7_ : Aside0 (((w43.setCell ⟨gb367, 0, none⟩ (.slice Ao44 t361.length co44)).setCell ⟨gb368, 0, none⟩ (.slice Ao51 t364.length co51)).heap[gb368]? = some (.cells #[.slice Ao51 t364.length co51] 38 (0, 0))) := ⟨by refine hkz ?_; refine blk_put (cs := #[.slice none 0 0]) ?_ 0 _ rfl; refine hkz ?_; refine blk_far ?_ NB368_367.out _; refine hkz ?_; exact BK368.out⟩
    have n8_ : Aside0 (Below w.heap.size w ((w43.setCell ⟨gb367, 0, none⟩ (.slice Ao44 t361.length co44)).setCell ⟨gb368, 0, none⟩ (.slice Ao51 t364.length co51))) := ⟨hkS HB⟩
    (try clear HO363); (try clear HO366); (try clear BK355); (try clear BK356); (try clear BK357); (try clear BK358); (try clear BK367); (try clear BK368); (try clear HB)
    generalize ((w43.setCell ⟨gb367, 0, none⟩ (.slice Ao44 t361.length co44)).setCell ⟨gb368, 0, none⟩ (.slice Ao51 t364.length co51)) = w57 at n0_ n1_ n2_ n3_ n4_ n5_ n6_ n7_ n8_ ⊢
    have HO363 := n0_
    have HO366 := n1_
    have BK355 := n2_
    have BK356 := n3_
    have BK357 := n4_
    have BK358 := n5_
    have BK367 := n6_
    have BK368 := n7_
    have HB := n8_
    clear n0_ n1_ n2_ n3_ n4_ n5_ n6_ n7_ n8_
    have n_ := hkA (Aside0.mk (Kd.R_drew HO363.out)) (hkA (Aside0.mk (Kd.R_drew HO366.out)) (hkA (Aside0.mk (blk_drew BK355.out)) (hkA (Aside0.mk (blk_drew BK356.out)) (hkA (Aside0.mk (blk_drew BK357.out)) (hkA (Aside0.mk (blk_drew BK358.out)) (hkA (Aside0.mk (blk_drew BK367.out)) (hkA (Aside0.mk (blk_drew BK368.out)) (Aside0.mk (below_drew1 HB.out)))))))))
    clear HO363 HO366 BK355 BK356 BK357 BK358 BK367 BK368 HB
    obtain ⟨HO363, HO366, BK355, BK356, BK357, BK358, BK367, BK368, HB⟩ := n_
    refine start_ (n := 5) (S := fun w' => w'.cell? ⟨gb367, 0, none⟩ = some (.slice Ao44 t361.length co44) ∧ w'.cell? ⟨gb368, 0, none⟩ = some (.slice Ao51 t364.length co51)) (ds := []) #[false, false, false, false, false] (by kernel_rfl) rfl rfl ⟨(blk_cell BK367.out 0).trans rfl, (blk_cell BK368.out 0).trans rfl⟩ (fun hHeld => ?_)
    generalize w57.drew = w58 at HO363 HO366 BK355 BK356 BK357 BK358 BK367 BK368 HB hHeld ⊢
    refine hkTk (i := 0) (N := some 31) hHeld ?_ (hy := by rintro w' ⟨s0, s1⟩; go_simp; with_reducible rfl)
    refine hkTk (i := 1) (N := some 32) hHeld ?_ (hy := by rintro w' ⟨s0, s1⟩; go_simp; with_reducible rfl)
    refine one_ (i := 2) (N := none) #[true, true, true, false, false] rfl rfl (by kernel_rfl) (by decide) (fun K hK => ?_)
    have hs59 : w58.cell? ⟨gb357, 0, none⟩ = some (.slice none 0 0) := (blk_cell BK357.out 0).trans rfl
    have hfs59 := blk_frozen BK357.out 0
    have hns59_0 := NB355_357.out
    have hns59_1 := NB356_357.out
    have hns59_3 := NB358_357.out
    have hns59_4 := NB367_357.out
    have hns59_5 := NB368_357.out
    have hms59_0 := NB357_355.out
    have hms59_1 := NB357_356.out
    have hms59_3 := NB357_358.out
    have hms59_4 := NB357_367.out
    have hms59_5 := NB357_368.out
    refine skip_ (w1 := ?_) (by rfl) rfl ?_ ?_
    rotate_left
    ·go_simp
     rfl
    refine hK.out _ _ ⟨((cell_far (p := ⟨gb357, _, none⟩) NB367_357.out _).trans (hHeld.1)), ((cell_far (p := ⟨gb357, _, none⟩) NB368_357.out _).trans (hHeld.2))⟩ (fun hHeld => ?_)
    clear hK K
    refine one_ (i := 3) (N := none) #[true, true, true, true, false] rfl rfl (by kernel_rfl) (by decide) (fun K hK => ?_)
    have hs60 : w58.cell? ⟨gb358, 0, none⟩ = some (.slice none 0 0) := (blk_cell BK358.out 0).trans rfl
    have hfs60 := blk_frozen BK358.out 0
    have hns60_0 := NB355_358.out
    have hns60_1 := NB356_358.out
    have hns60_2 := NB357_358.out
    have hns60_4 := NB367_358.out
    have hns60_5 := NB368_358.out
    have hms60_0 := NB358_355.out
    have hms60_1 := NB358_356.out
    have hms60_2 := NB358_357.out
    have hms60_4 := NB358_367.out
    have hms60_5 := NB358_368.out
    refine skip_ (w1 := ?_) (by rfl) rfl ?_ ?_
    rotate_left
    ·go_simp
     rfl
    refine hK.out _ _ ⟨((cell_far (p := ⟨gb358, _, none⟩) NB367_358.out _).trans (hHeld.1)), ((cell_far (p := ⟨gb358, _, none⟩) NB368_358.out _).trans (hHeld.2))⟩ (fun hHeld => ?_)
    clear hK K
    refine hkPu (i := 4) (N := some 6) ?_
    refine done_ (by kernel_rfl) ?_
    try go_wp2
    refine bodyPost_ret (results_list (rs := [.cell 4 38, .cell 5 38, .tmp 6]) rfl (by simp) (.cell gb357 38 #[.slice Ao44 t361.length co44] (0, 0) _ rfl hkPp Try.underlying38 rfl (by kernel_rfl) (.cell gb358 38 #[.slice Ao51 t364.length co51] (0, 0) _ rfl hkPp Try.underlying38 rfl (by kernel_rfl) (.tmp .nil)))) rfl ?_
    exact ⟨_, _, hkE, by (with_reducible repeat (first | apply Kd.R_alloc | apply Kd.R_drewN | apply Kd.R_drew)); exact Kd.R_mono (Kd.R_far (p := ⟨gb358, 0, none⟩) (Kd.R_far (p := ⟨gb357, 0, none⟩) (Kd.R_types (Kd.R_types HO363.out BK357.out (by decide)) BK358.out (by decide)) (fun _ hk => hk.1.2) (.slice Ao44 t361.length co44)) (fun _ hk => hk.2) (.slice Ao51 t364.length co51)) (fun _ hk => hk.1.1), by (with_reducible repeat (first | apply Kd.R_alloc | apply Kd.R_drewN | apply Kd.R_drew)); exact Kd.R_mono (Kd.R_far (p := ⟨gb358, 0, none⟩) (Kd.R_far (p := ⟨gb357, 0, none⟩) (Kd.R_types (Kd.R_types HO366.out BK357.out (by decide)) BK358.out (by decide)) (fun _ hk => hk.1.2) (.slice Ao44 t361.length co44)) (fun _ hk => hk.2) (.slice Ao51 t364.length co51)) (fun _ hk => hk.1.1), hkS HB⟩
  ·replace c6 := Bool.eq_false_iff.mpr c6
   subst c6
   have H1 : (some (([] : List Int), ([] : List Int), false)) = some (r1, r2, r3) := by rw [if_neg (show ¬ (false = true) by decide)] at H; exact H
   clear H
   have H := H1
   clear H1
   simp only [Option.some.injEq, Prod.mk.injEq] at H
   obtain ⟨rfl, rfl, rfl⟩ := H
   go_enter Try.func25, Try.ntmps25
   go_wp2_with (first | ((with_reducible refine gate_dst (N := 2) rfl ?_); (try (refine gate_guard (by rfl) ?_; dsimp only)); refine hkBox (N := 2) (cs := #[.slice A0_0 l0_0.length c0_0]) (t := 38) ?_; intro gb355 hg w61 hbox hb; have n_ := hkA (hkU HB hb) (hkA (Aside0.mk (hbox)) (hkA (hkG hg (hkS HB)) (hkG hg (hkS HB)))); clear HB; obtain ⟨HB, BK355, GW355, GE355⟩ := n_; clear hb hbox hg) | ((with_reducible refine gate_dst (N := 3) rfl ?_); (try (refine gate_guard (by rfl) ?_; dsimp only)); refine hkBox (N := 3) (cs := #[.slice A1_0 l1_0.length c1_0]) (t := 38) ?_; intro gb356 hg w62 hbox hb; have n_ := hkA (hkBb BK355 hb) (hkA (hkU HB hb) (hkA (Aside0.mk (hbox)) (hkA (hkG hg (hkS HB)) (hkA (hkG hg (hkS HB)) (hkA (hkN hg BK355) (hkM hg BK355)))))); clear BK355 HB; obtain ⟨BK355, HB, BK356, GW356, GE356, NB355_356, NB356_355⟩ := n_; clear hb hbox hg) | ((with_reducible refine gate_dst (N := 4) rfl ?_); (try (refine gate_guard (by rfl) ?_; dsimp only)); refine hkBox (N := 4) (cs := #[.slice none 0 0]) (t := 38) ?_; intro gb357 hg w63 hbox hb; have n_ := hkA (hkBb BK355 hb) (hkA (hkBb BK356 hb) (hkA (hkU HB hb) (hkA (Aside0.mk (hbox)) (hkA (hkG hg (hkS HB)) (hkA (hkG hg (hkS HB)) (hkA (hkN hg BK355) (hkA (hkM hg BK355) (hkA (hkN hg BK356) (hkM hg BK356))))))))); clear BK355 BK356 HB; obtain ⟨BK355, BK356, HB, BK357, GW357, GE357, NB355_357, NB357_355, NB356_357, NB357_356⟩ := n_; clear hb hbox hg) | ((with_reducible refine gate_dst (N := 5) rfl ?_); (try (refine gate_guard (by rfl) ?_; dsimp only)); refine hkBox (N := 5) (cs := #[.slice none 0 0]) (t := 38) ?_; intro gb358 hg w64 hbox hb; have n_ := hkA (hkBb BK355 hb) (hkA (hkBb BK356 hb) (hkA (hkBb BK357 hb) (hkA (hkU HB hb) (hkA (Aside0.mk (hbox)) (hkA (hkG hg (hkS HB)) (hkA (hkG hg (hkS HB)) (hkA (hkN hg BK355) (hkA (hkM hg BK355) (hkA (hkN hg BK356) (hkA (hkM hg BK356) (hkA (hkN hg BK357) (hkM hg BK357)))))))))))); clear BK355 BK356 BK357 HB; obtain ⟨BK355, BK356, BK357, HB, BK358, GW358, GE358, NB355_358, NB358_355, NB356_358, NB358_356, NB357_358, NB358_357⟩ := n_; clear hb hbox hg; have hnb65 := NB355_356.out; have hnc65 := NB356_355.out; have hnb66 := NB355_357.out; have hnc66 := NB357_355.out; have hnb67 := NB355_358.out; have hnc67 := NB358_355.out; obtain ⟨hcz68_0, hfz68_0⟩ := hkc1 BK355) | ((with_reducible refine gate_callee (f := 20) rfl ?_); refine hkGo (N := some 10) Try.func20 #[.agg #[.slice A0_0 l0_0.length c0_0]] ?_; (with_reducible refine (spec_NatOk.calls k _ _ l0_0 true _ ?side1 ?side2 A3.out).mono ?_); (case side1 => exact hkC ((Kd.C_below HR0_0.out HB.out))); (case side2 => exact HC0_0.out); rintro e w69 ⟨rfl, hb⟩; refine ⟨_, rfl, ?_⟩; have n_ := hkA (hkBb BK355 hb) (hkA (hkBb BK356 hb) (hkA (hkBb BK357 hb) (hkA (hkBb BK358 hb) (hkU HB hb)))); clear BK355 BK356 BK357 BK358 HB; obtain ⟨BK355, BK356, BK357, BK358, HB⟩ := n_; (try clear hb); have hnb70 := NB356_357.out; have hnc70 := NB357_356.out; have hnb71 := NB356_358.out; have hnc71 := NB358_356.out; obtain ⟨hcz72_0, hfz72_0⟩ := hkc1 BK356) | (go_at_call 20; (with_reducible refine (spec_NatOk.calls k _ _ l1_0 false _ ?side1 ?side2 A5.out).mono ?_); (case side1 => exact hkC ((Kd.C_below HR1_0.out HB.out))); (case side2 => exact HC1_0.out); rintro e w73 ⟨rfl, hb⟩; have n_ := hkA (hkBb BK355 hb) (hkA (hkBb BK356 hb) (hkA (hkBb BK357 hb) (hkA (hkBb BK358 hb) (hkU HB hb)))); clear BK355 BK356 BK357 BK358 HB; obtain ⟨BK355, BK356, BK357, BK358, HB⟩ := n_; (try clear hb); have hnb74 := NB357_358.out; have hnc74 := NB358_357.out; obtain ⟨hcz75_0, hfz75_0⟩ := hkc1 BK357; obtain ⟨hcz76_0, hfz76_0⟩ := hkc1 BK358))
   refine bodyPost_ret (results_list (rs := [.cell 4 38, .cell 5 38, .tmp 6]) rfl (by simp) (.cell gb357 38 #[.slice none 0 0] (0, 0) _ rfl hkPp Try.underlying38 rfl (by kernel_rfl) (.cell gb358 38 #[.slice none 0 0] (0, 0) _ rfl hkPp Try.underlying38 rfl (by kernel_rfl) (.tmp .nil)))) rfl ?_
   exact ⟨_, _, hkE, by first | exact Kd.R_nil _ _ _ _ _ | exact Kd.N_nil _ _ _ _ _ | exact Kd.V_nil _ _ _ _ _ | exact Kd.Q_nil _ _ _ _ _ | exact Kd.S_nil _ _ _ _ _, by first | exact Kd.R_nil _ _ _ _ _ | exact Kd.N_nil _ _ _ _ _ | exact Kd.V_nil _ _ _ _ _ | exact Kd.Q_nil _ _ _ _ _ | exact Kd.S_nil _ _ _ _ _, hkS HB⟩
 ·replace c4 := Bool.eq_false_iff.mpr c4
  subst c4
  have H1 : (some (([] : List Int), ([] : List Int), false)) = some (r1, r2, r3) := by rw [if_neg (show ¬ (false = true) by decide)] at H; exact H
  clear H
  have H := H1
  clear H1
  simp only [Option.some.injEq, Prod.mk.injEq] at H
  obtain ⟨rfl, rfl, rfl⟩ := H
  go_enter Try.func25, Try.ntmps25
  go_wp2_with (first | ((with_reducible refine gate_dst (N := 2) rfl ?_); (try (refine gate_guard (by rfl) ?_; dsimp only)); refine hkBox (N := 2) (cs := #[.slice A0_0 l0_0.length c0_0]) (t := 38) ?_; intro gb355 hg w77 hbox hb; have n_ := hkA (hkU HB hb) (hkA (Aside0.mk (hbox)) (hkA (hkG hg (hkS HB)) (hkG hg (hkS HB)))); clear HB; obtain ⟨HB, BK355, GW355, GE355⟩ := n_; clear hb hbox hg) | ((with_reducible refine gate_dst (N := 3) rfl ?_); (try (refine gate_guard (by rfl) ?_; dsimp only)); refine hkBox (N := 3) (cs := #[.slice A1_0 l1_0.length c1_0]) (t := 38) ?_; intro gb356 hg w78 hbox hb; have n_ := hkA (hkBb BK355 hb) (hkA (hkU HB hb) (hkA (Aside0.mk (hbox)) (hkA (hkG hg (hkS HB)) (hkA (hkG hg (hkS HB)) (hkA (hkN hg BK355) (hkM hg BK355)))))); clear BK355 HB; obtain ⟨BK355, HB, BK356, GW356, GE356, NB355_356, NB356_355⟩ := n_; clear hb hbox hg) | ((with_reducible refine gate_dst (N := 4) rfl ?_); (try (refine gate_guard (by rfl) ?_; dsimp only)); refine hkBox (N := 4) (cs := #[.slice none 0 0]) (t := 38) ?_; intro gb357 hg w79 hbox hb; have n_ := hkA (hkBb BK355 hb) (hkA (hkBb BK356 hb) (hkA (hkU HB hb) (hkA (Aside0.mk (hbox)) (hkA (hkG hg (hkS HB)) (hkA (hkG hg (hkS HB)) (hkA (hkN hg BK355) (hkA (hkM hg BK355) (hkA (hkN hg BK356) (hkM hg BK356))))))))); clear BK355 BK356 HB; obtain ⟨BK355, BK356, HB, BK357, GW357, GE357, NB355_357, NB357_355, NB356_357, NB357_356⟩ := n_; clear hb hbox hg) | ((with_reducible refine gate_dst (N := 5) rfl ?_); (try (refine gate_guard (by rfl) ?_; dsimp only)); refine hkBox (N := 5) (cs := #[.slice none 0 0]) (t := 38) ?_; intro gb358 hg w80 hbox hb; have n_ := hkA (hkBb BK355 hb) (hkA (hkBb BK356 hb) (hkA (hkBb BK357 hb) (hkA (hkU HB hb) (hkA (Aside0.mk (hbox)) (hkA (hkG hg (hkS HB)) (hkA (hkG hg (hkS HB)) (hkA (hkN hg BK355) (hkA (hkM hg BK355) (hkA (hkN hg BK356) (hkA (hkM hg BK356) (hkA (hkN hg BK357) (hkM hg BK357)))))))))))); clear BK355 BK356 BK357 HB; obtain ⟨BK355, BK356, BK357, HB, BK358, GW358, GE358, NB355_358, NB358_355, NB356_358, NB358_356, NB357_358, NB358_357⟩ := n_; clear hb hbox hg; have hnb81 := NB355_356.out; have hnc81 := NB356_355.out; have hnb82 := NB355_357.out; have hnc82 := NB357_355.out; have hnb83 := NB355_358.out; have hnc83 := NB358_355.out; obtain ⟨hcz84_0, hfz84_0⟩ := hkc1 BK355) | ((with_reducible refine gate_callee (f := 20) rfl ?_); refine hkGo (N := some 10) Try.func20 #[.agg #[.slice A0_0 l0_0.length c0_0]] ?_; (with_reducible refine (spec_NatOk.calls k _ _ l0_0 false _ ?side1 ?side2 A3.out).mono ?_); (case side1 => exact hkC ((Kd.C_below HR0_0.out HB.out))); (case side2 => exact HC0_0.out); rintro e w85 ⟨rfl, hb⟩; refine ⟨_, rfl, ?_⟩; have n_ := hkA (hkBb BK355 hb) (hkA (hkBb BK356 hb) (hkA (hkBb BK357 hb) (hkA (hkBb BK358 hb) (hkU HB hb)))); clear BK355 BK356 BK357 BK358 HB; obtain ⟨BK355, BK356, BK357, BK358, HB⟩ := n_; (try clear hb); have hnb86 := NB357_356.out; have hnc86 := NB356_357.out; have hnb87 := NB357_358.out; have hnc87 := NB358_357.out; obtain ⟨hcz88_0, hfz88_0⟩ := hkc1 BK357; have hnb89 := NB358_356.out; have hnc89 := NB356_358.out; obtain ⟨hcz90_0, hfz90_0⟩ := hkc1 BK358))
  refine bodyPost_ret (results_list (rs := [.cell 4 38, .cell 5 38, .tmp 6]) rfl (by simp) (.cell gb357 38 #[.slice none 0 0] (0, 0) _ rfl hkPp Try.underlying38 rfl (by kernel_rfl) (.cell gb358 38 #[.slice none 0 0] (0, 0) _ rfl hkPp Try.underlying38 rfl (by kernel_rfl) (.tmp .nil)))) rfl ?_
  exact ⟨_, _, hkE, by first | exact Kd.R_nil _ _ _ _ _ | exact Kd.N_nil _ _ _ _ _ | exact Kd.V_nil _ _ _ _ _ | exact Kd.Q_nil _ _ _ _ _ | exact Kd.S_nil _ _ _ _ _, by first | exact Kd.R_nil _ _ _ _ _ | exact Kd.N_nil _ _ _ _ _ | exact Kd.V_nil _ _ _ _ _ | exact Kd.Q_nil _ _ _ _ _ | exact Kd.S_nil _ _ _ _ _, hkS HB⟩

/-! ### laws_toIntS: function 65 -/
def laws_toIntS.l0 : Nat → List Int → List Int → Int → Option (List Int)
 | 0, _, _, _ => none
 | k + 1, x0, x3, x4 => if x4 < (x0.length : Int) then (if 0 ≤ x4 then (if x4 < (x3.length : Int) then (laws_toIntS.l0 k x0 (x3.set (x4 : Int).toNat (rd x0 x4)) (wrap64 (x4 + 1))) else (none)) else (none)) else (some x3)
def laws_toIntS.f (k : Nat) (l0 : List Int) : Option (List Int) := if 0 ≤ (l0.length : Int) then (if ((l0.length : Int) : Int).toNat ≤ 35184372088832 then (laws_toIntS.l0 k l0 (List.replicate ((l0.length : Int) : Int).toNat 0) 0) else (none)) else (none)
theorem laws_toIntS.mono_l : ∀ k, (∀ y0 y1 y2, LeO (laws_toIntS.l0 k y0 y1 y2) (laws_toIntS.l0 (k + 1) y0 y1 y2))
 | 0 => fun _ _ _ r h => by simp [laws_toIntS.l0] at h
 | k + 1 => by
  have ih0 := laws_toIntS.mono_l k
  ·intro y0 y1 y2
   unfold laws_toIntS.l0
   repeat' first
   | (with_reducible exact ih0 _ _ _)
   | (with_reducible exact LeO.refl _)
   | (with_reducible exact LeO.none _)
   | (with_reducible refine LeO.ite ?_ ?_)
   | (with_reducible refine LeO.bind ?_ (fun _ => ?_))
   | exact ih0 _ _ _
   | exact LeO.none _
   | refine LeO.ite ?_ ?_
   | refine LeO.bind ?_ (fun _ => ?_)
theorem laws_toIntS.mono : ∀ a0 k, LeO (laws_toIntS.f k a0) (laws_toIntS.f (k + 1) a0) := by
 intro a0 k
 have ih0 := laws_toIntS.mono_l k
 unfold laws_toIntS.f
 repeat' first
   | (with_reducible exact ih0 _ _ _)
   | (with_reducible exact LeO.refl _)
   | (with_reducible exact LeO.none _)
   | (with_reducible refine LeO.ite ?_ ?_)
   | (with_reducible refine LeO.bind ?_ (fun _ => ?_))
   | exact ih0 _ _ _
   | exact LeO.none _
   | refine LeO.ite ?_ ?_
   | refine LeO.bind ?_ (fun _ => ?_)
set_option maxHeartbeats 8000000 in
set_option maxRecDepth 100000 in
theorem laws_toIntS.calls (k : Nat) (A0 : Option Addr) (c0 : Nat) (l0 : List Int) (r : List Int) (w : World) (hr0 : Kd.C (Kd.int .i64) w A0 l0.length l0) (hc0 : l0.length ≤ c0) (h : laws_toIntS.f k l0 = some r) :
  Calls Try.prog 65 #[.slice A0 l0.length c0] w fun e w' => ∃ v0_ : Value, e = .returned (v0_) ∧ Kd.R (Kd.int .i64) 3 w' w.heap.size (fun _ => True) v0_ r ∧ Below w.heap.size w w' := by
 have HR0 := Aside0.mk hr0
 have HC0 := Aside0.mk hc0
 clear hr0 hc0
 have HB := Aside0.mk (Below.refl w.heap.size w)
 have H : (if 0 ≤ (l0.length : Int) then (if ((l0.length : Int) : Int).toNat ≤ 35184372088832 then (laws_toIntS.l0 k l0 (List.replicate ((l0.length : Int) : Int).toNat 0) 0) else (none)) else (none)) = some r := h
 clear h
 by_cases c2 : 0 ≤ (l0.length : Int)
 ·rw [if_pos c2] at H
  have c2b0 := eq_true c2
  have c2b1 : decide (0 ≤ (l0.length : Int)) = true := decide_eq_true c2
  clear c2
  by_cases c3 : ((l0.length : Int) : Int).toNat ≤ 35184372088832
  ·rw [if_pos c3] at H
   have c3b0 := eq_true c3
   have c3b1 : decide (((l0.length : Int) : Int).toNat ≤ 35184372088832) = true := decide_eq_true c3
   clear c3
   obtain ⟨y369, hy369⟩ : ∃ y_ : List Int, y_ = (List.replicate ((l0.length : Int) : Int).toNat 0) := ⟨_, rfl⟩
   replace H : (laws_toIntS.l0 k l0 y369 0) = some r := by first | (rw [hy369]; with_reducible exact H) | (have H2_ := (Option.bind_some _ _).symm.trans H; rw [hy369]; with_reducible exact H2_) | (have H2_ := (Option.bind_some _ _).symm.trans H; with_reducible exact H2_) | with_reducible exact H | (rw [hy369]; exact H) | exact H
   have Ny369 := Aside0.mk hy369
   clear hy369
   have H' := Aside0.mk H
   clear H
   go_enter Try.func65, Try.ntmps65
   go_wp2_with (first | ((with_reducible refine gate_dst (N := 7) rfl ?_); refine Kd.R_make (Kd.int .i64) _ 3 rfl (N := 7) rfl 29 _ _ rfl (l0.length : Int) rfl rfl Try.underlying29 (.int .i64 0) 8 info3 rfl (by decide) (by omega) 0 (ok := fun _ => True) (okp := fun _ => True) rfl (fun _ hk => hk) trivial (of_decide_eq_true (by first | (with_reducible assumption) | assumption)) (Nat.le_trans (Nat.mul_le_mul_right _ (of_decide_eq_true (by first | (with_reducible assumption) | assumption) : (l0.length : Int).toNat ≤ 35184372088832)) (by omega)) (Below.refl _ _) (Nat.le_refl _) ?_; intro v370 w4 ho5 hb hg_ hnew_; clear hg_ hnew_; (first | rw [← Ny369.out] at ho5 | (simp only [Int.reduceToNat] at ho5; rw [← Ny369.out] at ho5) | (simp only [Int.toNat_zero, List.replicate_zero] at ho5; rw [← Ny369.out] at ho5)); have n_ := hkA (Aside0.mk (Kd.R_lower ho5 (below_size (hkS HB)))) (hkU HB hb); clear HB; obtain ⟨HO371, HB⟩ := n_; clear hb ho5))
   go_loopg [4] k (fun kq v4 w' => ∃ (x3_1 : List Int) (x4_1 : Int), v4 = .int .i64 x4_1 ∧ Aside0 (laws_toIntS.l0 kq l0 x3_1 x4_1 = some r) ∧ Aside0 (kq ≤ k) ∧ Aside0 (Kd.R (Kd.int .i64) 3 w' w.heap.size (fun _ => True) v370 x3_1) ∧ Aside0 (Below w.heap.size w w'))
   case atStart => exact ⟨(y369), (0), (by first | rfl | (simp; done) | (simp [*]; done)), H', ⟨Nat.le_refl _⟩, ⟨by (with_reducible repeat (first | apply Kd.R_alloc | apply Kd.R_drewN | apply Kd.R_drew)); exact HO371.out⟩, ⟨hkS HB⟩⟩
   case round =>
    clear H'
    try clear c2
    try clear c2b0
    try clear c2b1
    try clear p2
    try clear c3
    try clear c3b0
    try clear c3b1
    obtain ⟨x3_1, x4_1, rfl, HA, HK1, HO_3, HB⟩ := hrel
    cases gk with
    | zero => exact absurd HA.out (by simp [laws_toIntS.l0])
    | succ k1 =>
     have H := HA.out
     clear HA
     simp only [laws_toIntS.l0] at H
     by_cases c6 : x4_1 < (l0.length : Int)
     ·rw [if_pos c6] at H
      have c6b0 : decide (x4_1 < (l0.length : Int)) = true := decide_eq_true c6
      clear c6
      by_cases c7 : 0 ≤ x4_1
      ·rw [if_pos c7] at H
       have c7b0 : decide (0 ≤ x4_1) = true := decide_eq_true c7
       clear c7
       by_cases c8 : x4_1 < (x3_1.length : Int)
       ·rw [if_pos c8] at H
        have c8b0 : decide (x4_1 < (x3_1.length : Int)) = true := decide_eq_true c8
        clear c8
        obtain ⟨y373, hy373⟩ : ∃ y_ : List Int, y_ = (x3_1.set (x4_1 : Int).toNat (rd l0 x4_1)) := ⟨_, rfl⟩
        replace H : (laws_toIntS.l0 k1 l0 y373 (wrap64 (x4_1 + 1))) = some r := by first | (rw [hy373]; with_reducible exact H) | (have H2_ := (Option.bind_some _ _).symm.trans H; rw [hy373]; with_reducible exact H2_) | (have H2_ := (Option.bind_some _ _).symm.trans H; with_reducible exact H2_) | with_reducible exact H | (rw [hy373]; exact H) | exact H
        have Ny373 := Aside0.mk hy373
        clear hy373
        have H' := Aside0.mk H
        clear H
        have p372 : 0 ≤ (x4_1 : Int) := of_decide_eq_true (by first | (with_reducible assumption) | assumption)
        have q372 : x4_1 < (l0.length : Int) := of_decide_eq_true (by first | (with_reducible assumption) | assumption)
        obtain ⟨ad372, e372, hx372_0⟩ := Kd.at_int HR0.out x4_1 p372 q372
        cases e372
        replace hx372_0 := (HB.out.cell (World.block_lt_of_cell? w _ hx372_0)).trans hx372_0
        replace p372 := eq_true p372
        replace q372 := eq_true q372
        have p9 : 0 ≤ (x4_1 : Int) := of_decide_eq_true (by first | (with_reducible assumption) | assumption)
        have q9 : (x4_1 : Int) < ((x3_1.length : Int) : Int) := of_decide_eq_true (by first | (with_reducible assumption) | assumption)
        obtain ⟨go9, co9, eo9, gb9, gl9, cl9, HG9⟩ := Kd.R_form HO_3.out (by omega)
        (first | cases eo9 | (injection eo9 with ea_ en_ ec_; (first | subst ea_ | (injection ea_ with ea_; subst ea_)); subst ec_; clear en_))
        have GB9 := Aside0.mk gb9
        have GG9 := Aside0.mk HG9
        clear gb9 gl9 HG9
        obtain ⟨hx9_0, hf9_0⟩ := Kd.R_celln 0 HO_3.out (x4_1 : Int) p9 q9
        replace p9 := eq_true p9
        replace q9 := eq_true q9
        have HP10 := Kd.R_putg HO_3.out (x4_1 : Int) (rd l0 x4_1)
        go_wp2_with (first | ((with_reducible refine gate_store (t := 3) (p := 20) rfl ?_); refine store_event (t := 3) (p := 20) (v := ?vo_w11) (w1 := (wr.setCell ⟨go9, (x4_1 : Int).toNat, none⟩ (.int .i64 (rd l0 x4_1)))) ?hg ?ho ?hn ?hr ?_; (case ho => rfl); (case hg => rfl); (case hn => rfl); (case hr => first | (go_simp; done) | (go_simp; rfl)); intro w11 hw; have hg : wr.grownBy w11 (some go9) := (by rw [hw]; exact HP10.2); have hp_ : Kd.R (Kd.int .i64) 3 w11 w.heap.size (fun _ => True) (.slice (some ⟨go9, 0, none⟩) x3_1.length co9) y373 := (by rw [hw, Ny373.out]; exact HP10.1); clear HP10; have n_ := hkA (Aside0.mk (hp_)) (Aside0.mk ((by rw [hw]; exact below_set (HB.out) GB9.out : Below w.heap.size w w11))); clear HO_3 HB; obtain ⟨HO_3, HB⟩ := n_; clear hg hw hp_))
        go_roundg k1
        case measure => have := HK1.out; omega
        case rel => exact ⟨(y373), (wrap64 (x4_1 + 1)), (by first | rfl | (simp; done) | (simp [*]; done)), H', ⟨by have := HK1.out; omega⟩, ⟨by (with_reducible repeat (first | apply Kd.R_alloc | apply Kd.R_drewN | apply Kd.R_drew)); exact HO_3.out⟩, ⟨hkS HB⟩⟩
       ·rw [if_neg c8] at H
        exact absurd H (by simp)
      ·rw [if_neg c7] at H
       exact absurd H (by simp)
     ·rw [if_neg c6] at H
      have c6b0 : decide (x4_1 < (l0.length : Int)) = false := decide_eq_false c6
      clear c6
      obtain rfl := Option.some.inj H
      go_wp2
      go_ret
      exact ⟨_, hkE, by (with_reducible repeat (first | apply Kd.R_alloc | apply Kd.R_drewN | apply Kd.R_drew)); exact HO_3.out, hkS HB⟩
  ·rw [if_neg c3] at H
   exact absurd H (by simp)
 ·rw [if_neg c2] at H
  exact absurd H (by simp)

end Go.Proofs.Ytgjpahofopoflaa.PFnExactNatDiv
