-- Written by our own driver (wip/hand/hprint.py) over the seat's translation.
import Derived.Test.YtgjpahofopoflaaPFnExactNatDivx0
import Derived.Test.YtgjpahofopoflaaPFnExactNatDivx1
import Derived.Test.YtgjpahofopoflaaPFnExactNatDivx10
namespace Go.Proofs.Ytgjpahofopoflaa.PFnExactNatDiv
open Go.RowKit Go.Proofs.YtgjpahofopoflaaW.PrintWords Go.Proofs.YtgjpahofopoflaaW.PrintLast Go.Proofs.YtgjpahofopoflaaW.PrintMore
attribute [local go_sem] max2_int min2_int max_two min_two max_three min_three max_four min_four   -- for this text's walks alone
set_option linter.unusedVariables false
set_option linter.unusedSimpArgs false

/-! ### impl_NatDiv: function 23 -/
def impl_NatDiv.f (k : Nat) (l0_0 : List Int) (l1_0 : List Int) : Option (List Int × List Int × Bool) := (impl_areNats.f l0_0 l1_0).bind fun t224 => (if t224 = true then (if (l1_0.length : Int) = 0 then (some (([] : List Int), ([] : List Int), false)) else ((impl_divide.f k l0_0 l1_0).bind fun bt225 => (some (bt225.1, bt225.2, true)))) else (some (([] : List Int), ([] : List Int), false)))
theorem impl_NatDiv.mono : ∀ a0 a1 k, LeO (impl_NatDiv.f k a0 a1) (impl_NatDiv.f (k + 1) a0 a1) := by
 intro a0 a1 k
 unfold impl_NatDiv.f
 repeat' first
   | (with_reducible exact impl_divide.mono _ _ _)
   | (with_reducible exact LeO.refl _)
   | (with_reducible exact LeO.none _)
   | (with_reducible refine LeO.ite ?_ ?_)
   | (with_reducible refine LeO.bind ?_ (fun _ => ?_))
   | exact impl_divide.mono _ _ _
   | exact LeO.none _
   | refine LeO.ite ?_ ?_
   | refine LeO.bind ?_ (fun _ => ?_)
set_option maxHeartbeats 8000000 in
set_option maxRecDepth 100000 in
theorem impl_NatDiv.calls (k : Nat) (A0_0 : Option Addr) (c0_0 : Nat) (l0_0 : List Int) (A1_0 : Option Addr) (c1_0 : Nat) (l1_0 : List Int) (r1 : List Int) (r2 : List Int) (r3 : Bool) (w : World) (hr0_0 : Kd.C (Kd.int .i64) w A0_0 l0_0.length l0_0) (hc0_0 : l0_0.length ≤ c0_0) (hr1_0 : Kd.C (Kd.int .i64) w A1_0 l1_0.length l1_0) (hc1_0 : l1_0.length ≤ c1_0) (h : impl_NatDiv.f k l0_0 l1_0 = some (r1, r2, r3)) :
  Calls Try.prog 23 #[.agg #[.slice A0_0 l0_0.length c0_0], .agg #[.slice A1_0 l1_0.length c1_0]] w fun e w' => ∃ v0_ v1_ : Value, e = .returned (.tuple #[.agg #[v0_], .agg #[v1_], .bool r3]) ∧ Kd.R (Kd.int .i64) 3 w' w.heap.size (fun k_ => some k_ ≠ (v1_ : Value).ownBlock) v0_ r1 ∧ Kd.R (Kd.int .i64) 3 w' w.heap.size (fun k_ => some k_ ≠ (v0_ : Value).ownBlock) v1_ r2 ∧ Below w.heap.size w w' := by
 have hu38 := Try.underlying38
 have HR0_0 := Aside0.mk hr0_0
 have HC0_0 := Aside0.mk hc0_0
 clear hr0_0 hc0_0
 have HR1_0 := Aside0.mk hr1_0
 have HC1_0 := Aside0.mk hc1_0
 clear hr1_0 hc1_0
 have HB := Aside0.mk (Below.refl w.heap.size w)
 have H : ((impl_areNats.f l0_0 l1_0).bind fun t224 => (if t224 = true then (if (l1_0.length : Int) = 0 then (some (([] : List Int), ([] : List Int), false)) else ((impl_divide.f k l0_0 l1_0).bind fun bt225 => (some (bt225.1, bt225.2, true)))) else (some (([] : List Int), ([] : List Int), false)))) = some (r1, r2, r3) := h
 clear h
 replace H := hBi H
 obtain ⟨t224, A30, H⟩ := H
 replace H : (if t224 = true then (if (l1_0.length : Int) = 0 then (some (([] : List Int), ([] : List Int), false)) else ((impl_divide.f k l0_0 l1_0).bind fun bt225 => (some (bt225.1, bt225.2, true)))) else (some (([] : List Int), ([] : List Int), false))) = some (r1, r2, r3) := H
 have A3 := Aside0.mk A30
 clear A30
 by_cases c4 : t224 = true
 ·subst c4
  have H1 : (if (l1_0.length : Int) = 0 then (some (([] : List Int), ([] : List Int), false)) else ((impl_divide.f k l0_0 l1_0).bind fun bt225 => (some (bt225.1, bt225.2, true)))) = some (r1, r2, r3) := by rw [if_pos rfl] at H; exact H
  clear H
  have H := H1
  clear H1
  by_cases c5 : (l1_0.length : Int) = 0
  ·rw [if_pos c5] at H
   have c5b0 : ((l1_0.length : Int) == 0) = true := beq_iff_eq.mpr c5
   have c5b1 : ((l1_0.length : Int) != 0) = false := bne_eq_false_iff_eq.mpr c5
   clear c5
   simp only [Option.some.injEq, Prod.mk.injEq] at H
   obtain ⟨rfl, rfl, rfl⟩ := H
   go_enter Try.func23, Try.ntmps23
   go_wp2_with (first | ((with_reducible refine gate_dst (N := 2) rfl ?_); (try (refine gate_guard (by rfl) ?_; dsimp only)); refine hkBox (N := 2) (cs := #[.slice A0_0 l0_0.length c0_0]) (t := 38) ?_; intro gb220 hg w6 hbox hb; have n_ := hkA (hkU HB hb) (hkA (Aside0.mk (hbox)) (hkA (hkG hg (hkS HB)) (hkG hg (hkS HB)))); clear HB; obtain ⟨HB, BK220, GW220, GE220⟩ := n_; clear hb hbox hg) | ((with_reducible refine gate_dst (N := 3) rfl ?_); (try (refine gate_guard (by rfl) ?_; dsimp only)); refine hkBox (N := 3) (cs := #[.slice A1_0 l1_0.length c1_0]) (t := 38) ?_; intro gb221 hg w7 hbox hb; have n_ := hkA (hkBb BK220 hb) (hkA (hkU HB hb) (hkA (Aside0.mk (hbox)) (hkA (hkG hg (hkS HB)) (hkA (hkG hg (hkS HB)) (hkA (hkN hg BK220) (hkM hg BK220)))))); clear BK220 HB; obtain ⟨BK220, HB, BK221, GW221, GE221, NB220_221, NB221_220⟩ := n_; clear hb hbox hg) | ((with_reducible refine gate_dst (N := 4) rfl ?_); (try (refine gate_guard (by rfl) ?_; dsimp only)); refine hkBox (N := 4) (cs := #[.slice none 0 0]) (t := 38) ?_; intro gb222 hg w8 hbox hb; have n_ := hkA (hkBb BK220 hb) (hkA (hkBb BK221 hb) (hkA (hkU HB hb) (hkA (Aside0.mk (hbox)) (hkA (hkG hg (hkS HB)) (hkA (hkG hg (hkS HB)) (hkA (hkN hg BK220) (hkA (hkM hg BK220) (hkA (hkN hg BK221) (hkM hg BK221))))))))); clear BK220 BK221 HB; obtain ⟨BK220, BK221, HB, BK222, GW222, GE222, NB220_222, NB222_220, NB221_222, NB222_221⟩ := n_; clear hb hbox hg) | ((with_reducible refine gate_dst (N := 5) rfl ?_); (try (refine gate_guard (by rfl) ?_; dsimp only)); refine hkBox (N := 5) (cs := #[.slice none 0 0]) (t := 38) ?_; intro gb223 hg w9 hbox hb; have n_ := hkA (hkBb BK220 hb) (hkA (hkBb BK221 hb) (hkA (hkBb BK222 hb) (hkA (hkU HB hb) (hkA (Aside0.mk (hbox)) (hkA (hkG hg (hkS HB)) (hkA (hkG hg (hkS HB)) (hkA (hkN hg BK220) (hkA (hkM hg BK220) (hkA (hkN hg BK221) (hkA (hkM hg BK221) (hkA (hkN hg BK222) (hkM hg BK222)))))))))))); clear BK220 BK221 BK222 HB; obtain ⟨BK220, BK221, BK222, HB, BK223, GW223, GE223, NB220_223, NB223_220, NB221_223, NB223_221, NB222_223, NB223_222⟩ := n_; clear hb hbox hg; have hnb10 := NB220_221.out; have hnc10 := NB221_220.out; have hnb11 := NB220_222.out; have hnc11 := NB222_220.out; have hnb12 := NB220_223.out; have hnc12 := NB223_220.out; obtain ⟨hcz13_0, hfz13_0⟩ := hkc1 BK220; have hnb14 := NB221_222.out; have hnc14 := NB222_221.out; have hnb15 := NB221_223.out; have hnc15 := NB223_221.out; obtain ⟨hcz16_0, hfz16_0⟩ := hkc1 BK221) | ((with_reducible refine gate_callee (f := 59) rfl ?_); refine hkGo (N := some 11) Try.func59 #[.agg #[.slice A0_0 l0_0.length c0_0], .agg #[.slice A1_0 l1_0.length c1_0]] ?_; (with_reducible refine (impl_areNats.calls _ _ l0_0 _ _ l1_0 true _ ?side1 ?side2 ?side3 ?side4 A3.out).mono ?_); (case side1 => exact hkC ((Kd.C_below HR0_0.out HB.out))); (case side2 => exact HC0_0.out); (case side3 => exact hkC ((Kd.C_below HR1_0.out HB.out))); (case side4 => exact HC1_0.out); rintro e w17 ⟨rfl, hb⟩; refine ⟨_, rfl, ?_⟩; have n_ := hkA (hkBb BK220 hb) (hkA (hkBb BK221 hb) (hkA (hkBb BK222 hb) (hkA (hkBb BK223 hb) (hkU HB hb)))); clear BK220 BK221 BK222 BK223 HB; obtain ⟨BK220, BK221, BK222, BK223, HB⟩ := n_; (try clear hb); obtain ⟨hcz18_0, hfz18_0⟩ := hkc1 BK221; have hnb19 := NB222_223.out; have hnc19 := NB223_222.out; obtain ⟨hcz20_0, hfz20_0⟩ := hkc1 BK222; obtain ⟨hcz21_0, hfz21_0⟩ := hkc1 BK223))
   refine bodyPost_ret (results_list (rs := [.cell 4 38, .cell 5 38, .tmp 6]) rfl (by simp) (.cell gb222 38 #[.slice none 0 0] (0, 0) _ rfl hkPp Try.underlying38 rfl (by kernel_rfl) (.cell gb223 38 #[.slice none 0 0] (0, 0) _ rfl hkPp Try.underlying38 rfl (by kernel_rfl) (.tmp .nil)))) rfl ?_
   exact ⟨_, _, hkE, by first | exact Kd.R_nil _ _ _ _ _ | exact Kd.N_nil _ _ _ _ _ | exact Kd.V_nil _ _ _ _ _ | exact Kd.Q_nil _ _ _ _ _ | exact Kd.S_nil _ _ _ _ _, by first | exact Kd.R_nil _ _ _ _ _ | exact Kd.N_nil _ _ _ _ _ | exact Kd.V_nil _ _ _ _ _ | exact Kd.Q_nil _ _ _ _ _ | exact Kd.S_nil _ _ _ _ _, hkS HB⟩
  ·rw [if_neg c5] at H
   have c5b0 : ((l1_0.length : Int) == 0) = false := beq_eq_false_iff_ne.mpr c5
   have c5b1 : ((l1_0.length : Int) != 0) = true := bne_iff_ne.mpr c5
   have c5b2 : ¬ (l1_0 = []) := fun h_ => c5 (by rw [h_]; rfl)
   replace H := hBi H
   obtain ⟨⟨t225, t226⟩, A220, H⟩ := H
   replace H : (some (t225, t226, true)) = some (r1, r2, r3) := H
   have A22 := Aside0.mk A220
   clear A220
   simp only [Option.some.injEq, Prod.mk.injEq] at H
   obtain ⟨rfl, rfl, rfl⟩ := H
   go_enter Try.func23, Try.ntmps23
   go_wp2_with (first | ((with_reducible refine gate_dst (N := 2) rfl ?_); (try (refine gate_guard (by rfl) ?_; dsimp only)); refine hkBox (N := 2) (cs := #[.slice A0_0 l0_0.length c0_0]) (t := 38) ?_; intro gb220 hg w23 hbox hb; have n_ := hkA (hkU HB hb) (hkA (Aside0.mk (hbox)) (hkA (hkG hg (hkS HB)) (hkG hg (hkS HB)))); clear HB; obtain ⟨HB, BK220, GW220, GE220⟩ := n_; clear hb hbox hg) | ((with_reducible refine gate_dst (N := 3) rfl ?_); (try (refine gate_guard (by rfl) ?_; dsimp only)); refine hkBox (N := 3) (cs := #[.slice A1_0 l1_0.length c1_0]) (t := 38) ?_; intro gb221 hg w24 hbox hb; have n_ := hkA (hkBb BK220 hb) (hkA (hkU HB hb) (hkA (Aside0.mk (hbox)) (hkA (hkG hg (hkS HB)) (hkA (hkG hg (hkS HB)) (hkA (hkN hg BK220) (hkM hg BK220)))))); clear BK220 HB; obtain ⟨BK220, HB, BK221, GW221, GE221, NB220_221, NB221_220⟩ := n_; clear hb hbox hg) | ((with_reducible refine gate_dst (N := 4) rfl ?_); (try (refine gate_guard (by rfl) ?_; dsimp only)); refine hkBox (N := 4) (cs := #[.slice none 0 0]) (t := 38) ?_; intro gb222 hg w25 hbox hb; have n_ := hkA (hkBb BK220 hb) (hkA (hkBb BK221 hb) (hkA (hkU HB hb) (hkA (Aside0.mk (hbox)) (hkA (hkG hg (hkS HB)) (hkA (hkG hg (hkS HB)) (hkA (hkN hg BK220) (hkA (hkM hg BK220) (hkA (hkN hg BK221) (hkM hg BK221))))))))); clear BK220 BK221 HB; obtain ⟨BK220, BK221, HB, BK222, GW222, GE222, NB220_222, NB222_220, NB221_222, NB222_221⟩ := n_; clear hb hbox hg) | ((with_reducible refine gate_dst (N := 5) rfl ?_); (try (refine gate_guard (by rfl) ?_; dsimp only)); refine hkBox (N := 5) (cs := #[.slice none 0 0]) (t := 38) ?_; intro gb223 hg w26 hbox hb; have n_ := hkA (hkBb BK220 hb) (hkA (hkBb BK221 hb) (hkA (hkBb BK222 hb) (hkA (hkU HB hb) (hkA (Aside0.mk (hbox)) (hkA (hkG hg (hkS HB)) (hkA (hkG hg (hkS HB)) (hkA (hkN hg BK220) (hkA (hkM hg BK220) (hkA (hkN hg BK221) (hkA (hkM hg BK221) (hkA (hkN hg BK222) (hkM hg BK222)))))))))))); clear BK220 BK221 BK222 HB; obtain ⟨BK220, BK221, BK222, HB, BK223, GW223, GE223, NB220_223, NB223_220, NB221_223, NB223_221, NB222_223, NB223_222⟩ := n_; clear hb hbox hg; have hnb27 := NB220_221.out; have hnc27 := NB221_220.out; have hnb28 := NB220_222.out; have hnc28 := NB222_220.out; have hnb29 := NB220_223.out; have hnc29 := NB223_220.out; obtain ⟨hcz30_0, hfz30_0⟩ := hkc1 BK220; have hnb31 := NB221_222.out; have hnc31 := NB222_221.out; have hnb32 := NB221_223.out; have hnc32 := NB223_221.out; obtain ⟨hcz33_0, hfz33_0⟩ := hkc1 BK221) | ((with_reducible refine gate_callee (f := 59) rfl ?_); refine hkGo (N := some 11) Try.func59 #[.agg #[.slice A0_0 l0_0.length c0_0], .agg #[.slice A1_0 l1_0.length c1_0]] ?_; (with_reducible refine (impl_areNats.calls _ _ l0_0 _ _ l1_0 true _ ?side1 ?side2 ?side3 ?side4 A3.out).mono ?_); (case side1 => exact hkC ((Kd.C_below HR0_0.out HB.out))); (case side2 => exact HC0_0.out); (case side3 => exact hkC ((Kd.C_below HR1_0.out HB.out))); (case side4 => exact HC1_0.out); rintro e w34 ⟨rfl, hb⟩; refine ⟨_, rfl, ?_⟩; have n_ := hkA (hkBb BK220 hb) (hkA (hkBb BK221 hb) (hkA (hkBb BK222 hb) (hkA (hkBb BK223 hb) (hkU HB hb)))); clear BK220 BK221 BK222 BK223 HB; obtain ⟨BK220, BK221, BK222, BK223, HB⟩ := n_; (try clear hb); obtain ⟨hcz35_0, hfz35_0⟩ := hkc1 BK221; obtain ⟨hcz36_0, hfz36_0⟩ := hkc1 BK220) | ((with_reducible refine gate_callee (f := 61) rfl ?_); refine hkGo (N := some 26) Try.func61 #[.slice A0_0 l0_0.length c0_0, .slice A1_0 l1_0.length c1_0] ?_; (with_reducible refine (impl_divide.calls k _ _ l0_0 _ _ l1_0 t225 t226 _ ?side1 ?side2 ?side3 ?side4 A22.out).mono ?_); (case side1 => exact hkC ((Kd.C_below HR0_0.out HB.out))); (case side2 => exact HC0_0.out); (case side3 => exact hkC ((Kd.C_below HR1_0.out HB.out))); (case side4 => exact HC1_0.out); rintro e w37 ⟨v227, v229, rfl, ho0, ho1, hb⟩; refine ⟨_, rfl, ?_⟩; have n_ := hkA (Aside0.mk (Kd.R_lower ho0 (below_size (hkS HB)))) (hkA (Aside0.mk (Kd.R_lower ho1 (below_size (hkS HB)))) (hkA (hkBb BK220 hb) (hkA (hkBb BK221 hb) (hkA (hkBb BK222 hb) (hkA (hkBb BK223 hb) (hkU HB hb)))))); clear BK220 BK221 BK222 BK223 HB; obtain ⟨HO228, HO230, BK220, BK221, BK222, BK223, HB⟩ := n_; (try clear hb); (try clear ho0); (try clear ho1); obtain ⟨Ao38, co38, eo38⟩ := Kd.R_slice HO228.out; subst eo38; obtain ⟨Ao39, co39, eo39⟩ := Kd.R_slice HO230.out; subst eo39; have hnb40 := NB222_223.out; have hnc40 := NB223_222.out; obtain ⟨hcz41_0, hfz41_0⟩ := hkc1 BK222; obtain ⟨hcz42_0, hfz42_0⟩ := hkc1 BK223))
   refine bodyPost_ret (results_list (rs := [.cell 4 38, .cell 5 38, .tmp 6]) rfl (by simp) (.cell gb222 38 #[.slice Ao38 t225.length co38] (0, 0) _ rfl hkPp Try.underlying38 rfl (by kernel_rfl) (.cell gb223 38 #[.slice Ao39 t226.length co39] (0, 0) _ rfl hkPp Try.underlying38 rfl (by kernel_rfl) (.tmp .nil)))) rfl ?_
   exact ⟨_, _, hkE, by (with_reducible repeat (first | apply Kd.R_alloc | apply Kd.R_drewN | apply Kd.R_drew)); exact Kd.R_mono (Kd.R_far (p := ⟨gb223, 0, none⟩) (Kd.R_far (p := ⟨gb222, 0, none⟩) (Kd.R_types (Kd.R_types HO228.out BK222.out (by decide)) BK223.out (by decide)) (fun _ hk => hk.1.2) (.slice Ao38 t225.length co38)) (fun _ hk => hk.2) (.slice Ao39 t226.length co39)) (fun _ hk => hk.1.1), by (with_reducible repeat (first | apply Kd.R_alloc | apply Kd.R_drewN | apply Kd.R_drew)); exact Kd.R_mono (Kd.R_far (p := ⟨gb223, 0, none⟩) (Kd.R_far (p := ⟨gb222, 0, none⟩) (Kd.R_types (Kd.R_types HO230.out BK222.out (by decide)) BK223.out (by decide)) (fun _ hk => hk.1.2) (.slice Ao38 t225.length co38)) (fun _ hk => hk.2) (.slice Ao39 t226.length co39)) (fun _ hk => hk.1.1), hkS HB⟩
 ·replace c4 := Bool.eq_false_iff.mpr c4
  subst c4
  have H1 : (some (([] : List Int), ([] : List Int), false)) = some (r1, r2, r3) := by rw [if_neg (show ¬ (false = true) by decide)] at H; exact H
  clear H
  have H := H1
  clear H1
  simp only [Option.some.injEq, Prod.mk.injEq] at H
  obtain ⟨rfl, rfl, rfl⟩ := H
  go_enter Try.func23, Try.ntmps23
  go_wp2_with (first | ((with_reducible refine gate_dst (N := 2) rfl ?_); (try (refine gate_guard (by rfl) ?_; dsimp only)); refine hkBox (N := 2) (cs := #[.slice A0_0 l0_0.length c0_0]) (t := 38) ?_; intro gb220 hg w43 hbox hb; have n_ := hkA (hkU HB hb) (hkA (Aside0.mk (hbox)) (hkA (hkG hg (hkS HB)) (hkG hg (hkS HB)))); clear HB; obtain ⟨HB, BK220, GW220, GE220⟩ := n_; clear hb hbox hg) | ((with_reducible refine gate_dst (N := 3) rfl ?_); (try (refine gate_guard (by rfl) ?_; dsimp only)); refine hkBox (N := 3) (cs := #[.slice A1_0 l1_0.length c1_0]) (t := 38) ?_; intro gb221 hg w44 hbox hb; have n_ := hkA (hkBb BK220 hb) (hkA (hkU HB hb) (hkA (Aside0.mk (hbox)) (hkA (hkG hg (hkS HB)) (hkA (hkG hg (hkS HB)) (hkA (hkN hg BK220) (hkM hg BK220)))))); clear BK220 HB; obtain ⟨BK220, HB, BK221, GW221, GE221, NB220_221, NB221_220⟩ := n_; clear hb hbox hg) | ((with_reducible refine gate_dst (N := 4) rfl ?_); (try (refine gate_guard (by rfl) ?_; dsimp only)); refine hkBox (N := 4) (cs := #[.slice none 0 0]) (t := 38) ?_; intro gb222 hg w45 hbox hb; have n_ := hkA (hkBb BK220 hb) (hkA (hkBb BK221 hb) (hkA (hkU HB hb) (hkA (Aside0.mk (hbox)) (hkA (hkG hg (hkS HB)) (hkA (hkG hg (hkS HB)) (hkA (hkN hg BK220) (hkA (hkM hg BK220) (hkA (hkN hg BK221) (hkM hg BK221))))))))); clear BK220 BK221 HB; obtain ⟨BK220, BK221, HB, BK222, GW222, GE222, NB220_222, NB222_220, NB221_222, NB222_221⟩ := n_; clear hb hbox hg) | ((with_reducible refine gate_dst (N := 5) rfl ?_); (try (refine gate_guard (by rfl) ?_; dsimp only)); refine hkBox (N := 5) (cs := #[.slice none 0 0]) (t := 38) ?_; intro gb223 hg w46 hbox hb; have n_ := hkA (hkBb BK220 hb) (hkA (hkBb BK221 hb) (hkA (hkBb BK222 hb) (hkA (hkU HB hb) (hkA (Aside0.mk (hbox)) (hkA (hkG hg (hkS HB)) (hkA (hkG hg (hkS HB)) (hkA (hkN hg BK220) (hkA (hkM hg BK220) (hkA (hkN hg BK221) (hkA (hkM hg BK221) (hkA (hkN hg BK222) (hkM hg BK222)))))))))))); clear BK220 BK221 BK222 HB; obtain ⟨BK220, BK221, BK222, HB, BK223, GW223, GE223, NB220_223, NB223_220, NB221_223, NB223_221, NB222_223, NB223_222⟩ := n_; clear hb hbox hg; have hnb47 := NB220_221.out; have hnc47 := NB221_220.out; have hnb48 := NB220_222.out; have hnc48 := NB222_220.out; have hnb49 := NB220_223.out; have hnc49 := NB223_220.out; obtain ⟨hcz50_0, hfz50_0⟩ := hkc1 BK220; have hnb51 := NB221_222.out; have hnc51 := NB222_221.out; have hnb52 := NB221_223.out; have hnc52 := NB223_221.out; obtain ⟨hcz53_0, hfz53_0⟩ := hkc1 BK221) | ((with_reducible refine gate_callee (f := 59) rfl ?_); refine hkGo (N := some 11) Try.func59 #[.agg #[.slice A0_0 l0_0.length c0_0], .agg #[.slice A1_0 l1_0.length c1_0]] ?_; (with_reducible refine (impl_areNats.calls _ _ l0_0 _ _ l1_0 false _ ?side1 ?side2 ?side3 ?side4 A3.out).mono ?_); (case side1 => exact hkC ((Kd.C_below HR0_0.out HB.out))); (case side2 => exact HC0_0.out); (case side3 => exact hkC ((Kd.C_below HR1_0.out HB.out))); (case side4 => exact HC1_0.out); rintro e w54 ⟨rfl, hb⟩; refine ⟨_, rfl, ?_⟩; have n_ := hkA (hkBb BK220 hb) (hkA (hkBb BK221 hb) (hkA (hkBb BK222 hb) (hkA (hkBb BK223 hb) (hkU HB hb)))); clear BK220 BK221 BK222 BK223 HB; obtain ⟨BK220, BK221, BK222, BK223, HB⟩ := n_; (try clear hb); have hnb55 := NB222_223.out; have hnc55 := NB223_222.out; obtain ⟨hcz56_0, hfz56_0⟩ := hkc1 BK222; obtain ⟨hcz57_0, hfz57_0⟩ := hkc1 BK223))
  refine bodyPost_ret (results_list (rs := [.cell 4 38, .cell 5 38, .tmp 6]) rfl (by simp) (.cell gb222 38 #[.slice none 0 0] (0, 0) _ rfl hkPp Try.underlying38 rfl (by kernel_rfl) (.cell gb223 38 #[.slice none 0 0] (0, 0) _ rfl hkPp Try.underlying38 rfl (by kernel_rfl) (.tmp .nil)))) rfl ?_
  exact ⟨_, _, hkE, by first | exact Kd.R_nil _ _ _ _ _ | exact Kd.N_nil _ _ _ _ _ | exact Kd.V_nil _ _ _ _ _ | exact Kd.Q_nil _ _ _ _ _ | exact Kd.S_nil _ _ _ _ _, by first | exact Kd.R_nil _ _ _ _ _ | exact Kd.N_nil _ _ _ _ _ | exact Kd.V_nil _ _ _ _ _ | exact Kd.Q_nil _ _ _ _ _ | exact Kd.S_nil _ _ _ _ _, hkS HB⟩

/-! ### laws_szIntS: function 63 -/
def laws_szIntS.f (l0 : List Int) (a1 : Int) : Option (Int) := if (wrap64 (a1 - (l0.length : Int))) < 0 then (some (-1)) else (some (wrap64 (a1 - (l0.length : Int))))
set_option maxHeartbeats 8000000 in
set_option maxRecDepth 100000 in
theorem laws_szIntS.calls (A0 : Option Addr) (c0 : Nat) (l0 : List Int) (a1 : Int) (r : Int) (w : World) (hr0 : Kd.C (Kd.int .i64) w A0 l0.length l0) (hc0 : l0.length ≤ c0) (h : laws_szIntS.f l0 a1 = some r) :
  Calls Try.prog 63 #[.slice A0 l0.length c0, .int .i64 a1] w fun e w' => e = .returned (.int .i64 r) ∧ Drawn0 w w' := by
 have HR0 := Aside0.mk hr0
 have HC0 := Aside0.mk hc0
 clear hr0 hc0
 have H : (if (wrap64 (a1 - (l0.length : Int))) < 0 then (some (-1)) else (some (wrap64 (a1 - (l0.length : Int))))) = some r := h
 clear h
 by_cases c3 : (wrap64 (a1 - (l0.length : Int))) < 0
 ·rw [if_pos c3] at H
  have c3b0 : decide ((wrap64 (a1 - (l0.length : Int))) < 0) = true := decide_eq_true c3
  clear c3
  obtain rfl := Option.some.inj H
  go_enter Try.func63, Try.ntmps63
  go_wp2
  go_ret
  exact ⟨by first | rfl | (simp; done) | (simp [*]; done), by repeat (first | exact Drawn0.refl _ | apply Drawn0.step)⟩
 ·rw [if_neg c3] at H
  have c3b0 : decide ((wrap64 (a1 - (l0.length : Int))) < 0) = false := decide_eq_false c3
  clear c3
  obtain rfl := Option.some.inj H
  go_enter Try.func63, Try.ntmps63
  go_wp2
  go_ret
  exact ⟨by first | rfl | (simp; done) | (simp [*]; done), by repeat (first | exact Drawn0.refl _ | apply Drawn0.step)⟩

/-! ### laws_szNat: function 24 -/
def laws_szNat.f (l0_0 : List Int) (a1 : Int) : Option (Int) := (laws_szIntS.f l0_0 a1).bind fun t232 => (if t232 < 0 then (some (-1)) else (some t232))
set_option maxHeartbeats 8000000 in
set_option maxRecDepth 100000 in
theorem laws_szNat.calls (A0_0 : Option Addr) (c0_0 : Nat) (l0_0 : List Int) (a1 : Int) (r : Int) (w : World) (hr0_0 : Kd.C (Kd.int .i64) w A0_0 l0_0.length l0_0) (hc0_0 : l0_0.length ≤ c0_0) (h : laws_szNat.f l0_0 a1 = some r) :
  Calls Try.prog 24 #[.agg #[.slice A0_0 l0_0.length c0_0], .int .i64 a1] w fun e w' => e = .returned (.int .i64 r) ∧ Below w.heap.size w w' := by
 have hu31 := Try.underlying31
 have HR0_0 := Aside0.mk hr0_0
 have HC0_0 := Aside0.mk hc0_0
 clear hr0_0 hc0_0
 have HB := Aside0.mk (Below.refl w.heap.size w)
 have H : ((laws_szIntS.f l0_0 a1).bind fun t232 => (if t232 < 0 then (some (-1)) else (some t232))) = some r := h
 clear h
 replace H := hBi H
 obtain ⟨t232, A30, H⟩ := H
 replace H : (if t232 < 0 then (some (-1)) else (some t232)) = some r := H
 have A3 := Aside0.mk A30
 clear A30
 by_cases c4 : t232 < 0
 ·rw [if_pos c4] at H
  have c4b0 : decide (t232 < 0) = true := decide_eq_true c4
  clear c4
  obtain rfl := Option.some.inj H
  go_enter Try.func24, Try.ntmps24
  go_wp2_with (first | ((with_reducible refine gate_dst (N := 2) rfl ?_); refine hkBox (N := 2) (cs := #[.slice A0_0 l0_0.length c0_0]) (t := 31) ?_; intro gb231 hg w5 hbox hb; have n_ := hkA (hkU HB hb) (hkA (Aside0.mk (hbox)) (hkA (hkG hg (hkS HB)) (hkG hg (hkS HB)))); clear HB; obtain ⟨HB, BK231, GW231, GE231⟩ := n_; clear hb hbox hg; obtain ⟨hcz6_0, hfz6_0⟩ := hkc1 BK231) | ((with_reducible refine gate_callee (f := 63) rfl ?_); refine hkGo (N := some 8) Try.func63 #[.slice A0_0 l0_0.length c0_0, .int .i64 a1] ?_; (with_reducible refine (laws_szIntS.calls _ _ l0_0 a1 t232 _ ?side1 ?side2 A3.out).mono ?_); (case side1 => exact hkC ((Kd.C_below HR0_0.out HB.out))); (case side2 => exact HC0_0.out); rintro e w' ⟨rfl, ⟨nd, rfl⟩⟩; refine ⟨_, rfl, ?_⟩))
  go_ret
  exact ⟨hkE, hkS HB⟩
 ·rw [if_neg c4] at H
  have c4b0 : decide (t232 < 0) = false := decide_eq_false c4
  clear c4
  obtain rfl := Option.some.inj H
  go_enter Try.func24, Try.ntmps24
  go_wp2_with (first | ((with_reducible refine gate_dst (N := 2) rfl ?_); refine hkBox (N := 2) (cs := #[.slice A0_0 l0_0.length c0_0]) (t := 31) ?_; intro gb231 hg w7 hbox hb; have n_ := hkA (hkU HB hb) (hkA (Aside0.mk (hbox)) (hkA (hkG hg (hkS HB)) (hkG hg (hkS HB)))); clear HB; obtain ⟨HB, BK231, GW231, GE231⟩ := n_; clear hb hbox hg; obtain ⟨hcz8_0, hfz8_0⟩ := hkc1 BK231) | ((with_reducible refine gate_callee (f := 63) rfl ?_); refine hkGo (N := some 8) Try.func63 #[.slice A0_0 l0_0.length c0_0, .int .i64 a1] ?_; (with_reducible refine (laws_szIntS.calls _ _ l0_0 a1 t232 _ ?side1 ?side2 A3.out).mono ?_); (case side1 => exact hkC ((Kd.C_below HR0_0.out HB.out))); (case side2 => exact HC0_0.out); rintro e w' ⟨rfl, ⟨nd, rfl⟩⟩; refine ⟨_, rfl, ?_⟩))
  go_ret
  exact ⟨hkE, hkS HB⟩

/-! ### spec_NatOk: function 20 -/
def spec_NatOk.l0 : Nat → Int → List Int → Option (Bool)
 | 0, _, _ => none
 | k + 1, x3, x234000 => if x3 < (x234000.length : Int) then (if 0 ≤ x3 then (if (rd x234000 x3) < 0 then (some false) else (if (rd x234000 x3) ≥ 65536 then (some false) else (spec_NatOk.l0 k (wrap64 (x3 + 1)) x234000))) else (none)) else (if (x234000.length : Int) = 0 then (some true) else (if 0 ≤ (wrap64 ((x234000.length : Int) - 1)) then (if (wrap64 ((x234000.length : Int) - 1)) < (x234000.length : Int) then (some (decide ((rd x234000 (wrap64 ((x234000.length : Int) - 1))) > 0))) else (none)) else (none)))
def spec_NatOk.f (k : Nat) (l0_0 : List Int) : Option (Bool) := if (l0_0.length : Int) > 100 then (some false) else (spec_NatOk.l0 k 0 l0_0)
theorem spec_NatOk.mono_l : ∀ k, (∀ y0 y1, LeO (spec_NatOk.l0 k y0 y1) (spec_NatOk.l0 (k + 1) y0 y1))
 | 0 => fun _ _ r h => by simp [spec_NatOk.l0] at h
 | k + 1 => by
  have ih0 := spec_NatOk.mono_l k
  ·intro y0 y1
   unfold spec_NatOk.l0
   repeat' first
   | (with_reducible exact ih0 _ _)
   | (with_reducible exact LeO.refl _)
   | (with_reducible exact LeO.none _)
   | (with_reducible refine LeO.ite ?_ ?_)
   | (with_reducible refine LeO.bind ?_ (fun _ => ?_))
   | exact ih0 _ _
   | exact LeO.none _
   | refine LeO.ite ?_ ?_
   | refine LeO.bind ?_ (fun _ => ?_)
theorem spec_NatOk.mono : ∀ a0 k, LeO (spec_NatOk.f k a0) (spec_NatOk.f (k + 1) a0) := by
 intro a0 k
 have ih0 := spec_NatOk.mono_l k
 unfold spec_NatOk.f
 repeat' first
   | (with_reducible exact ih0 _ _)
   | (with_reducible exact LeO.refl _)
   | (with_reducible exact LeO.none _)
   | (with_reducible refine LeO.ite ?_ ?_)
   | (with_reducible refine LeO.bind ?_ (fun _ => ?_))
   | exact ih0 _ _
   | exact LeO.none _
   | refine LeO.ite ?_ ?_
   | refine LeO.bind ?_ (fun _ => ?_)
set_option maxHeartbeats 8000000 in
set_option maxRecDepth 100000 in
theorem spec_NatOk.calls (k : Nat) (A0_0 : Option Addr) (c0_0 : Nat) (l0_0 : List Int) (r : Bool) (w : World) (hr0_0 : Kd.C (Kd.int .i64) w A0_0 l0_0.length l0_0) (hc0_0 : l0_0.length ≤ c0_0) (h : spec_NatOk.f k l0_0 = some r) :
  Calls Try.prog 20 #[.agg #[.slice A0_0 l0_0.length c0_0]] w fun e w' => e = .returned (.bool r) ∧ Below w.heap.size w w' := by
 have hu38 := Try.underlying38
 have HR0_0 := Aside0.mk hr0_0
 have HC0_0 := Aside0.mk hc0_0
 clear hr0_0 hc0_0
 have HB := Aside0.mk (Below.refl w.heap.size w)
 have H : (if (l0_0.length : Int) > 100 then (some false) else (spec_NatOk.l0 k 0 l0_0)) = some r := h
 clear h
 by_cases c2 : (l0_0.length : Int) > 100
 ·rw [if_pos c2] at H
  have c2b0 : decide (100 < (l0_0.length : Int)) = true := decide_eq_true c2
  have c2b1 : decide (100 < l0_0.length) = true := decide_eq_true (by omega)
  clear c2
  obtain rfl := Option.some.inj H
  go_enter Try.func20, Try.ntmps20
  go_wp2_with (first | ((with_reducible refine gate_dst (N := 1) rfl ?_); (try (refine gate_guard (by rfl) ?_; dsimp only)); refine hkBox (N := 1) (cs := #[.slice A0_0 l0_0.length c0_0]) (t := 38) ?_; intro gb233 hg w3 hbox hb; have n_ := hkA (hkU HB hb) (hkA (Aside0.mk (hbox)) (hkA (hkG hg (hkS HB)) (hkG hg (hkS HB)))); clear HB; obtain ⟨HB, BK233, GW233, GE233⟩ := n_; clear hb hbox hg; obtain ⟨hcz4_0, hfz4_0⟩ := hkc1 BK233))
  go_ret
  exact ⟨hkE, hkS HB⟩
 ·rw [if_neg c2] at H
  have c2b0 : decide (100 < (l0_0.length : Int)) = false := decide_eq_false c2
  have c2b1 : decide (100 < l0_0.length) = false := decide_eq_false (by omega)
  clear c2
  have H' := Aside0.mk H
  clear H
  go_enter Try.func20, Try.ntmps20
  go_wp2_with (first | ((with_reducible refine gate_dst (N := 1) rfl ?_); (try (refine gate_guard (by rfl) ?_; dsimp only)); refine hkBox (N := 1) (cs := #[.slice A0_0 l0_0.length c0_0]) (t := 38) ?_; intro gb233 hg w5 hbox hb; have n_ := hkA (hkU HB hb) (hkA (Aside0.mk (hbox)) (hkA (hkG hg (hkS HB)) (hkG hg (hkS HB)))); clear HB; obtain ⟨HB, BK233, GW233, GE233⟩ := n_; clear hb hbox hg; obtain ⟨hcz6_0, hfz6_0⟩ := hkc1 BK233))
  go_loopg [3] k (fun kq v3 w' => ∃ (x3_1 : Int), v3 = .int .i64 x3_1 ∧ Aside0 (spec_NatOk.l0 kq x3_1 l0_0 = some r) ∧ Aside0 (kq ≤ k) ∧ Aside0 (w'.heap[gb233]? = some (.cells #[(.slice A0_0 l0_0.length c0_0)] 38 (0, 0))) ∧ Aside0 (Below w.heap.size w w'))
  case atStart => exact ⟨(0), (by first | rfl | (simp; done) | (simp [*]; done)), H', ⟨Nat.le_refl _⟩, ⟨by refine hkz ?_; exact BK233.out⟩, ⟨hkS HB⟩⟩
  case round =>
   clear H'
   try clear c2
   try clear c2b0
   try clear c2b1
   try clear p2
   try clear hcz4_0 hcz6_0 hfz4_0 hfz6_0
   obtain ⟨x3_1, rfl, HA, HK1, BK233, HB⟩ := hrel
   cases gk with
   | zero => exact absurd HA.out (by simp [spec_NatOk.l0])
   | succ k1 =>
    have H := HA.out
    clear HA
    simp only [spec_NatOk.l0] at H
    by_cases c7 : x3_1 < (l0_0.length : Int)
    ·rw [if_pos c7] at H
     have c7b0 : decide (x3_1 < (l0_0.length : Int)) = true := decide_eq_true c7
     clear c7
     by_cases c8 : 0 ≤ x3_1
     ·rw [if_pos c8] at H
      have c8b0 : decide (0 ≤ x3_1) = true := decide_eq_true c8
      clear c8
      by_cases c9 : (rd l0_0 x3_1) < 0
      ·rw [if_pos c9] at H
       have c9b0 : decide ((rd l0_0 x3_1) < 0) = true := decide_eq_true c9
       clear c9
       obtain rfl := Option.some.inj H
       obtain ⟨hcz10_0, hfz10_0⟩ := hkc1 BK233
       have p234 : 0 ≤ (x3_1 : Int) := of_decide_eq_true (by first | (with_reducible assumption) | assumption)
       have q234 : x3_1 < (l0_0.length : Int) := of_decide_eq_true (by first | (with_reducible assumption) | assumption)
       obtain ⟨ad234, e234, hx234_0⟩ := Kd.at_int HR0_0.out x3_1 p234 q234
       cases e234
       replace hx234_0 := (HB.out.cell (World.block_lt_of_cell? w _ hx234_0)).trans hx234_0
       replace p234 := eq_true p234
       replace q234 := eq_true q234
       go_wp2
       go_ret
       exact ⟨hkE, hkS HB⟩
      ·rw [if_neg c9] at H
       have c9b0 : decide ((rd l0_0 x3_1) < 0) = false := decide_eq_false c9
       clear c9
       by_cases c11 : (rd l0_0 x3_1) ≥ 65536
       ·rw [if_pos c11] at H
        have c11b0 : decide (65536 ≤ (rd l0_0 x3_1)) = true := decide_eq_true c11
        clear c11
        obtain rfl := Option.some.inj H
        obtain ⟨hcz12_0, hfz12_0⟩ := hkc1 BK233
        have p234 : 0 ≤ (x3_1 : Int) := of_decide_eq_true (by first | (with_reducible assumption) | assumption)
        have q234 : x3_1 < (l0_0.length : Int) := of_decide_eq_true (by first | (with_reducible assumption) | assumption)
        obtain ⟨ad234, e234, hx234_0⟩ := Kd.at_int HR0_0.out x3_1 p234 q234
        cases e234
        replace hx234_0 := (HB.out.cell (World.block_lt_of_cell? w _ hx234_0)).trans hx234_0
        replace p234 := eq_true p234
        replace q234 := eq_true q234
        have p235 : 0 ≤ (x3_1 : Int) := of_decide_eq_true (by first | (with_reducible assumption) | assumption)
        have q235 : x3_1 < (l0_0.length : Int) := of_decide_eq_true (by first | (with_reducible assumption) | assumption)
        obtain ⟨ad235, e235, hx235_0⟩ := Kd.at_int HR0_0.out x3_1 p235 q235
        obtain rfl : ad234 = ad235 := (by injection e235)
        replace hx235_0 := (HB.out.cell (World.block_lt_of_cell? w _ hx235_0)).trans hx235_0
        replace p235 := eq_true p235
        replace q235 := eq_true q235
        go_wp2
        go_ret
        exact ⟨hkE, hkS HB⟩
       ·rw [if_neg c11] at H
        have c11b0 : decide (65536 ≤ (rd l0_0 x3_1)) = false := decide_eq_false c11
        clear c11
        have H' := Aside0.mk H
        clear H
        obtain ⟨hcz13_0, hfz13_0⟩ := hkc1 BK233
        have p234 : 0 ≤ (x3_1 : Int) := of_decide_eq_true (by first | (with_reducible assumption) | assumption)
        have q234 : x3_1 < (l0_0.length : Int) := of_decide_eq_true (by first | (with_reducible assumption) | assumption)
        obtain ⟨ad234, e234, hx234_0⟩ := Kd.at_int HR0_0.out x3_1 p234 q234
        cases e234
        replace hx234_0 := (HB.out.cell (World.block_lt_of_cell? w _ hx234_0)).trans hx234_0
        replace p234 := eq_true p234
        replace q234 := eq_true q234
        have p235 : 0 ≤ (x3_1 : Int) := of_decide_eq_true (by first | (with_reducible assumption) | assumption)
        have q235 : x3_1 < (l0_0.length : Int) := of_decide_eq_true (by first | (with_reducible assumption) | assumption)
        obtain ⟨ad235, e235, hx235_0⟩ := Kd.at_int HR0_0.out x3_1 p235 q235
        obtain rfl : ad234 = ad235 := (by injection e235)
        replace hx235_0 := (HB.out.cell (World.block_lt_of_cell? w _ hx235_0)).trans hx235_0
        replace p235 := eq_true p235
        replace q235 := eq_true q235
        go_wp2
        go_roundg k1
        case measure => have := HK1.out; omega
        case rel => exact ⟨(wrap64 (x3_1 + 1)), (by first | rfl | (simp; done) | (simp [*]; done)), H', ⟨by have := HK1.out; omega⟩, ⟨by refine hkz ?_; exact BK233.out⟩, ⟨hkS HB⟩⟩
     ·rw [if_neg c8] at H
      exact absurd H (by simp)
    ·rw [if_neg c7] at H
     have c7b0 : decide (x3_1 < (l0_0.length : Int)) = false := decide_eq_false c7
     clear c7
     by_cases c14 : (l0_0.length : Int) = 0
     ·rw [if_pos c14] at H
      have c14b0 : ((l0_0.length : Int) == 0) = true := beq_iff_eq.mpr c14
      have c14b1 : ((l0_0.length : Int) != 0) = false := bne_eq_false_iff_eq.mpr c14
      clear c14
      obtain rfl := Option.some.inj H
      obtain ⟨hcz15_0, hfz15_0⟩ := hkc1 BK233
      go_wp2
      go_ret
      exact ⟨hkE, hkS HB⟩
     ·rw [if_neg c14] at H
      have c14b0 : ((l0_0.length : Int) == 0) = false := beq_eq_false_iff_ne.mpr c14
      have c14b1 : ((l0_0.length : Int) != 0) = true := bne_iff_ne.mpr c14
      have c14b2 : ¬ (l0_0 = []) := fun h_ => c14 (by rw [h_]; rfl)
      obtain ⟨ji16, hji16⟩ : ∃ j_ : Int, (wrap64 ((l0_0.length : Int) - 1)) = j_ := ⟨_, rfl⟩
      replace H : (if 0 ≤ (ji16) then (if (ji16) < (l0_0.length : Int) then (some (decide ((rd l0_0 (ji16)) > 0))) else (none)) else (none)) = some r := by first | (rw [hji16] at H; exact H) | (simp only [hji16] at H ⊢; exact H)
      have hji16w : (IntKind.i64.wrap ((l0_0.length : Int) - 1)) = ji16 := (i64_w _).trans hji16
      by_cases c17 : 0 ≤ (ji16)
      ·rw [if_pos c17] at H
       have c17b0 : decide (0 ≤ (ji16)) = true := decide_eq_true c17
       clear c17
       by_cases c18 : (ji16) < (l0_0.length : Int)
       ·rw [if_pos c18] at H
        have c18b0 : decide ((ji16) < (l0_0.length : Int)) = true := decide_eq_true c18
        clear c18
        obtain rfl := Option.some.inj H
        obtain ⟨hcz19_0, hfz19_0⟩ := hkc1 BK233
        have p236 : 0 ≤ ((ji16) : Int) := of_decide_eq_true (by first | (with_reducible assumption) | assumption)
        have q236 : (ji16) < (l0_0.length : Int) := of_decide_eq_true (by first | (with_reducible assumption) | assumption)
        obtain ⟨ad236, e236, hx236_0⟩ := Kd.at_int HR0_0.out (ji16) p236 q236
        cases e236
        replace hx236_0 := (HB.out.cell (World.block_lt_of_cell? w _ hx236_0)).trans hx236_0
        replace p236 := eq_true p236
        replace q236 := eq_true q236
        go_wp2
        go_ret
        exact ⟨by first | rfl | (simp [errW_none, errW_some] <;> rfl) | (simp only [← hji16]; first | rfl | (simp [errW_none, errW_some] <;> rfl)) | (simp [*, errW_none, errW_some] <;> rfl), hkS HB⟩
       ·rw [if_neg c18] at H
        exact absurd H (by simp)
      ·rw [if_neg c17] at H
       exact absurd H (by simp)

end Go.Proofs.Ytgjpahofopoflaa.PFnExactNatDiv
