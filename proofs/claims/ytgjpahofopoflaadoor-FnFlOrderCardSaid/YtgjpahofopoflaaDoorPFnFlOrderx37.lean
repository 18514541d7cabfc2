-- Written by our own driver (wip/hand/hprint.py) over the seat's translation.
import Derived.Test.YtgjpahofopoflaaDoorPFnFlOrderx0
import Derived.Test.YtgjpahofopoflaaDoorPFnFlOrderx34
import Derived.Test.YtgjpahofopoflaaDoorPFnFlOrderx35
import Derived.Test.YtgjpahofopoflaaDoorPFnFlOrderx36
namespace Go.Proofs.YtgjpahofopoflaaDoor.PFnFlOrder
open Go.RowKit Go.Proofs.YtgjpahofopoflaaDoorW.PrintWords Go.Proofs.YtgjpahofopoflaaDoorW.PrintLast Go.Proofs.YtgjpahofopoflaaDoorW.PrintMore
attribute [local go_sem] max2_int min2_int max_two min_two max_three min_three max_four min_four   -- for this text's walks alone
set_option linter.unusedVariables false
set_option linter.unusedSimpArgs false

/-! ### spec_l4cmp: function 67 -/
def spec_l4cmp.f (k : Nat) (a0_0 : Bool) (l0_1 : List Int) (a0_2 : Int) (a1_0 : Bool) (l1_1 : List Int) (a1_2 : Int) : Option (Int) := (spec_l4align.f k a0_0 l0_1 a0_2 a1_0 l1_1 a1_2).bind fun bt713 => ((spec_l3cmp.f k bt713.1 bt713.2.1 bt713.2.2.1 bt713.2.2.2.1).bind fun t724 => (some t724))
theorem spec_l4cmp.mono : ∀ a0 a1 a2 a3 a4 a5 k, LeO (spec_l4cmp.f k a0 a1 a2 a3 a4 a5) (spec_l4cmp.f (k + 1) a0 a1 a2 a3 a4 a5) := by
 intro a0 a1 a2 a3 a4 a5 k
 unfold spec_l4cmp.f
 repeat' first
   | (with_reducible exact spec_l3cmp.mono _ _ _ _ _)
   | (with_reducible exact spec_l4align.mono _ _ _ _ _ _ _)
   | (with_reducible exact LeO.refl _)
   | (with_reducible exact LeO.none _)
   | (with_reducible refine LeO.ite ?_ ?_)
   | (with_reducible refine LeO.bind ?_ (fun _ => ?_))
   | exact spec_l3cmp.mono _ _ _ _ _
   | exact spec_l4align.mono _ _ _ _ _ _ _
   | exact LeO.none _
   | refine LeO.ite ?_ ?_
   | refine LeO.bind ?_ (fun _ => ?_)
set_option maxHeartbeats 8000000 in
set_option maxRecDepth 100000 in
theorem spec_l4cmp.calls (k : Nat) (a0_0 : Bool) (A0_1 : Option Addr) (c0_1 : Nat) (l0_1 : List Int) (a0_2 : Int) (a1_0 : Bool) (A1_1 : Option Addr) (c1_1 : Nat) (l1_1 : List Int) (a1_2 : Int) (r : Int) (w : World) (hr0_1 : Kd.C (Kd.int .i64) w A0_1 l0_1.length l0_1) (hc0_1 : l0_1.length ≤ c0_1) (hr1_1 : Kd.C (Kd.int .i64) w A1_1 l1_1.length l1_1) (hc1_1 : l1_1.length ≤ c1_1) (h : spec_l4cmp.f k a0_0 l0_1 a0_2 a1_0 l1_1 a1_2 = some r) :
  Calls Tryd.prog 67 #[.agg #[.bool a0_0, .slice A0_1 l0_1.length c0_1, .int .i64 a0_2], .agg #[.bool a1_0, .slice A1_1 l1_1.length c1_1, .int .i64 a1_2]] w fun e w' => e = .returned (.int .i64 r) ∧ Below w.heap.size w w' := by
 have hu30 := Tryd.underlying30
 have hu28 := Tryd.underlying28
 have HR0_1 := Aside0.mk hr0_1
 have HC0_1 := Aside0.mk hc0_1
 clear hr0_1 hc0_1
 have HR1_1 := Aside0.mk hr1_1
 have HC1_1 := Aside0.mk hc1_1
 clear hr1_1 hc1_1
 have HB := Aside0.mk (Below.refl w.heap.size w)
 have H : ((spec_l4align.f k a0_0 l0_1 a0_2 a1_0 l1_1 a1_2).bind fun bt713 => ((spec_l3cmp.f k bt713.1 bt713.2.1 bt713.2.2.1 bt713.2.2.2.1).bind fun t724 => (some t724))) = some r := h
 clear h
 replace H := hBi H
 obtain ⟨⟨t713, t714, t717, t718, t721⟩, A30, H⟩ := H
 replace H : ((spec_l3cmp.f k t713 t714 t717 t718).bind fun t724 => (some t724)) = some r := H
 have A3 := Aside0.mk A30
 clear A30
 replace H := hBi H
 obtain ⟨t724, A40, H⟩ := H
 replace H : (some t724) = some r := H
 have A4 := Aside0.mk A40
 clear A40
 obtain rfl := Option.some.inj H
 go_enter Tryd.func67, Tryd.ntmps67
 go_wp2_with (first | ((with_reducible refine gate_dst (N := 2) rfl ?_); refine hkBox (N := 2) (cs := #[.bool a0_0, .slice A0_1 l0_1.length c0_1, .int .i64 a0_2]) (t := 30) ?_; intro gb711 hg w5 hbox hb; have n_ := hkA (hkU HB hb) (hkA (Aside0.mk (hbox)) (hkA (hkG hg (hkS HB)) (hkG hg (hkS HB)))); clear HB; obtain ⟨HB, BK711, GW711, GE711⟩ := n_; clear hb hbox hg) | ((with_reducible refine gate_dst (N := 3) rfl ?_); refine hkBox (N := 3) (cs := #[.bool a1_0, .slice A1_1 l1_1.length c1_1, .int .i64 a1_2]) (t := 30) ?_; intro gb712 hg w6 hbox hb; have n_ := hkA (hkBb BK711 hb) (hkA (hkU HB hb) (hkA (Aside0.mk (hbox)) (hkA (hkG hg (hkS HB)) (hkA (hkG hg (hkS HB)) (hkA (hkN hg BK711) (hkM hg BK711)))))); clear BK711 HB; obtain ⟨BK711, HB, BK712, GW712, GE712, NB711_712, NB712_711⟩ := n_; clear hb hbox hg; have hnb7 := NB711_712.out; have hnc7 := NB712_711.out; obtain ⟨hcz8_0, hfz8_0, hcz8_1, hfz8_1, hcz8_2, hfz8_2⟩ := hkc3 BK711; obtain ⟨hcz9_0, hfz9_0, hcz9_1, hfz9_1, hcz9_2, hfz9_2⟩ := hkc3 BK712) | ((with_reducible refine gate_callee (f := 101) rfl ?_); refine hkGo (N := some 11) Tryd.func101 #[.agg #[.bool a0_0, .slice A0_1 l0_1.length c0_1, .int .i64 a0_2], .agg #[.bool a1_0, .slice A1_1 l1_1.length c1_1, .int .i64 a1_2]] ?_; (with_reducible refine (spec_l4align.calls k a0_0 (fun k_ => k_ < w.heap.size) _ _ l0_1 a0_2 a1_0 (fun k_ => k_ < w.heap.size) _ _ l1_1 a1_2 t713 t714 t717 t718 t721 _ ?side1 ?side2 A3.out).mono ?_); (case side1 => exact Kd.V_mk HC0_1.out (Kd.F_below (Kd.C_F (Kd.heap_int .i64) HR0_1.out) (hkS HB))); (case side2 => exact Kd.V_mk HC1_1.out (Kd.F_below (Kd.C_F (Kd.heap_int .i64) HR1_1.out) (hkS HB))); rintro e w10 ⟨v715, v719, rfl, ho0, ho1, hb⟩; refine ⟨_, rfl, ?_⟩; have n_ := hkA (Aside0.mk (Kd.V_lower (Kd.V_mono (ok' := fun k_ => k_ ≠ gb711 ∧ k_ ≠ gb712) ho0 (fun k_ hk_ => ⟨Or.elim hk_ (fun hs_ => Or.elim hs_ (fun hs_ => fun e_ => Nat.not_le.2 hs_ (by rw [e_]; exact GW711.out)) (fun hs_ => fun e_ => Nat.not_le.2 hs_ (by rw [e_]; exact GW711.out))) (fun hn_ => (Kd.freshB (g := gb711) (o := .cells #[.bool a0_0, .slice A0_1 l0_1.length c0_1, .int .i64 a0_2] 30 (0, 0)) (hkB BK711) k_ hn_)), Or.elim hk_ (fun hs_ => Or.elim hs_ (fun hs_ => fun e_ => Nat.not_le.2 hs_ (by rw [e_]; exact GW712.out)) (fun hs_ => fun e_ => Nat.not_le.2 hs_ (by rw [e_]; exact GW712.out))) (fun hn_ => (Kd.freshB (g := gb712) (o := .cells #[.bool a1_0, .slice A1_1 l1_1.length c1_1, .int .i64 a1_2] 30 (0, 0)) (hkB BK712) k_ hn_))⟩)) (below_size (hkS HB)))) (hkA (Aside0.mk (Kd.V_lower (Kd.V_mono (ok' := fun k_ => k_ ≠ gb711 ∧ k_ ≠ gb712) ho1 (fun k_ hk_ => ⟨Or.elim hk_ (fun hs_ => Or.elim hs_ (fun hs_ => fun e_ => Nat.not_le.2 hs_ (by rw [e_]; exact GW711.out)) (fun hs_ => fun e_ => Nat.not_le.2 hs_ (by rw [e_]; exact GW711.out))) (fun hn_ => (Kd.freshB (g := gb711) (o := .cells #[.bool a0_0, .slice A0_1 l0_1.length c0_1, .int .i64 a0_2] 30 (0, 0)) (hkB BK711) k_ hn_)), Or.elim hk_ (fun hs_ => Or.elim hs_ (fun hs_ => fun e_ => Nat.not_le.2 hs_ (by rw [e_]; exact GW712.out)) (fun hs_ => fun e_ => Nat.not_le.2 hs_ (by rw [e_]; exact GW712.out))) (fun hn_ => (Kd.freshB (g := gb712) (o := .cells #[.bool a1_0, .slice A1_1 l1_1.length c1_1, .int .i64 a1_2] 30 (0, 0)) (hkB BK712) k_ hn_))⟩)) (below_size (hkS HB)))) (hkA (hkBb BK711 hb) (hkA (hkBb BK712 hb) (hkU HB hb)))); clear BK711 BK712 HB; obtain ⟨HO716, HO720, BK711, BK712, HB⟩ := n_; (try clear hb); (try clear hk); (try clear ho0); (try clear ho1)) | ((with_reducible refine gate_dst (N := 5) rfl ?_); refine hkBox (N := 5) (cs := #[.bool false, .slice none 0 0]) (t := 28) ?_; intro gb722 hg w11 hbox hb; have n_ := hkA (Aside0.mk (Kd.V_below (Kd.V_elderB (by (with_reducible repeat (first | apply Kd.V_alloc | apply Kd.V_drewN | apply Kd.V_drew)); exact HO716.out) gb722 (Nat.le_of_eq hg.symm)) hb)) (hkA (Aside0.mk (Kd.V_below (Kd.V_elderB (by (with_reducible repeat (first | apply Kd.V_alloc | apply Kd.V_drewN | apply Kd.V_drew)); exact HO720.out) gb722 (Nat.le_of_eq hg.symm)) hb)) (hkA (hkBb BK711 hb) (hkA (hkBb BK712 hb) (hkA (hkU HB hb) (hkA (Aside0.mk (hbox)) (hkA (hkG hg (hkS HB)) (hkA (hkG hg (hkS HB)) (hkA (hkN hg BK711) (hkA (hkM hg BK711) (hkA (hkN hg BK712) (hkM hg BK712))))))))))); clear HO716 HO720 BK711 BK712 HB; obtain ⟨HO716, HO720, BK711, BK712, HB, BK722, GW722, GE722, NB711_722, NB722_711, NB712_722, NB722_712⟩ := n_; clear hb hbox hg) | ((with_reducible refine gate_dst (N := 6) rfl ?_); refine hkBox (N := 6) (cs := #[.bool false, .slice none 0 0]) (t := 28) ?_; intro gb723 hg w12 hbox hb; have n_ := hkA (Aside0.mk (Kd.V_below (Kd.V_elderB (by (with_reducible repeat (first | apply Kd.V_alloc | apply Kd.V_drewN | apply Kd.V_drew)); exact HO716.out) gb723 (Nat.le_of_eq hg.symm)) hb)) (hkA (Aside0.mk (Kd.V_below (Kd.V_elderB (by (with_reducible repeat (first | apply Kd.V_alloc | apply Kd.V_drewN | apply Kd.V_drew)); exact HO720.out) gb723 (Nat.le_of_eq hg.symm)) hb)) (hkA (hkBb BK711 hb) (hkA (hkBb BK712 hb) (hkA (hkBb BK722 hb) (hkA (hkU HB hb) (hkA (Aside0.mk (hbox)) (hkA (hkG hg (hkS HB)) (hkA (hkG hg (hkS HB)) (hkA (hkN hg BK711) (hkA (hkM hg BK711) (hkA (hkN hg BK712) (hkA (hkM hg BK712) (hkA (hkN hg BK722) (hkM hg BK722)))))))))))))); clear HO716 HO720 BK711 BK712 BK722 HB; obtain ⟨HO716, HO720, BK711, BK712, BK722, HB, BK723, GW723, GE723, NB711_723, NB723_711, NB712_723, NB723_712, NB722_723, NB723_722⟩ := n_; clear hb hbox hg; have hnb13 := NB722_711.out; have hnc13 := NB711_722.out; have hnb14 := NB722_712.out; have hnc14 := NB712_722.out; have hnb15 := NB722_723.out; have hnc15 := NB723_722.out; obtain ⟨hcz16_0, hfz16_0, hcz16_1, hfz16_1⟩ := hkc2 BK722; obtain ⟨Ao17, co17, eo17⟩ := Kd.V_slice HO716.out; subst eo17; have hnb18 := NB723_711.out; have hnc18 := NB711_723.out; have hnb19 := NB723_712.out; have hnc19 := NB712_723.out; obtain ⟨hcz20_0, hfz20_0, hcz20_1, hfz20_1⟩ := hkc2 BK723; obtain ⟨Ao21, co21, eo21⟩ := Kd.V_slice HO720.out; subst eo21) | ((with_reducible refine gate_callee (f := 102) rfl ?_); refine hkGo (N := some 17) Tryd.func102 #[.agg #[.bool t713, .slice Ao17 t714.length co17], .agg #[.bool t717, .slice Ao21 t718.length co21]] ?_; (with_reducible refine (spec_l3cmp.calls k t713 _ _ t714 t717 _ _ t718 t724 _ ?side1 ?side2 ?side3 ?side4 A4.out).mono ?_); (case side1 => apply hkVr (e := 3) (base := w.heap.size) (n := t714.length) (c := co17); exact (by (with_reducible repeat (first | apply Kd.V_alloc | apply Kd.V_drewN | apply Kd.V_drew)); exact (Kd.V_mono (Kd.V_mono (Kd.V_far (p := ⟨gb723, 1, none⟩) (Kd.V_far (p := ⟨gb723, 0, none⟩) (Kd.V_far (p := ⟨gb722, 1, none⟩) (Kd.V_far (p := ⟨gb722, 0, none⟩) (Kd.V_mono (Kd.V_mono HO716.out (fun k_ hk => (⟨hk, hk.1.2⟩ : _ ∧ k_ ≠ gb722))) (fun k_ hk => (⟨hk, hk.1.2⟩ : _ ∧ k_ ≠ gb723))) (fun _ hk => hk.1.2) (.bool t713)) (fun _ hk => hk.1.2) (.slice Ao17 t714.length co17)) (fun _ hk => hk.2) (.bool t717)) (fun _ hk => hk.2) (.slice Ao21 t718.length co21)) (fun _ h_ => h_.1)) (fun _ h_ => h_.1)))); (case side2 => exact (Kd.V_reads' HO716.out).2.1); (case side3 => apply hkVr (e := 3) (base := w.heap.size) (n := t718.length) (c := co21); exact (by (with_reducible repeat (first | apply Kd.V_alloc | apply Kd.V_drewN | apply Kd.V_drew)); exact (Kd.V_mono (Kd.V_mono (Kd.V_far (p := ⟨gb723, 1, none⟩) (Kd.V_far (p := ⟨gb723, 0, none⟩) (Kd.V_far (p := ⟨gb722, 1, none⟩) (Kd.V_far (p := ⟨gb722, 0, none⟩) (Kd.V_mono (Kd.V_mono HO720.out (fun k_ hk => (⟨hk, hk.1.2⟩ : _ ∧ k_ ≠ gb722))) (fun k_ hk => (⟨hk, hk.1.2⟩ : _ ∧ k_ ≠ gb723))) (fun _ hk => hk.1.2) (.bool t713)) (fun _ hk => hk.1.2) (.slice Ao17 t714.length co17)) (fun _ hk => hk.2) (.bool t717)) (fun _ hk => hk.2) (.slice Ao21 t718.length co21)) (fun _ h_ => h_.1)) (fun _ h_ => h_.1)))); (case side4 => exact (Kd.V_reads' HO720.out).2.1); rintro e w22 ⟨rfl, hb⟩; refine ⟨_, rfl, ?_⟩; have n_ := hkA (Aside0.mk (Kd.V_below (by (with_reducible repeat (first | apply Kd.V_alloc | apply Kd.V_drewN | apply Kd.V_drew)); exact (Kd.V_mono (Kd.V_mono (Kd.V_far (p := ⟨gb723, 1, none⟩) (Kd.V_far (p := ⟨gb723, 0, none⟩) (Kd.V_far (p := ⟨gb722, 1, none⟩) (Kd.V_far (p := ⟨gb722, 0, none⟩) (Kd.V_mono (Kd.V_mono HO716.out (fun k_ hk => (⟨hk, hk.1.2⟩ : _ ∧ k_ ≠ gb722))) (fun k_ hk => (⟨hk, hk.1.2⟩ : _ ∧ k_ ≠ gb723))) (fun _ hk => hk.1.2) (.bool t713)) (fun _ hk => hk.1.2) (.slice Ao17 t714.length co17)) (fun _ hk => hk.2) (.bool t717)) (fun _ hk => hk.2) (.slice Ao21 t718.length co21)) (fun _ h_ => h_.1)) (fun _ h_ => h_.1))) hb)) (hkA (Aside0.mk (Kd.V_below (by (with_reducible repeat (first | apply Kd.V_alloc | apply Kd.V_drewN | apply Kd.V_drew)); exact (Kd.V_mono (Kd.V_mono (Kd.V_far (p := ⟨gb723, 1, none⟩) (Kd.V_far (p := ⟨gb723, 0, none⟩) (Kd.V_far (p := ⟨gb722, 1, none⟩) (Kd.V_far (p := ⟨gb722, 0, none⟩) (Kd.V_mono (Kd.V_mono HO720.out (fun k_ hk => (⟨hk, hk.1.2⟩ : _ ∧ k_ ≠ gb722))) (fun k_ hk => (⟨hk, hk.1.2⟩ : _ ∧ k_ ≠ gb723))) (fun _ hk => hk.1.2) (.bool t713)) (fun _ hk => hk.1.2) (.slice Ao17 t714.length co17)) (fun _ hk => hk.2) (.bool t717)) (fun _ hk => hk.2) (.slice Ao21 t718.length co21)) (fun _ h_ => h_.1)) (fun _ h_ => h_.1))) hb)) (hkA (Aside0.mk (blk_below (g := gb711) (o := .cells #[.bool a0_0, .slice A0_1 l0_1.length c0_1, .int .i64 a0_2] 30 (0, 0)) hkPp hb)) (hkA (Aside0.mk (blk_below (g := gb712) (o := .cells #[.bool a1_0, .slice A1_1 l1_1.length c1_1, .int .i64 a1_2] 30 (0, 0)) hkPp hb)) (hkA (Aside0.mk (blk_below (g := gb722) (o := .cells #[.bool t713, .slice Ao17 t714.length co17] 28 (0, 0)) hkPp hb)) (hkA (Aside0.mk (blk_below (g := gb723) (o := .cells #[.bool t717, .slice Ao21 t718.length co21] 28 (0, 0)) hkPp hb)) (hkU HB hb)))))); clear HO716 HO720 BK711 BK712 BK722 BK723 HB; obtain ⟨HO716, HO720, BK711, BK712, BK722, BK723, HB⟩ := n_; (try clear hb); (try clear hk)))
 go_ret
 exact ⟨hkE, hkS HB⟩

/-! ### spec_DyCmp: function 35 -/
def spec_DyCmp.f (k : Nat) (a0_0 : Bool) (l0_1 : List Int) (a0_2 : Int) (a1_0 : Bool) (l1_1 : List Int) (a1_2 : Int) : Option (Int) := (spec_DyOk.f k a0_0 l0_1 a0_2).bind fun t727 => (if t727 = true then ((spec_DyOk.f k a1_0 l1_1 a1_2).bind fun t728 => (if t728 = true then ((spec_l4cmp.f k a0_0 l0_1 a0_2 a1_0 l1_1 a1_2).bind fun t729 => (some t729)) else (some 0))) else (some 0))
theorem spec_DyCmp.mono : ∀ a0 a1 a2 a3 a4 a5 k, LeO (spec_DyCmp.f k a0 a1 a2 a3 a4 a5) (spec_DyCmp.f (k + 1) a0 a1 a2 a3 a4 a5) := by
 intro a0 a1 a2 a3 a4 a5 k
 unfold spec_DyCmp.f
 repeat' first
   | (with_reducible exact spec_DyOk.mono _ _ _ _)
   | (with_reducible exact spec_l4cmp.mono _ _ _ _ _ _ _)
   | (with_reducible exact LeO.refl _)
   | (with_reducible exact LeO.none _)
   | (with_reducible refine LeO.ite ?_ ?_)
   | (with_reducible refine LeO.bind ?_ (fun _ => ?_))
   | exact spec_DyOk.mono _ _ _ _
   | exact spec_l4cmp.mono _ _ _ _ _ _ _
   | exact LeO.none _
   | refine LeO.ite ?_ ?_
   | refine LeO.bind ?_ (fun _ => ?_)
set_option maxHeartbeats 8000000 in
set_option maxRecDepth 100000 in
theorem spec_DyCmp.calls (k : Nat) (a0_0 : Bool) (A0_1 : Option Addr) (c0_1 : Nat) (l0_1 : List Int) (a0_2 : Int) (a1_0 : Bool) (A1_1 : Option Addr) (c1_1 : Nat) (l1_1 : List Int) (a1_2 : Int) (r : Int) (w : World) (hr0_1 : Kd.C (Kd.int .i64) w A0_1 l0_1.length l0_1) (hc0_1 : l0_1.length ≤ c0_1) (hr1_1 : Kd.C (Kd.int .i64) w A1_1 l1_1.length l1_1) (hc1_1 : l1_1.length ≤ c1_1) (h : spec_DyCmp.f k a0_0 l0_1 a0_2 a1_0 l1_1 a1_2 = some r) :
  Calls Tryd.prog 35 #[.agg #[.bool a0_0, .slice A0_1 l0_1.length c0_1, .int .i64 a0_2], .agg #[.bool a1_0, .slice A1_1 l1_1.length c1_1, .int .i64 a1_2]] w fun e w' => e = .returned (.int .i64 r) ∧ Below w.heap.size w w' := by
 have hu30 := Tryd.underlying30
 have HR0_1 := Aside0.mk hr0_1
 have HC0_1 := Aside0.mk hc0_1
 clear hr0_1 hc0_1
 have HR1_1 := Aside0.mk hr1_1
 have HC1_1 := Aside0.mk hc1_1
 clear hr1_1 hc1_1
 have HB := Aside0.mk (Below.refl w.heap.size w)
 have H : ((spec_DyOk.f k a0_0 l0_1 a0_2).bind fun t727 => (if t727 = true then ((spec_DyOk.f k a1_0 l1_1 a1_2).bind fun t728 => (if t728 = true then ((spec_l4cmp.f k a0_0 l0_1 a0_2 a1_0 l1_1 a1_2).bind fun t729 => (some t729)) else (some 0))) else (some 0))) = some r := h
 clear h
 replace H := hBi H
 obtain ⟨t727, A30, H⟩ := H
 replace H : (if t727 = true then ((spec_DyOk.f k a1_0 l1_1 a1_2).bind fun t728 => (if t728 = true then ((spec_l4cmp.f k a0_0 l0_1 a0_2 a1_0 l1_1 a1_2).bind fun t729 => (some t729)) else (some 0))) else (some 0)) = some r := H
 have A3 := Aside0.mk A30
 clear A30
 by_cases c4 : t727 = true
 ·subst c4
  have H1 : ((spec_DyOk.f k a1_0 l1_1 a1_2).bind fun t728 => (if t728 = true then ((spec_l4cmp.f k a0_0 l0_1 a0_2 a1_0 l1_1 a1_2).bind fun t729 => (some t729)) else (some 0))) = some r := by rw [if_pos rfl] at H; exact H
  clear H
  have H := H1
  clear H1
  replace H := hBi H
  obtain ⟨t728, A50, H⟩ := H
  replace H : (if t728 = true then ((spec_l4cmp.f k a0_0 l0_1 a0_2 a1_0 l1_1 a1_2).bind fun t729 => (some t729)) else (some 0)) = some r := H
  have A5 := Aside0.mk A50
  clear A50
  by_cases c6 : t728 = true
  ·subst c6
   have H1 : ((spec_l4cmp.f k a0_0 l0_1 a0_2 a1_0 l1_1 a1_2).bind fun t729 => (some t729)) = some r := by rw [if_pos rfl] at H; exact H
   clear H
   have H := H1
   clear H1
   replace H := hBi H
   obtain ⟨t729, A70, H⟩ := H
   replace H : (some t729) = some r := H
   have A7 := Aside0.mk A70
   clear A70
   obtain rfl := Option.some.inj H
   go_enter Tryd.func35, Tryd.ntmps35
   go_wp2_with (first | ((with_reducible refine gate_dst (N := 2) rfl ?_); refine hkBox (N := 2) (cs := #[.bool a0_0, .slice A0_1 l0_1.length c0_1, .int .i64 a0_2]) (t := 30) ?_; intro gb725 hg w8 hbox hb; have n_ := hkA (hkU HB hb) (hkA (Aside0.mk (hbox)) (hkA (hkG hg (hkS HB)) (hkG hg (hkS HB)))); clear HB; obtain ⟨HB, BK725, GW725, GE725⟩ := n_; clear hb hbox hg) | ((with_reducible refine gate_dst (N := 3) rfl ?_); refine hkBox (N := 3) (cs := #[.bool a1_0, .slice A1_1 l1_1.length c1_1, .int .i64 a1_2]) (t := 30) ?_; intro gb726 hg w9 hbox hb; have n_ := hkA (hkBb BK725 hb) (hkA (hkU HB hb) (hkA (Aside0.mk (hbox)) (hkA (hkG hg (hkS HB)) (hkA (hkG hg (hkS HB)) (hkA (hkN hg BK725) (hkM hg BK725)))))); clear BK725 HB; obtain ⟨BK725, HB, BK726, GW726, GE726, NB725_726, NB726_725⟩ := n_; clear hb hbox hg; have hnb10 := NB725_726.out; have hnc10 := NB726_725.out; obtain ⟨hcz11_0, hfz11_0, hcz11_1, hfz11_1, hcz11_2, hfz11_2⟩ := hkc3 BK725) | ((with_reducible refine gate_callee (f := 43) rfl ?_); refine hkGo (N := some 6) Tryd.func43 #[.agg #[.bool a0_0, .slice A0_1 l0_1.length c0_1, .int .i64 a0_2]] ?_; (with_reducible refine (spec_DyOk.calls k a0_0 _ _ l0_1 a0_2 true _ ?side1 ?side2 A3.out).mono ?_); (case side1 => exact hkC ((Kd.C_below HR0_1.out HB.out))); (case side2 => exact HC0_1.out); rintro e w12 ⟨rfl, hb⟩; refine ⟨_, rfl, ?_⟩; have n_ := hkA (hkBb BK725 hb) (hkA (hkBb BK726 hb) (hkU HB hb)); clear BK725 BK726 HB; obtain ⟨BK725, BK726, HB⟩ := n_; (try clear hb); obtain ⟨hcz13_0, hfz13_0, hcz13_1, hfz13_1, hcz13_2, hfz13_2⟩ := hkc3 BK726) | (go_at_call 43; (with_reducible refine (spec_DyOk.calls k a1_0 _ _ l1_1 a1_2 true _ ?side1 ?side2 A5.out).mono ?_); (case side1 => exact hkC ((Kd.C_below HR1_1.out HB.out))); (case side2 => exact HC1_1.out); rintro e w14 ⟨rfl, hb⟩; have n_ := hkA (hkBb BK725 hb) (hkA (hkBb BK726 hb) (hkU HB hb)); clear BK725 BK726 HB; obtain ⟨BK725, BK726, HB⟩ := n_; (try clear hb); obtain ⟨hcz15_0, hfz15_0, hcz15_1, hfz15_1, hcz15_2, hfz15_2⟩ := hkc3 BK725; obtain ⟨hcz16_0, hfz16_0, hcz16_1, hfz16_1, hcz16_2, hfz16_2⟩ := hkc3 BK726) | ((with_reducible refine gate_callee (f := 67) rfl ?_); refine hkGo (N := some 15) Tryd.func67 #[.agg #[.bool a0_0, .slice A0_1 l0_1.length c0_1, .int .i64 a0_2], .agg #[.bool a1_0, .slice A1_1 l1_1.length c1_1, .int .i64 a1_2]] ?_; (with_reducible refine (spec_l4cmp.calls k a0_0 _ _ l0_1 a0_2 a1_0 _ _ l1_1 a1_2 t729 _ ?side1 ?side2 ?side3 ?side4 A7.out).mono ?_); (case side1 => exact hkC ((Kd.C_below HR0_1.out HB.out))); (case side2 => exact HC0_1.out); (case side3 => exact hkC ((Kd.C_below HR1_1.out HB.out))); (case side4 => exact HC1_1.out); rintro e w17 ⟨rfl, hb⟩; refine ⟨_, rfl, ?_⟩; have n_ := hkA (hkBb BK725 hb) (hkA (hkBb BK726 hb) (hkU HB hb)); clear BK725 BK726 HB; obtain ⟨BK725, BK726, HB⟩ := n_; (try clear hb)))
   go_ret
   exact ⟨hkE, hkS HB⟩
  ·replace c6 := Bool.eq_false_iff.mpr c6
   subst c6
   have H1 : (some 0) = some r := by rw [if_neg (show ¬ (false = true) by decide)] at H; exact H
   clear H
   have H := H1
   clear H1
   obtain rfl := Option.some.inj H
   go_enter Tryd.func35, Tryd.ntmps35
   go_wp2_with (first | ((with_reducible refine gate_dst (N := 2) rfl ?_); refine hkBox (N := 2) (cs := #[.bool a0_0, .slice A0_1 l0_1.length c0_1, .int .i64 a0_2]) (t := 30) ?_; intro gb725 hg w18 hbox hb; have n_ := hkA (hkU HB hb) (hkA (Aside0.mk (hbox)) (hkA (hkG hg (hkS HB)) (hkG hg (hkS HB)))); clear HB; obtain ⟨HB, BK725, GW725, GE725⟩ := n_; clear hb hbox hg) | ((with_reducible refine gate_dst (N := 3) rfl ?_); refine hkBox (N := 3) (cs := #[.bool a1_0, .slice A1_1 l1_1.length c1_1, .int .i64 a1_2]) (t := 30) ?_; intro gb726 hg w19 hbox hb; have n_ := hkA (hkBb BK725 hb) (hkA (hkU HB hb) (hkA (Aside0.mk (hbox)) (hkA (hkG hg (hkS HB)) (hkA (hkG hg (hkS HB)) (hkA (hkN hg BK725) (hkM hg BK725)))))); clear BK725 HB; obtain ⟨BK725, HB, BK726, GW726, GE726, NB725_726, NB726_725⟩ := n_; clear hb hbox hg; have hnb20 := NB725_726.out; have hnc20 := NB726_725.out; obtain ⟨hcz21_0, hfz21_0, hcz21_1, hfz21_1, hcz21_2, hfz21_2⟩ := hkc3 BK725) | ((with_reducible refine gate_callee (f := 43) rfl ?_); refine hkGo (N := some 6) Tryd.func43 #[.agg #[.bool a0_0, .slice A0_1 l0_1.length c0_1, .int .i64 a0_2]] ?_; (with_reducible refine (spec_DyOk.calls k a0_0 _ _ l0_1 a0_2 true _ ?side1 ?side2 A3.out).mono ?_); (case side1 => exact hkC ((Kd.C_below HR0_1.out HB.out))); (case side2 => exact HC0_1.out); rintro e w22 ⟨rfl, hb⟩; refine ⟨_, rfl, ?_⟩; have n_ := hkA (hkBb BK725 hb) (hkA (hkBb BK726 hb) (hkU HB hb)); clear BK725 BK726 HB; obtain ⟨BK725, BK726, HB⟩ := n_; (try clear hb); obtain ⟨hcz23_0, hfz23_0, hcz23_1, hfz23_1, hcz23_2, hfz23_2⟩ := hkc3 BK726) | (go_at_call 43; (with_reducible refine (spec_DyOk.calls k a1_0 _ _ l1_1 a1_2 false _ ?side1 ?side2 A5.out).mono ?_); (case side1 => exact hkC ((Kd.C_below HR1_1.out HB.out))); (case side2 => exact HC1_1.out); rintro e w24 ⟨rfl, hb⟩; have n_ := hkA (hkBb BK725 hb) (hkA (hkBb BK726 hb) (hkU HB hb)); clear BK725 BK726 HB; obtain ⟨BK725, BK726, HB⟩ := n_; (try clear hb)))
   go_ret
   exact ⟨hkE, hkS HB⟩
 ·replace c4 := Bool.eq_false_iff.mpr c4
  subst c4
  have H1 : (some 0) = some r := by rw [if_neg (show ¬ (false = true) by decide)] at H; exact H
  clear H
  have H := H1
  clear H1
  obtain rfl := Option.some.inj H
  go_enter Tryd.func35, Tryd.ntmps35
  go_wp2_with (first | ((with_reducible refine gate_dst (N := 2) rfl ?_); refine hkBox (N := 2) (cs := #[.bool a0_0, .slice A0_1 l0_1.length c0_1, .int .i64 a0_2]) (t := 30) ?_; intro gb725 hg w25 hbox hb; have n_ := hkA (hkU HB hb) (hkA (Aside0.mk (hbox)) (hkA (hkG hg (hkS HB)) (hkG hg (hkS HB)))); clear HB; obtain ⟨HB, BK725, GW725, GE725⟩ := n_; clear hb hbox hg) | ((with_reducible refine gate_dst (N := 3) rfl ?_); refine hkBox (N := 3) (cs := #[.bool a1_0, .slice A1_1 l1_1.length c1_1, .int .i64 a1_2]) (t := 30) ?_; intro gb726 hg w26 hbox hb; have n_ := hkA (hkBb BK725 hb) (hkA (hkU HB hb) (hkA (Aside0.mk (hbox)) (hkA (hkG hg (hkS HB)) (hkA (hkG hg (hkS HB)) (hkA (hkN hg BK725) (hkM hg BK725)))))); clear BK725 HB; obtain ⟨BK725, HB, BK726, GW726, GE726, NB725_726, NB726_725⟩ := n_; clear hb hbox hg; have hnb27 := NB725_726.out; have hnc27 := NB726_725.out; obtain ⟨hcz28_0, hfz28_0, hcz28_1, hfz28_1, hcz28_2, hfz28_2⟩ := hkc3 BK725) | ((with_reducible refine gate_callee (f := 43) rfl ?_); refine hkGo (N := some 6) Tryd.func43 #[.agg #[.bool a0_0, .slice A0_1 l0_1.length c0_1, .int .i64 a0_2]] ?_; (with_reducible refine (spec_DyOk.calls k a0_0 _ _ l0_1 a0_2 false _ ?side1 ?side2 A3.out).mono ?_); (case side1 => exact hkC ((Kd.C_below HR0_1.out HB.out))); (case side2 => exact HC0_1.out); rintro e w29 ⟨rfl, hb⟩; refine ⟨_, rfl, ?_⟩; have n_ := hkA (hkBb BK725 hb) (hkA (hkBb BK726 hb) (hkU HB hb)); clear BK725 BK726 HB; obtain ⟨BK725, BK726, HB⟩ := n_; (try clear hb)))
  go_ret
  exact ⟨hkE, hkS HB⟩

end Go.Proofs.YtgjpahofopoflaaDoor.PFnFlOrder
