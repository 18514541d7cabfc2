-- Written by our own driver (wip/hand/hprint.py) over the seat's translation.
import Derived.Test.YtgjpahofopoflaaDoorPFnFlOrderx0
import Derived.Test.YtgjpahofopoflaaDoorPFnFlOrderx9
import Derived.Test.YtgjpahofopoflaaDoorPFnFlOrderx10
import Derived.Test.YtgjpahofopoflaaDoorPFnFlOrderx11
namespace Go.Proofs.YtgjpahofopoflaaDoor.PFnFlOrder
open Go.RowKit Go.Proofs.YtgjpahofopoflaaDoorW.PrintWords Go.Proofs.YtgjpahofopoflaaDoorW.PrintLast Go.Proofs.YtgjpahofopoflaaDoorW.PrintMore
attribute [local go_sem] max2_int min2_int max_two min_two max_three min_three max_four min_four   -- for this text's walks alone
set_option linter.unusedVariables false
set_option linter.unusedSimpArgs false

/-! ### spec_l4make: function 53 -/
def spec_l4make.f (k : Nat) (a0_0 : Bool) (l0_1 : List Int) (a1 : Int) : Option (Bool × List Int × Int) := if (l0_1.length : Int) = 0 then (some (false, ([] : List Int), 0)) else ((spec_l2trail.f k l0_1).bind fun t254 => ((spec_l2shr.f k l0_1 t254).bind fun t255 => ((spec_l3make.f k a0_0 t255).bind fun bt258 => (some (bt258.1, bt258.2, wrap64 (a1 + t254))))))
theorem spec_l4make.mono : ∀ a0 a1 a2 k, LeO (spec_l4make.f k a0 a1 a2) (spec_l4make.f (k + 1) a0 a1 a2) := by
 intro a0 a1 a2 k
 unfold spec_l4make.f
 repeat' first
   | (with_reducible exact spec_l2shr.mono _ _ _)
   | (with_reducible exact spec_l2trail.mono _ _)
   | (with_reducible exact spec_l3make.mono _ _ _)
   | (with_reducible exact LeO.refl _)
   | (with_reducible exact LeO.none _)
   | (with_reducible refine LeO.ite ?_ ?_)
   | (with_reducible refine LeO.bind ?_ (fun _ => ?_))
   | exact spec_l2shr.mono _ _ _
   | exact spec_l2trail.mono _ _
   | exact spec_l3make.mono _ _ _
   | exact LeO.none _
   | refine LeO.ite ?_ ?_
   | refine LeO.bind ?_ (fun _ => ?_)
def spec_l4make.T4 : Bool × List (List Nat × List Nat) := (true, [([], []), ([0], [0]), ([], []), ([2], [2]), ([], []), ([3, 4], [3, 4]), ([1, 5, 5], [1, 5]), ([], []), ([], []), ([7, 8], [7, 8]), ([6, 9], [6, 9]), ([10, 6, 0, 1, 2, 3, 4, 5, 6, 7, 8, 9, 10], [10])])
def spec_l4make.B4 : List Nat := [0, 1, 0, 4, 0, 28, 63, 0, 0, 384, 1023, 2047]
theorem spec_l4make.tab4 : rtab .any (opsOf Tryd.f53 4) = spec_l4make.T4 := by kernel_rfl
theorem spec_l4make.bits4 : waitsOk spec_l4make.T4.2 spec_l4make.B4 = true := by kernel_rfl
set_option maxHeartbeats 8000000 in
set_option maxRecDepth 100000 in
theorem spec_l4make.calls (k : Nat) (a0_0 : Bool) (A0_1 : Option Addr) (c0_1 : Nat) (l0_1 : List Int) (a1 : Int) (r1 : Bool) (r2 : List Int) (r3 : Int) (w : World) (hr0_1 : Kd.C (Kd.int .i64) w A0_1 l0_1.length l0_1) (hc0_1 : l0_1.length ≤ c0_1) (h : spec_l4make.f k a0_0 l0_1 a1 = some (r1, r2, r3)) :
  Calls Tryd.prog 53 #[.agg #[.bool a0_0, .slice A0_1 l0_1.length c0_1], .int .i64 a1] w fun e w' => ∃ v1_ : Value, e = .returned (.agg #[.bool r1, v1_, .int .i64 r3]) ∧ Kd.R (Kd.int .i64) 3 w' w.heap.size (fun _ => True) v1_ r2 ∧ Below w.heap.size w w' := by
 have hu28 := Tryd.underlying28
 have hu30 := Tryd.underlying30
 have hu26 := Tryd.underlying26
 have HR0_1 := Aside0.mk hr0_1
 have HC0_1 := Aside0.mk hc0_1
 clear hr0_1 hc0_1
 have HB := Aside0.mk (Below.refl w.heap.size w)
 have H : (if (l0_1.length : Int) = 0 then (some (false, ([] : List Int), 0)) else ((spec_l2trail.f k l0_1).bind fun t254 => ((spec_l2shr.f k l0_1 t254).bind fun t255 => ((spec_l3make.f k a0_0 t255).bind fun bt258 => (some (bt258.1, bt258.2, wrap64 (a1 + t254))))))) = some (r1, r2, r3) := h
 clear h
 by_cases c3 : (l0_1.length : Int) = 0
 ·rw [if_pos c3] at H
  have c3b0 : ((l0_1.length : Int) == 0) = true := beq_iff_eq.mpr c3
  have c3b1 : ((l0_1.length : Int) != 0) = false := bne_eq_false_iff_eq.mpr c3
  clear c3
  simp only [Option.some.injEq, Prod.mk.injEq] at H
  obtain ⟨rfl, rfl, rfl⟩ := H
  go_enter Tryd.func53, Tryd.ntmps53
  go_wp2_with (first | ((with_reducible refine gate_dst (N := 2) rfl ?_); refine hkBox (N := 2) (cs := #[.bool a0_0, .slice A0_1 l0_1.length c0_1]) (t := 28) ?_; intro gb252 hg w4 hbox hb; have n_ := hkA (hkU HB hb) (hkA (Aside0.mk (hbox)) (hkA (hkG hg (hkS HB)) (hkG hg (hkS HB)))); clear HB; obtain ⟨HB, BK252, GW252, GE252⟩ := n_; clear hb hbox hg) | ((with_reducible refine gate_dst (N := 4) rfl ?_); refine hkBox (N := 4) (cs := #[.bool false, .slice none 0 0, .int .i64 0]) (t := 30) ?_; intro gb253 hg w5 hbox hb; have n_ := hkA (hkBb BK252 hb) (hkA (hkU HB hb) (hkA (Aside0.mk (hbox)) (hkA (hkG hg (hkS HB)) (hkA (hkG hg (hkS HB)) (hkA (hkN hg BK252) (hkM hg BK252)))))); clear BK252 HB; obtain ⟨BK252, HB, BK253, GW253, GE253, NB252_253, NB253_252⟩ := n_; clear hb hbox hg; have hnb6 := NB252_253.out; have hnc6 := NB253_252.out; obtain ⟨hcz7_0, hfz7_0, hcz7_1, hfz7_1⟩ := hkc2 BK252; obtain ⟨hcz8_0, hfz8_0, hcz8_1, hfz8_1, hcz8_2, hfz8_2⟩ := hkc3 BK253))
  refine bodyPost_ret (results_cell_row rfl _ _ gb253 30 #[.bool false, .slice none 0 0, .int .i64 0] (0, 0) _ rfl hkPp Tryd.underlying30 rfl (by kernel_rfl)) rfl ?_
  exact ⟨_, hkE, by first | exact Kd.R_nil _ _ _ _ _ | exact Kd.N_nil _ _ _ _ _ | exact Kd.V_nil _ _ _ _ _ | exact Kd.Q_nil _ _ _ _ _ | exact Kd.S_nil _ _ _ _ _, hkS HB⟩
 ·rw [if_neg c3] at H
  have c3b0 : ((l0_1.length : Int) == 0) = false := beq_eq_false_iff_ne.mpr c3
  have c3b1 : ((l0_1.length : Int) != 0) = true := bne_iff_ne.mpr c3
  have c3b2 : ¬ (l0_1 = []) := fun h_ => c3 (by rw [h_]; rfl)
  replace H := hBi H
  obtain ⟨t254, A90, H⟩ := H
  replace H : ((spec_l2shr.f k l0_1 t254).bind fun t255 => ((spec_l3make.f k a0_0 t255).bind fun bt258 => (some (bt258.1, bt258.2, wrap64 (a1 + t254))))) = some (r1, r2, r3) := H
  have A9 := Aside0.mk A90
  clear A90
  replace H := hBi H
  obtain ⟨t255, A100, H⟩ := H
  replace H : ((spec_l3make.f k a0_0 t255).bind fun bt258 => (some (bt258.1, bt258.2, wrap64 (a1 + t254)))) = some (r1, r2, r3) := H
  have A10 := Aside0.mk A100
  clear A100
  replace H := hBi H
  obtain ⟨⟨t258, t259⟩, A110, H⟩ := H
  replace H : (some (t258, t259, wrap64 (a1 + t254))) = some (r1, r2, r3) := H
  have A11 := Aside0.mk A110
  clear A110
  simp only [Option.some.injEq, Prod.mk.injEq] at H
  obtain ⟨rfl, rfl, rfl⟩ := H
  go_enter Tryd.func53, Tryd.ntmps53
  try go_wp2_with (first | ((with_reducible refine gate_dst (N := 2) rfl ?_); refine hkBox (N := 2) (cs := #[.bool a0_0, .slice A0_1 l0_1.length c0_1]) (t := 28) ?_; intro gb252 hg w12 hbox hb; have n_ := hkA (hkU HB hb) (hkA (Aside0.mk (hbox)) (hkA (hkG hg (hkS HB)) (hkG hg (hkS HB)))); clear HB; obtain ⟨HB, BK252, GW252, GE252⟩ := n_; clear hb hbox hg) | ((with_reducible refine gate_dst (N := 4) rfl ?_); refine hkBox (N := 4) (cs := #[.bool false, .slice none 0 0, .int .i64 0]) (t := 30) ?_; intro gb253 hg w13 hbox hb; have n_ := hkA (hkBb BK252 hb) (hkA (hkU HB hb) (hkA (Aside0.mk (hbox)) (hkA (hkG hg (hkS HB)) (hkA (hkG hg (hkS HB)) (hkA (hkN hg BK252) (hkM hg BK252)))))); clear BK252 HB; obtain ⟨BK252, HB, BK253, GW253, GE253, NB252_253, NB253_252⟩ := n_; clear hb hbox hg; have hnb14 := NB252_253.out; have hnc14 := NB253_252.out; obtain ⟨hcz15_0, hfz15_0, hcz15_1, hfz15_1⟩ := hkc2 BK252) | ((with_reducible refine gate_callee (f := 78) rfl ?_); refine hkGo (N := some 14) Tryd.func78 #[.agg #[.slice A0_1 l0_1.length c0_1]] ?_; (with_reducible refine (spec_l2trail.calls k _ _ l0_1 t254 _ ?side1 ?side2 A9.out).mono ?_); (case side1 => exact hkC ((Kd.C_below HR0_1.out HB.out))); (case side2 => exact HC0_1.out); rintro e w16 ⟨rfl, hb⟩; refine ⟨_, rfl, ?_⟩; have n_ := hkA (hkBb BK252 hb) (hkA (hkBb BK253 hb) (hkU HB hb)); clear BK252 BK253 HB; obtain ⟨BK252, BK253, HB⟩ := n_; (try clear hb)))
  have n_ := hkA (Aside0.mk (blk_drew BK252.out)) (hkA (Aside0.mk (blk_drew BK253.out)) (Aside0.mk (below_drew1 HB.out)))
  clear BK252 BK253 HB
  obtain ⟨BK252, BK253, HB⟩ := n_
  refine start_ (n := 12) (S := fun w' => w'.cell? ⟨gb252, 0, none⟩ = some (.bool a0_0) ∧ w'.cell? ⟨gb252, 1, none⟩ = some (.slice A0_1 l0_1.length c0_1)) (ds := []) #[false, false, false, false, false, false, false, false, false, false, false, false] (by kernel_rfl) rfl rfl ⟨(blk_cell BK252.out 0).trans rfl, (blk_cell BK252.out 1).trans rfl⟩ (fun hHeld => ?_); refine with_tabW spec_l4make.tab4 spec_l4make.bits4 (fun HT_ HW_ => ?_)
  generalize w16.drew = w17 at BK252 BK253 HB hHeld ⊢
  refine hkPt (i := 0) (N := some 15) HT_ ?_
  refine hkPt (i := 2) (N := some 17) HT_ ?_
  refine hkPt (i := 4) (N := some 19) HT_ ?_
  refine hkPt (i := 7) (N := some 22) HT_ ?_
  refine hkPt (i := 8) (N := some 23) HT_ ?_
  refine hkPt (i := 9) (N := some 24) HT_ ?_
  refine hkTt (i := 1) (N := some 16) HT_ HW_ hHeld ?_ (hy := by rintro w' ⟨s0, s1⟩; go_simp; with_reducible rfl)
  refine hkTt (i := 3) (N := some 18) HT_ HW_ hHeld ?_ (hy := by rintro w' ⟨s0, s1⟩; go_simp; with_reducible rfl)
  refine one_ (i := 5) (N := some 20) #[true, true, true, true, true, true, false, true, true, true, false, false] rfl rfl (one_of HT_.out (by kernel_rfl)) (by decide) (fun K hK => ?_)
  refine goes_ Tryd.func79 (by kernel_rfl) rfl #[.agg #[.slice A0_1 l0_1.length c0_1], .int .i64 t254] (by rfl) rfl rfl hkL ?_
  with_reducible refine (spec_l2shr.calls k _ _ l0_1 t254 t255 _ ?side1 ?side2 A10.out).mono ?_
  (case side1 => exact hkC ((Kd.C_below HR0_1.out HB.out)))
  (case side2 => exact HC0_1.out)
  rintro e w18 ⟨v256, rfl, ho0, hb⟩
  refine ⟨_, rfl, ?_⟩
  have n_ := hkA (Aside0.mk (Kd.R_lower ho0 (below_size (hkS HB)))) (hkA (hkBb BK252 hb) (hkA (hkBb BK253 hb) (hkU HB hb)))
  clear BK252 BK253 HB
  obtain ⟨HO257, BK252, BK253, HB⟩ := n_
  (try clear hb); (try clear ho0)
  obtain ⟨Ao19, co19, eo19⟩ := Kd.R_slice HO257.out
  (first | subst eo19 | (injection eo19 with f1_ f2_ f3_; have f4_ := f1_.symm; have f5_ := f3_.symm; clear f1_ f2_ f3_; subst f4_; subst f5_))
  refine hK.out _ _ ⟨(blk_cell BK252.out 0).trans rfl, (blk_cell BK252.out 1).trans rfl⟩ (fun hHeld => ?_)
  clear hK K
  refine hkNo (N := some 20) ?_
  refine one_ (i := 6) (N := some 21) #[true, true, true, true, true, true, true, true, true, true, false, false] rfl rfl (one_of HT_.out (by kernel_rfl)) (by decide) (fun K hK => ?_)
  refine goes_ Tryd.func46 (by kernel_rfl) rfl #[.bool a0_0, .agg #[.slice Ao19 t255.length co19]] (by rfl) rfl rfl hkL ?_
  with_reducible refine (spec_l3make.calls k a0_0 _ _ t255 t258 t259 _ ?side1 ?side2 A11.out).mono ?_
  (case side1 => exact hkC ((Kd.R_reads' HO257.out).2.2))
  (case side2 => exact (Kd.R_reads' HO257.out).2.1)
  rintro e w20 ⟨v260, rfl, ho0, hb⟩
  refine ⟨_, rfl, ?_⟩
  have n_ := hkA (Aside0.mk (Kd.R_elder' (hkR HO257) (Kd.R_base ho0) hb)) (hkA (Aside0.mk (Kd.R_lower (Kd.R_new' ho0 (Kd.R_lt (hkR HO257))) (below_size (hkS HB)))) (hkA (hkBb BK252 hb) (hkA (hkBb BK253 hb) (hkU HB hb))))
  clear HO257 BK252 BK253 HB
  obtain ⟨HO257, HO261, BK252, BK253, HB⟩ := n_
  (try clear hb); (try clear ho0)
  obtain ⟨Ao21, co21, eo21⟩ := Kd.R_slice HO261.out
  (first | subst eo21 | (injection eo21 with f1_ f2_ f3_; have f4_ := f1_.symm; have f5_ := f3_.symm; clear f1_ f2_ f3_; subst f4_; subst f5_))
  refine hK.out _ _ ⟨(blk_cell BK252.out 0).trans rfl, (blk_cell BK252.out 1).trans rfl⟩ (fun hHeld => ?_)
  clear hK K
  refine hkNo (N := some 21) ?_
  refine hkPt (i := 10) (N := some 25) HT_ ?_
  refine one_ (i := 11) (N := none) #[true, true, true, true, true, true, true, true, true, true, true, true] rfl rfl (one_of HT_.out (by kernel_rfl)) (by decide) (fun K hK => ?_)
  have hs22 : w20.cell? ⟨gb253, 0, none⟩ = some (.bool false) := (blk_cell BK253.out 0).trans rfl
  have hfs22 := blk_frozen BK253.out 0
  have hns22_0 := NB252_253.out
  have hms22_0 := NB253_252.out
  have hs23 : w20.cell? ⟨gb253, 1, none⟩ = some (.slice none 0 0) := (blk_cell BK253.out 1).trans rfl
  have hfs23 := blk_frozen BK253.out 1
  have hns23_0 := NB252_253.out
  have hms23_0 := NB253_252.out
  have hs24 : w20.cell? ⟨gb253, 2, none⟩ = some (.int .i64 0) := (blk_cell BK253.out 2).trans rfl
  have hfs24 := blk_frozen BK253.out 2
  have hns24_0 := NB252_253.out
  have hms24_0 := NB253_252.out
  refine skip_ (w1 := ?_) (by rfl) rfl ?_ ?_
  rotate_left
  ·go_simp
   rfl
  refine hK.out _ _ ⟨((cell_far (p := ⟨gb253, _, none⟩) NB252_253.out _).trans (((cell_far (p := ⟨gb253, _, none⟩) NB252_253.out _).trans (((cell_far (p := ⟨gb253, _, none⟩) NB252_253.out _).trans (hHeld.1)))))), ((cell_far (p := ⟨gb253, _, none⟩) NB252_253.out _).trans (((cell_far (p := ⟨gb253, _, none⟩) NB252_253.out _).trans (((cell_far (p := ⟨gb253, _, none⟩) NB252_253.out _).trans (hHeld.2))))))⟩ (fun hHeld => ?_)
  clear hK K
  refine done_ (done_of HT_.out (by kernel_rfl)) ?_
  try go_wp2
  refine bodyPost_ret (results_cell_row rfl _ _ gb253 30 #[.bool t258, .slice Ao21 t259.length co21, .int .i64 (wrap64 (a1 + t254))] (0, 0) _ rfl hkPp Tryd.underlying30 rfl (by kernel_rfl)) rfl ?_
  exact ⟨_, hkE, by (with_reducible repeat (first | apply Kd.R_alloc | apply Kd.R_drewN | apply Kd.R_drew)); exact Kd.R_mono (Kd.R_far (p := ⟨gb253, 2, none⟩) (Kd.R_far (p := ⟨gb253, 1, none⟩) (Kd.R_far (p := ⟨gb253, 0, none⟩) (Kd.R_types HO261.out BK253.out (by decide)) (fun _ hk => hk.2) (.bool t258)) (fun _ hk => hk.2) (.slice Ao21 t259.length co21)) (fun _ hk => hk.2) (.int .i64 (wrap64 (a1 + t254)))) (fun _ hk => trivial), hkS HB⟩

/-! ### spec_l2of: function 68 -/
def spec_l2of.l0 : Nat → Int → List Int → Option (List Int)
 | 0, _, _ => none
 | k + 1, x0, x3 => if x0 > 0 then (if x3.length < 17592186044416 then (spec_l2of.l0 k (wrap64 (Int.tdiv x0 65536)) (x3 ++ [Int.tmod x0 65536])) else (none)) else (some x3)
def spec_l2of.f (k : Nat) (a0 : Int) : Option (List Int) := spec_l2of.l0 k a0 ([] : List Int)
theorem spec_l2of.mono_l : ∀ k, (∀ y0 y1, LeO (spec_l2of.l0 k y0 y1) (spec_l2of.l0 (k + 1) y0 y1))
 | 0 => fun _ _ r h => by simp [spec_l2of.l0] at h
 | k + 1 => by
  have ih0 := spec_l2of.mono_l k
  ·intro y0 y1
   unfold spec_l2of.l0
   repeat' first
   | (with_reducible exact ih0 _ _)
   | (with_reducible exact LeO.refl _)
   | (with_reducible exact LeO.none _)
   | (with_reducible refine LeO.ite ?_ ?_)
   | (with_reducible refine LeO.bind ?_ (fun _ => ?_))
   | exact ih0 _ _
   | exact LeO.none _
   | refine LeO.ite ?_ ?_
   | refine LeO.bind ?_ (fun _ => ?_)
theorem spec_l2of.mono : ∀ a0 k, LeO (spec_l2of.f k a0) (spec_l2of.f (k + 1) a0) := by
 intro a0 k
 have ih0 := spec_l2of.mono_l k
 unfold spec_l2of.f
 repeat' first
   | (with_reducible exact ih0 _ _)
   | (with_reducible exact LeO.refl _)
   | (with_reducible exact LeO.none _)
   | (with_reducible refine LeO.ite ?_ ?_)
   | (with_reducible refine LeO.bind ?_ (fun _ => ?_))
   | exact ih0 _ _
   | exact LeO.none _
   | refine LeO.ite ?_ ?_
   | refine LeO.bind ?_ (fun _ => ?_)
set_option maxHeartbeats 8000000 in
set_option maxRecDepth 100000 in
theorem spec_l2of.calls (k : Nat) (a0 : Int) (r : List Int) (w : World) (h : spec_l2of.f k a0 = some r) :
  Calls Tryd.prog 68 #[.int .i64 a0] w fun e w' => ∃ v0_ : Value, e = .returned (.agg #[v0_]) ∧ Kd.R (Kd.int .i64) 3 w' w.heap.size (fun _ => True) v0_ r ∧ Below w.heap.size w w' := by
 have hu26 := Tryd.underlying26
 have HB := Aside0.mk (Below.refl w.heap.size w)
 have H : (spec_l2of.l0 k a0 ([] : List Int)) = some r := h
 clear h
 have H' := Aside0.mk H
 clear H
 go_enter Tryd.func68, Tryd.ntmps68
 go_wp2_with (first | ((with_reducible refine gate_dst (N := 2) rfl ?_); refine hkBox (N := 2) (cs := #[.slice none 0 0]) (t := 26) ?_; intro gb262 hg w2 hbox hb; have n_ := hkA (hkU HB hb) (hkA (Aside0.mk (hbox)) (hkA (hkG hg (hkS HB)) (hkG hg (hkS HB)))); clear HB; obtain ⟨HB, BK262, GW262, GE262⟩ := n_; clear hb hbox hg))
 go_loopg [0, 3] k (fun kq v0 v3 w' => ∃ (x0_1 : Int) (x3_1 : List Int), v0 = .int .i64 x0_1 ∧ Aside0 (spec_l2of.l0 kq x0_1 x3_1 = some r) ∧ Aside0 (kq ≤ k) ∧ Aside0 (Kd.R (Kd.int .i64) 3 w' w.heap.size (fun _ => True) v3 x3_1) ∧ Aside0 (w'.heap[gb262]? = some (.cells #[(.slice none 0 0)] 26 (0, 0))) ∧ Aside0 (Below w.heap.size w w'))
 case atStart => exact ⟨(a0), (([] : List Int)), (by first | rfl | (simp; done) | (simp [*]; done)), H', ⟨Nat.le_refl _⟩, ⟨by first | exact Kd.R_nil _ _ _ _ _ | exact Kd.N_nil _ _ _ _ _ | exact Kd.V_nil _ _ _ _ _ | exact Kd.Q_nil _ _ _ _ _ | exact Kd.S_nil _ _ _ _ _⟩, ⟨by refine hkz ?_; exact BK262.out⟩, ⟨hkS HB⟩⟩
 case round =>
  clear H'
  try clear p2
  obtain ⟨x0_1, x3_1, rfl, HA, HK1, HO_3, BK262, HB⟩ := hrel
  cases gk with
  | zero => exact absurd HA.out (by simp [spec_l2of.l0])
  | succ k1 =>
   have H := HA.out
   clear HA
   simp only [spec_l2of.l0] at H
   by_cases c3 : x0_1 > 0
   ·rw [if_pos c3] at H
    have c3b0 : decide (0 < x0_1) = true := decide_eq_true c3
    clear c3
    by_cases c4 : x3_1.length < 17592186044416
    ·rw [if_pos c4] at H
     have LMc4 := Aside0.mk c4
     clear c4
     obtain ⟨y263, hy263⟩ : ∃ y_ : List Int, y_ = (x3_1 ++ [Int.tmod x0_1 65536]) := ⟨_, rfl⟩
     replace H : (spec_l2of.l0 k1 (wrap64 (Int.tdiv x0_1 65536)) y263) = some r := by first | (rw [hy263]; with_reducible exact H) | (have H2_ := (Option.bind_some _ _).symm.trans H; rw [hy263]; with_reducible exact H2_) | (have H2_ := (Option.bind_some _ _).symm.trans H; with_reducible exact H2_) | with_reducible exact H | (rw [hy263]; exact H) | exact H
     have Ny263 := Aside0.mk hy263
     clear hy263
     have H' := Aside0.mk H
     clear H
     go_wp2_with (first | ((with_reducible refine gate_builtin (b := .append) (xs := #[.tmp 6, .tmp 9]) rfl ?_); at_builtin; refine Kd.R_append (Kd.int .i64) (w0 := w) w.heap.size rfl (.tmp 6) (.tmp 9) 24 3 (.int .i64 0) 8 rfl Tryd.underlying24 info3 rfl (by decide) (by omega) u3 x3_1 (Int.tmod x0_1 65536) [.int .i64 (Int.tmod x0_1 65536)] (fun _ => True) (fun _ => False) rfl rfl ?aP (fun _ hk => hk.elim) ?aF ?aO ?aB ?aS ?aL ?_; (case aP => exact rfl); (case aB => exact (hkS HB)); (case aF => exact (fun _ _ => trivial)); (case aO => exact (hkR HO_3)); (case aS => exact (below_size (hkS HB))); (case aL => have := LMc4.out; omega); intro v264 w5 ho hb hg hat; rw [← Ny263.out] at ho; have n_ := hkA (Aside0.mk (blk_grown (g := gb262) (o := .cells #[.slice none 0 0] 26 (0, 0)) (hkB BK262) hg (Kd.R_ne HO_3.out BK262.out (by decide)))) (hkA (Aside0.mk (hb)) (Aside0.mk (ho))); clear BK262 HB HO_3; obtain ⟨BK262, HB, HO265⟩ := n_; clear ho hb hg hat))
     go_roundg k1
     case measure => have := HK1.out; omega
     case rel => exact ⟨(wrap64 (Int.tdiv x0_1 65536)), (y263), (by first | rfl | (simp; done) | (simp [*]; done)), H', ⟨by have := HK1.out; omega⟩, ⟨by (with_reducible repeat (first | apply Kd.R_alloc | apply Kd.R_drewN | apply Kd.R_drew)); exact HO265.out⟩, ⟨by refine hkz ?_; exact BK262.out⟩, ⟨hkS HB⟩⟩
    ·rw [if_neg c4] at H
     exact absurd H (by simp)
   ·rw [if_neg c3] at H
    have c3b0 : decide (0 < x0_1) = false := decide_eq_false c3
    clear c3
    obtain rfl := Option.some.inj H
    obtain ⟨Ao6, co6, eo6⟩ := Kd.R_slice HO_3.out
    subst eo6
    obtain ⟨hcz7_0, hfz7_0⟩ := hkc1 BK262
    go_wp2
    refine bodyPost_ret (results_cell_row rfl _ _ gb262 26 #[.slice Ao6 x3_1.length co6] (0, 0) _ rfl hkPp Tryd.underlying26 rfl (by kernel_rfl)) rfl ?_
    exact ⟨_, hkE, by (with_reducible repeat (first | apply Kd.R_alloc | apply Kd.R_drewN | apply Kd.R_drew)); exact Kd.R_mono (Kd.R_far (p := ⟨gb262, 0, none⟩) (Kd.R_types HO_3.out BK262.out (by decide)) (fun _ hk => hk.2) (.slice Ao6 x3_1.length co6)) (fun _ hk => trivial), hkS HB⟩

end Go.Proofs.YtgjpahofopoflaaDoor.PFnFlOrder
