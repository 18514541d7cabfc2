-- Written by our own driver (wip/hand/hprint.py) over the seat's translation.
import Derived.Test.YtgjpahofopoflaaPFnDyTopsx0
import Derived.Test.YtgjpahofopoflaaPFnDyTopsx1
import Derived.Test.YtgjpahofopoflaaPFnDyTopsx2
import Derived.Test.YtgjpahofopoflaaPFnDyTopsx7
namespace Go.Proofs.Ytgjpahofopoflaa.PFnDyTops
open Go.RowKit Go.Proofs.YtgjpahofopoflaaW.PrintWords Go.Proofs.YtgjpahofopoflaaW.PrintLast Go.Proofs.YtgjpahofopoflaaW.PrintMore
attribute [local go_sem] max2_int min2_int max_two min_two max_three min_three max_four min_four   -- for this text's walks alone
set_option linter.unusedVariables false
set_option linter.unusedSimpArgs false

/-! ### spec_l4make: function 89 -/
def spec_l4make.f (k : Nat) (a0_0 : Bool) (l0_1 : List Int) (a1 : Int) : Option (Bool × List Int × Int) := if (l0_1.length : Int) = 0 then (some (false, ([] : List Int), 0)) else ((spec_l2trail.f k l0_1).bind fun t264 => ((spec_l2shr.f k l0_1 t264).bind fun t265 => ((spec_l3make.f k a0_0 t265).bind fun bt268 => (some (bt268.1, bt268.2, wrap64 (a1 + t264))))))
theorem spec_l4make.mono : ∀ a0 a1 a2 k, LeO (spec_l4make.f k a0 a1 a2) (spec_l4make.f (k + 1) a0 a1 a2) := by
 intro a0 a1 a2 k
 unfold spec_l4make.f
 repeat' first
   | (with_reducible exact spec_l2shr.mono _ _ _)
   | (with_reducible exact spec_l2trail.mono _ _)
   | (with_reducible exact spec_l3make.mono _ _ _)
   | (with_reducible exact LeO.refl _)
   | (with_reducible exact LeO.none _)
   | (with_reducible refine LeO.ite ?_ ?_)
   | (with_reducible refine LeO.bind ?_ (fun _ => ?_))
   | exact spec_l2shr.mono _ _ _
   | exact spec_l2trail.mono _ _
   | exact spec_l3make.mono _ _ _
   | exact LeO.none _
   | refine LeO.ite ?_ ?_
   | refine LeO.bind ?_ (fun _ => ?_)
def spec_l4make.T4 : Bool × List (List Nat × List Nat) := (true, [([], []), ([0], [0]), ([], []), ([2], [2]), ([], []), ([3, 4], [3, 4]), ([1, 5, 5], [1, 5]), ([], []), ([], []), ([7, 8], [7, 8]), ([6, 9], [6, 9]), ([10, 6, 0, 1, 2, 3, 4, 5, 6, 7, 8, 9, 10], [10])])
def spec_l4make.B4 : List Nat := [0, 1, 0, 4, 0, 28, 63, 0, 0, 384, 1023, 2047]
theorem spec_l4make.tab4 : rtab .any (opsOf Try.f89 4) = spec_l4make.T4 := by kernel_rfl
theorem spec_l4make.bits4 : waitsOk spec_l4make.T4.2 spec_l4make.B4 = true := by kernel_rfl
set_option maxHeartbeats 8000000 in
set_option maxRecDepth 100000 in
theorem spec_l4make.calls (k : Nat) (a0_0 : Bool) (A0_1 : Option Addr) (c0_1 : Nat) (l0_1 : List Int) (a1 : Int) (r1 : Bool) (r2 : List Int) (r3 : Int) (w : World) (hr0_1 : Kd.C (Kd.int .i64) w A0_1 l0_1.length l0_1) (hc0_1 : l0_1.length ≤ c0_1) (h : spec_l4make.f k a0_0 l0_1 a1 = some (r1, r2, r3)) :
  Calls Try.prog 89 #[.agg #[.bool a0_0, .slice A0_1 l0_1.length c0_1], .int .i64 a1] w fun e w' => ∃ v1_ : Value, e = .returned (.agg #[.bool r1, v1_, .int .i64 r3]) ∧ Kd.R (Kd.int .i64) 3 w' w.heap.size (fun _ => True) v1_ r2 ∧ Below w.heap.size w w' := by
 have hu40 := Try.underlying40
 have hu42 := Try.underlying42
 have hu38 := Try.underlying38
 have HR0_1 := Aside0.mk hr0_1
 have HC0_1 := Aside0.mk hc0_1
 clear hr0_1 hc0_1
 have HB := Aside0.mk (Below.refl w.heap.size w)
 have H : (if (l0_1.length : Int) = 0 then (some (false, ([] : List Int), 0)) else ((spec_l2trail.f k l0_1).bind fun t264 => ((spec_l2shr.f k l0_1 t264).bind fun t265 => ((spec_l3make.f k a0_0 t265).bind fun bt268 => (some (bt268.1, bt268.2, wrap64 (a1 + t264))))))) = some (r1, r2, r3) := h
 clear h
 by_cases c3 : (l0_1.length : Int) = 0
 ·rw [if_pos c3] at H
  have c3b0 : ((l0_1.length : Int) == 0) = true := beq_iff_eq.mpr c3
  have c3b1 : ((l0_1.length : Int) != 0) = false := bne_eq_false_iff_eq.mpr c3
  clear c3
  simp only [Option.some.injEq, Prod.mk.injEq] at H
  obtain ⟨rfl, rfl, rfl⟩ := H
  go_enter Try.func89, Try.ntmps89
  go_wp2_with (first | ((with_reducible refine gate_dst (N := 2) rfl ?_); refine box_event ?hg (N := 2) ?hd (cs := #[.bool a0_0, .slice A0_1 l0_1.length c0_1]) (t := 40) ?hr ?_; (case hd => rfl); (case hg => rfl); (case hr => first | (go_simp; done) | (go_simp; rfl)); intro gb262 hg w4 hbox hb; have n0_ := hkU HB hb; have n1_ := Aside0.mk (hbox); have n2_ := hkG hg (hkS HB); have n3_ := hkG hg (hkS HB); clear HB; have HB := n0_; have BK262 := n1_; have GW262 := n2_; have GE262 := n3_; clear n0_ n1_ n2_ n3_; clear hb hbox hg) | ((with_reducible refine gate_dst (N := 4) rfl ?_); refine box_event ?hg (N := 4) ?hd (cs := #[.bool false, .slice none 0 0, .int .i64 0]) (t := 42) ?hr ?_; (case hd => rfl); (case hg => rfl); (case hr => first | (go_simp; done) | (go_simp; rfl)); intro gb263 hg w5 hbox hb; have n0_ := hkBb BK262 hb; have n1_ := hkU HB hb; have n2_ := Aside0.mk (hbox); have n3_ := hkG hg (hkS HB); have n4_ := hkG hg (hkS HB); have n5_ := hkN hg BK262; have n6_ := hkM hg BK262; clear BK262; clear HB; have BK262 := n0_; have HB := n1_; have BK263 := n2_; have GW263 := n3_; have GE263 := n4_; have NB262_263 := n5_; have NB263_262 := n6_; clear n0_ n1_ n2_ n3_ n4_ n5_ n6_; clear hb hbox hg; have hnb6 := NB262_263.out; have hnc6 := NB263_262.out; have hcz7_0 : w5.cell? ⟨gb262, 0, none⟩ = some (.bool a0_0) := (blk_cell BK262.out 0).trans rfl; have hcz7_1 : w5.cell? ⟨gb262, 1, none⟩ = some (.slice A0_1 l0_1.length c0_1) := (blk_cell BK262.out 1).trans rfl; have hfz7_0 := blk_frozen BK262.out 0; have hfz7_1 := blk_frozen BK262.out 1; have hcz8_0 : w5.cell? ⟨gb263, 0, none⟩ = some (.bool false) := (blk_cell BK263.out 0).trans rfl; have hcz8_1 : w5.cell? ⟨gb263, 1, none⟩ = some (.slice none 0 0) := (blk_cell BK263.out 1).trans rfl; have hcz8_2 : w5.cell? ⟨gb263, 2, none⟩ = some (.int .i64 0) := (blk_cell BK263.out 2).trans rfl; have hfz8_0 := blk_frozen BK263.out 0; have hfz8_1 := blk_frozen BK263.out 1; have hfz8_2 := blk_frozen BK263.out 2))
  refine bodyPost_ret (results_cell_row rfl _ _ gb263 42 #[.bool false, .slice none 0 0, .int .i64 0] (0, 0) _ rfl (by refine hkz ?_; refine blk_put (cs := #[.bool false, .slice none 0 0, .int .i64 0]) ?_ 2 _ rfl; refine hkz ?_; refine blk_put (cs := #[.bool false, .slice none 0 0, .int .i64 0]) ?_ 1 _ rfl; refine hkz ?_; refine blk_put (cs := #[.bool false, .slice none 0 0, .int .i64 0]) ?_ 0 _ rfl; refine hkz ?_; exact BK263.out) Try.underlying42 rfl (by kernel_rfl)) rfl ?_
  exact ⟨_, hkE, by first | exact Kd.R_nil _ _ _ _ _ | exact Kd.N_nil _ _ _ _ _ | exact Kd.V_nil _ _ _ _ _ | exact Kd.Q_nil _ _ _ _ _ | exact Kd.S_nil _ _ _ _ _, hkS HB⟩
 ·rw [if_neg c3] at H
  have c3b0 : ((l0_1.length : Int) == 0) = false := beq_eq_false_iff_ne.mpr c3
  have c3b1 : ((l0_1.length : Int) != 0) = true := bne_iff_ne.mpr c3
  have c3b2 : ¬ (l0_1 = []) := fun h_ => c3 (by rw [h_]; rfl)
  replace H := Option.bind_eq_some_iff.mp H
  obtain ⟨t264, A90, H⟩ := H
  replace H : ((spec_l2shr.f k l0_1 t264).bind fun t265 => ((spec_l3make.f k a0_0 t265).bind fun bt268 => (some (bt268.1, bt268.2, wrap64 (a1 + t264))))) = some (r1, r2, r3) := H
  have A9 := Aside0.mk A90
  clear A90
  replace H := Option.bind_eq_some_iff.mp H
  obtain ⟨t265, A100, H⟩ := H
  replace H : ((spec_l3make.f k a0_0 t265).bind fun bt268 => (some (bt268.1, bt268.2, wrap64 (a1 + t264)))) = some (r1, r2, r3) := H
  have A10 := Aside0.mk A100
  clear A100
  replace H := Option.bind_eq_some_iff.mp H
  obtain ⟨⟨t268, t269⟩, A110, H⟩ := H
  replace H : (some (t268, t269, wrap64 (a1 + t264))) = some (r1, r2, r3) := H
  have A11 := Aside0.mk A110
  clear A110
  simp only [Option.some.injEq, Prod.mk.injEq] at H
  obtain ⟨rfl, rfl, rfl⟩ := H
  go_enter Try.func89, Try.ntmps89
  try go_wp2_with (first | ((with_reducible refine gate_dst (N := 2) rfl ?_); refine box_event ?hg (N := 2) ?hd (cs := #[.bool a0_0, .slice A0_1 l0_1.length c0_1]) (t := 40) ?hr ?_; (case hd => rfl); (case hg => rfl); (case hr => first | (go_simp; done) | (go_simp; rfl)); intro gb262 hg w12 hbox hb; have n0_ := hkU HB hb; have n1_ := Aside0.mk (hbox); have n2_ := hkG hg (hkS HB); have n3_ := hkG hg (hkS HB); clear HB; have HB := n0_; have BK262 := n1_; have GW262 := n2_; have GE262 := n3_; clear n0_ n1_ n2_ n3_; clear hb hbox hg) | ((with_reducible refine gate_dst (N := 4) rfl ?_); refine box_event ?hg (N := 4) ?hd (cs := #[.bool false, .slice none 0 0, .int .i64 0]) (t := 42) ?hr ?_; (case hd => rfl); (case hg => rfl); (case hr => first | (go_simp; done) | (go_simp; rfl)); intro gb263 hg w13 hbox hb; have n0_ := hkBb BK262 hb; have n1_ := hkU HB hb; have n2_ := Aside0.mk (hbox); have n3_ := hkG hg (hkS HB); have n4_ := hkG hg (hkS HB); have n5_ := hkN hg BK262; have n6_ := hkM hg BK262; clear BK262; clear HB; have BK262 := n0_; have HB := n1_; have BK263 := n2_; have GW263 := n3_; have GE263 := n4_; have NB262_263 := n5_; have NB263_262 := n6_; clear n0_ n1_ n2_ n3_ n4_ n5_ n6_; clear hb hbox hg; have hnb14 := NB262_263.out; have hnc14 := NB263_262.out; have hcz15_0 : w13.cell? ⟨gb262, 0, none⟩ = some (.bool a0_0) := (blk_cell BK262.out 0).trans rfl; have hcz15_1 : w13.cell? ⟨gb262, 1, none⟩ = some (.slice A0_1 l0_1.length c0_1) := (blk_cell BK262.out 1).trans rfl; have hfz15_0 := blk_frozen BK262.out 0; have hfz15_1 := blk_frozen BK262.out 1) | ((with_reducible refine gate_callee (f := 128) rfl ?_); refine goesL_ (some 14) rfl rfl Try.func128 (by kernel_rfl) rfl #[.agg #[.slice A0_1 l0_1.length c0_1]] rfl hkL ?_; (with_reducible refine (spec_l2trail.calls k _ _ l0_1 t264 _ ?side1 ?side2 A9.out).mono ?_); (case side1 => exact hkC ((Kd.C_below HR0_1.out HB.out))); (case side2 => exact HC0_1.out); rintro e w16 ⟨rfl, hb⟩; refine ⟨_, rfl, ?_⟩; have n0_ := hkBb BK262 hb; have n1_ := hkBb BK263 hb; have n2_ := hkU HB hb; clear BK262; clear BK263; clear HB; have BK262 := n0_; have BK263 := n1_; have HB := n2_; clear n0_ n1_ n2_; (try clear hb); (try clear hb2); (try clear hk); (try clear hi)))
  have n0_ := Aside0.mk (blk_drew BK262.out)
  have n1_ := Aside0.mk (blk_drew BK263.out)
  have n2_ := Aside0.mk (below_drew1 HB.out)
  clear BK262
  clear BK263
  clear HB
  have BK262 := n0_
  have BK263 := n1_
  have HB := n2_
  clear n0_ n1_ n2_
  refine start_ (n := 12) (S := fun w' => w'.cell? ⟨gb262, 0, none⟩ = some (.bool a0_0) ∧ w'.cell? ⟨gb262, 1, none⟩ = some (.slice A0_1 l0_1.length c0_1)) (ds := []) #[false, false, false, false, false, false, false, false, false, false, false, false] (by kernel_rfl) rfl rfl ⟨(blk_cell BK262.out 0).trans rfl, (blk_cell BK262.out 1).trans rfl⟩ (fun hHeld => ?_); refine with_tabW spec_l4make.tab4 spec_l4make.bits4 (fun HT_ HW_ => ?_)
  generalize w16.drew = w17 at BK262 BK263 HB hHeld ⊢
  refine pure_ (i := 0) (N := some 15) (v := ?_) (a' := ?_) #[true, false, false, false, false, false, false, false, false, false, false, false] rfl rfl (any_of HT_.out (by kernel_rfl)) (fun _ _ _ h => h) (Or.inl ⟨by rfl, ?_⟩) ?_ ?_
  rotate_left
  ·intro w'
   go_simp
   with_reducible rfl
  rotate_left
  ·simp only [Act.put, List.setIfInBounds_toArray, List.set_cons_zero, List.set_cons_succ, i64_w, i32_w]
   rfl
  refine pure_ (i := 2) (N := some 17) (v := ?_) (a' := ?_) #[true, false, true, false, false, false, false, false, false, false, false, false] rfl rfl (any_of HT_.out (by kernel_rfl)) (fun _ _ _ h => h) (Or.inl ⟨by rfl, ?_⟩) ?_ ?_
  rotate_left
  ·intro w'
   go_simp
   with_reducible rfl
  rotate_left
  ·simp only [Act.put, List.setIfInBounds_toArray, List.set_cons_zero, List.set_cons_succ, i64_w, i32_w]
   rfl
  refine pure_ (i := 4) (N := some 19) (v := ?_) (a' := ?_) #[true, false, true, false, true, false, false, false, false, false, false, false] rfl rfl (any_of HT_.out (by kernel_rfl)) (fun _ _ _ h => h) (Or.inl ⟨by rfl, ?_⟩) ?_ ?_
  rotate_left
  ·intro w'
   go_simp
   with_reducible rfl
  rotate_left
  ·simp only [Act.put, List.setIfInBounds_toArray, List.set_cons_zero, List.set_cons_succ, i64_w, i32_w]
   rfl
  refine pure_ (i := 7) (N := some 22) (v := ?_) (a' := ?_) #[true, false, true, false, true, false, false, true, false, false, false, false] rfl rfl (any_of HT_.out (by kernel_rfl)) (fun _ _ _ h => h) (Or.inl ⟨by rfl, ?_⟩) ?_ ?_
  rotate_left
  ·intro w'
   go_simp
   with_reducible rfl
  rotate_left
  ·simp only [Act.put, List.setIfInBounds_toArray, List.set_cons_zero, List.set_cons_succ, i64_w, i32_w]
   rfl
  refine pure_ (i := 8) (N := some 23) (v := ?_) (a' := ?_) #[true, false, true, false, true, false, false, true, true, false, false, false] rfl rfl (any_of HT_.out (by kernel_rfl)) (fun _ _ _ h => h) (Or.inl ⟨by rfl, ?_⟩) ?_ ?_
  rotate_left
  ·intro w'
   go_simp
   with_reducible rfl
  rotate_left
  ·simp only [Act.put, List.setIfInBounds_toArray, List.set_cons_zero, List.set_cons_succ, i64_w, i32_w]
   rfl
  refine pure_ (i := 9) (N := some 24) (v := ?_) (a' := ?_) #[true, false, true, false, true, false, false, true, true, true, false, false] rfl rfl (any_of HT_.out (by kernel_rfl)) (fun _ _ _ h => h) (Or.inl ⟨by rfl, ?_⟩) ?_ ?_
  rotate_left
  ·intro w'
   go_simp
   with_reducible rfl
  rotate_left
  ·simp only [Act.put, List.setIfInBounds_toArray, List.set_cons_zero, List.set_cons_succ, i64_w, i32_w]
   rfl
  refine take_ (i := 1) (N := some 16) (v := ?_) (a' := ?_) #[true, true, true, false, true, false, false, true, true, true, false, false] rfl rfl (take_ofW HT_.out HW_.out (by kernel_rfl)) (fun _ _ _ h => h) (Or.inl ⟨by rfl, ?_⟩) hHeld ?_ ?_
  rotate_left
  ·rintro w' ⟨s0, s1⟩
   go_simp
   with_reducible rfl
  rotate_left
  ·simp only [Act.put, List.setIfInBounds_toArray, List.set_cons_zero, List.set_cons_succ, i64_w, i32_w]
   rfl
  refine take_ (i := 3) (N := some 18) (v := ?_) (a' := ?_) #[true, true, true, true, true, false, false, true, true, true, false, false] rfl rfl (take_ofW HT_.out HW_.out (by kernel_rfl)) (fun _ _ _ h => h) (Or.inl ⟨by rfl, ?_⟩) hHeld ?_ ?_
  rotate_left
  ·rintro w' ⟨s0, s1⟩
   go_simp
   with_reducible rfl
  rotate_left
  ·simp only [Act.put, List.setIfInBounds_toArray, List.set_cons_zero, List.set_cons_succ, i64_w, i32_w]
   rfl
  refine one_ (i := 5) (N := some 20) #[true, true, true, true, true, true, false, true, true, true, false, false] rfl rfl (one_of HT_.out (by kernel_rfl)) (by decide) (fun K hK => ?_)
  refine goes_ Try.func129 (by kernel_rfl) rfl #[.agg #[.slice A0_1 l0_1.length c0_1], .int .i64 t264] (by rfl) rfl rfl hkL ?_
  with_reducible refine (spec_l2shr.calls k _ _ l0_1 t264 t265 _ ?side1 ?side2 A10.out).mono ?_
  (case side1 => exact hkC ((Kd.C_below HR0_1.out HB.out)))
  (case side2 => exact HC0_1.out)
  rintro e w18 ⟨v266, rfl, ho0, hb⟩
  refine ⟨_, rfl, ?_⟩
  have n0_ := Aside0.mk (Kd.R_lower ho0 (below_size (hkS HB)))
  have n1_ := hkBb BK262 hb
  have n2_ := hkBb BK263 hb
  have n3_ := hkU HB hb
  clear BK262
  clear BK263
  clear HB
  have HO267 := n0_
  have BK262 := n1_
  have BK263 := n2_
  have HB := n3_
  clear n0_ n1_ n2_ n3_
  (try clear hb)
  (try clear hb2)
  (try clear hk)
  (try clear hi)
  (try clear ho0)
  obtain ⟨Ao19, co19, eo19⟩ := Kd.R_slice HO267.out
  (first | subst eo19 | (injection eo19 with f1_ f2_ f3_; have f4_ := f1_.symm; have f5_ := f3_.symm; clear f1_ f2_ f3_; subst f4_; subst f5_))
  refine hK.out _ _ ⟨(blk_cell BK262.out 0).trans rfl, (blk_cell BK262.out 1).trans rfl⟩ (fun hHeld => ?_)
  clear hK K
  refine norm_ (a' := ?_) ?_ ?_
  rotate_left
  ·show Act.put _ (some 20) _ = _
   simp only [Act.put, List.setIfInBounds_toArray, List.set_cons_zero, List.set_cons_succ, i64_w, i32_w]
   rfl
  refine one_ (i := 6) (N := some 21) #[true, true, true, true, true, true, true, true, true, true, false, false] rfl rfl (one_of HT_.out (by kernel_rfl)) (by decide) (fun K hK => ?_)
  refine goes_ Try.func90 (by kernel_rfl) rfl #[.bool a0_0, .agg #[.slice Ao19 t265.length co19]] (by rfl) rfl rfl hkL ?_
  with_reducible refine (spec_l3make.calls k a0_0 _ _ t265 t268 t269 _ ?side1 ?side2 A11.out).mono ?_
  (case side1 => exact hkC ((Kd.R_reads' HO267.out).2.2))
  (case side2 => exact (Kd.R_reads' HO267.out).2.1)
  rintro e w20 ⟨v270, rfl, ho0, hb⟩
  refine ⟨_, rfl, ?_⟩
  have n0_ := Aside0.mk (Kd.R_elder' (hkR HO267) (Kd.R_base ho0) hb)
  have n1_ := Aside0.mk (Kd.R_lower (Kd.R_new' ho0 (Kd.R_lt (hkR HO267))) (below_size (hkS HB)))
  have n2_ := hkBb BK262 hb
  have n3_ := hkBb BK263 hb
  have n4_ := hkU HB hb
  clear HO267
  clear BK262
  clear BK263
  clear HB
  have HO267 := n0_
  have HO271 := n1_
  have BK262 := n2_
  have BK263 := n3_
  have HB := n4_
  clear n0_ n1_ n2_ n3_ n4_
  (try clear hb)
  (try clear hb2)
  (try clear hk)
  (try clear hi)
  (try clear ho0)
  obtain ⟨Ao21, co21, eo21⟩ := Kd.R_slice HO271.out
  (first | subst eo21 | (injection eo21 with f1_ f2_ f3_; have f4_ := f1_.symm; have f5_ := f3_.symm; clear f1_ f2_ f3_; subst f4_; subst f5_))
  refine hK.out _ _ ⟨(blk_cell BK262.out 0).trans rfl, (blk_cell BK262.out 1).trans rfl⟩ (fun hHeld => ?_)
  clear hK K
  refine norm_ (a' := ?_) ?_ ?_
  rotate_left
  ·show Act.put _ (some 21) _ = _
   simp only [Act.put, List.setIfInBounds_toArray, List.set_cons_zero, List.set_cons_succ, i64_w, i32_w]
   rfl
  refine pure_ (i := 10) (N := some 25) (v := ?_) (a' := ?_) #[true, true, true, true, true, true, true, true, true, true, true, false] rfl rfl (any_of HT_.out (by kernel_rfl)) (fun _ _ _ h => h) (Or.inl ⟨by rfl, ?_⟩) ?_ ?_
  rotate_left
  ·intro w'
   go_simp
   with_reducible rfl
  rotate_left
  ·simp only [Act.put, List.setIfInBounds_toArray, List.set_cons_zero, List.set_cons_succ, i64_w, i32_w]
   rfl
  refine one_ (i := 11) (N := none) #[true, true, true, true, true, true, true, true, true, true, true, true] rfl rfl (one_of HT_.out (by kernel_rfl)) (by decide) (fun K hK => ?_)
  have hs22 : w20.cell? ⟨gb263, 0, none⟩ = some (.bool false) := (blk_cell BK263.out 0).trans rfl
  have hfs22 := blk_frozen BK263.out 0
  have hns22_0 := NB262_263.out
  have hms22_0 := NB263_262.out
  have hs23 : w20.cell? ⟨gb263, 1, none⟩ = some (.slice none 0 0) := (blk_cell BK263.out 1).trans rfl
  have hfs23 := blk_frozen BK263.out 1
  have hns23_0 := NB262_263.out
  have hms23_0 := NB263_262.out
  have hs24 : w20.cell? ⟨gb263, 2, none⟩ = some (.int .i64 0) := (blk_cell BK263.out 2).trans rfl
  have hfs24 := blk_frozen BK263.out 2
  have hns24_0 := NB262_263.out
  have hms24_0 := NB263_262.out
  refine skip_ (w1 := ?_) (by rfl) rfl ?_ ?_
  rotate_left
  ·go_simp
   rfl
  refine hK.out _ _ ⟨((cell_far (p := ⟨gb263, _, none⟩) NB262_263.out _).trans (((cell_far (p := ⟨gb263, _, none⟩) NB262_263.out _).trans (((cell_far (p := ⟨gb263, _, none⟩) NB262_263.out _).trans (hHeld.1)))))), ((cell_far (p := ⟨gb263, _, none⟩) NB262_263.out _).trans (((cell_far (p := ⟨gb263, _, none⟩) NB262_263.out _).trans (((cell_far (p := ⟨gb263, _, none⟩) NB262_263.out _).trans (hHeld.2))))))⟩ (fun hHeld => ?_)
  clear hK K
  refine done_ (done_of HT_.out (by kernel_rfl)) ?_
  try go_wp2
  refine bodyPost_ret (results_cell_row rfl _ _ gb263 42 #[.bool t268, .slice Ao21 t269.length co21, .int .i64 (wrap64 (a1 + t264))] (0, 0) _ rfl (by refine hkz ?_; refine blk_put (cs := #[.bool t268, .slice Ao21 t269.length co21, .int .i64 0]) ?_ 2 _ rfl; refine hkz ?_; refine blk_put (cs := #[.bool t268, .slice none 0 0, .int .i64 0]) ?_ 1 _ rfl; refine hkz ?_; refine blk_put (cs := #[.bool false, .slice none 0 0, .int .i64 0]) ?_ 0 _ rfl; refine hkz ?_; exact BK263.out) Try.underlying42 rfl (by kernel_rfl)) rfl ?_
  exact ⟨_, hkE, by (with_reducible repeat (first | apply Kd.R_alloc | apply Kd.R_drewN | apply Kd.R_drew)); exact Kd.R_mono (Kd.R_far (p := ⟨gb263, 2, none⟩) (Kd.R_far (p := ⟨gb263, 1, none⟩) (Kd.R_far (p := ⟨gb263, 0, none⟩) (Kd.R_types HO271.out BK263.out (by decide)) (fun _ hk => hk.2) (.bool t268)) (fun _ hk => hk.2) (.slice Ao21 t269.length co21)) (fun _ hk => hk.2) (.int .i64 (wrap64 (a1 + t264)))) (fun _ hk => trivial), hkS HB⟩

/-! ### spec_l4e: function 119 -/
def spec_l4e.f (a0 : Int) : Option (Bool) := if a0 ≥ (-12000) then (some (decide (a0 ≤ 12000))) else (some false)
set_option maxHeartbeats 8000000 in
set_option maxRecDepth 100000 in
theorem spec_l4e.calls (a0 : Int) (r : Bool) (w : World) (h : spec_l4e.f a0 = some r) :
  Calls Try.prog 119 #[.int .i64 a0] w fun e w' => e = .returned (.bool r) ∧ Drawn0 w w' := by
 have H : (if a0 ≥ (-12000) then (some (decide (a0 ≤ 12000))) else (some false)) = some r := h
 clear h
 by_cases c2 : a0 ≥ (-12000)
 ·rw [if_pos c2] at H
  have c2b0 : decide ((-12000) ≤ a0) = true := decide_eq_true c2
  clear c2
  obtain rfl := Option.some.inj H
  go_enter Try.func119, Try.ntmps119
  go_wp2
  go_ret
  exact ⟨by first | rfl | (simp; done) | (simp [*]; done), by repeat (first | exact Drawn0.refl _ | apply Drawn0.step)⟩
 ·rw [if_neg c2] at H
  have c2b0 : decide ((-12000) ≤ a0) = false := decide_eq_false c2
  clear c2
  obtain rfl := Option.some.inj H
  go_enter Try.func119, Try.ntmps119
  go_wp2
  go_ret
  exact ⟨by first | rfl | (simp; done) | (simp [*]; done), by repeat (first | exact Drawn0.refl _ | apply Drawn0.step)⟩

/-! ### spec_l4fits: function 120 -/
def spec_l4fits.f (k : Nat) (a0_0 : Bool) (l0_1 : List Int) (a0_2 : Int) : Option (Bool × List Int × Int × Bool) := (spec_DyOk.f k a0_0 l0_1 a0_2).bind fun t274 => (if t274 = true then (some (a0_0, l0_1, a0_2, true)) else (some (false, ([] : List Int), 0, false)))
theorem spec_l4fits.mono : ∀ a0 a1 a2 k, LeO (spec_l4fits.f k a0 a1 a2) (spec_l4fits.f (k + 1) a0 a1 a2) := by
 intro a0 a1 a2 k
 unfold spec_l4fits.f
 repeat' first
   | (with_reducible exact spec_DyOk.mono _ _ _ _)
   | (with_reducible exact LeO.refl _)
   | (with_reducible exact LeO.none _)
   | (with_reducible refine LeO.ite ?_ ?_)
   | (with_reducible refine LeO.bind ?_ (fun _ => ?_))
   | exact spec_DyOk.mono _ _ _ _
   | exact LeO.none _
   | refine LeO.ite ?_ ?_
   | refine LeO.bind ?_ (fun _ => ?_)
set_option maxHeartbeats 8000000 in
set_option maxRecDepth 100000 in
theorem spec_l4fits.calls (k : Nat) (a0_0 : Bool) (P0_1_ : Nat → Prop) (u9000_ : Value) (l0_1 : List Int) (a0_2 : Int) (r1 : Bool) (r2 : List Int) (r3 : Int) (r4 : Bool) (w0 w : World) (hB : Below w0.heap.size w0 w) (ho0_1 : Kd.R (Kd.int .i64) 3 w w0.heap.size P0_1_ u9000_ l0_1) (h : spec_l4fits.f k a0_0 l0_1 a0_2 = some (r1, r2, r3, r4)) :
  Calls Try.prog 120 #[.agg #[.bool a0_0, u9000_, .int .i64 a0_2]] w fun e w' => ∃ v1_ : Value, e = .returned (.tuple #[.agg #[.bool r1, v1_, .int .i64 r3], .bool r4]) ∧ Kd.R (Kd.int .i64) 3 w' w0.heap.size (fun k_ => (P0_1_ k_ ∨ w.heap.size ≤ k_)) v1_ r2 ∧ Below w0.heap.size w0 w' ∧ Kept w w' (fun k_ => P0_1_ k_) := by
 have hu42 := Try.underlying42
 have HO0_1 := Aside0.mk (show Kd.R (Kd.int .i64) 3 w w0.heap.size (fun k_ => (P0_1_ k_ ∨ w.heap.size ≤ k_)) u9000_ l0_1 from Kd.R_mono ho0_1 (fun k_ hk => (.inl hk)))
 have HK := Aside0.mk (Kept.refl w (fun k_ => P0_1_ k_))
 have HW0 := Aside0.mk hB.size
 have HB := Aside0.mk hB
 clear hB
 have H : ((spec_DyOk.f k a0_0 l0_1 a0_2).bind fun t274 => (if t274 = true then (some (a0_0, l0_1, a0_2, true)) else (some (false, ([] : List Int), 0, false)))) = some (r1, r2, r3, r4) := h
 clear h
 replace H := Option.bind_eq_some_iff.mp H
 obtain ⟨t274, A20, H⟩ := H
 replace H : (if t274 = true then (some (a0_0, l0_1, a0_2, true)) else (some (false, ([] : List Int), 0, false))) = some (r1, r2, r3, r4) := H
 have A2 := Aside0.mk A20
 clear A20
 by_cases c3 : t274 = true
 ·subst c3
  have H1 : (some (a0_0, l0_1, a0_2, true)) = some (r1, r2, r3, r4) := by rw [if_pos rfl] at H; exact H
  clear H
  have H := H1
  clear H1
  simp only [Option.some.injEq, Prod.mk.injEq] at H
  obtain ⟨rfl, rfl, rfl, rfl⟩ := H
  obtain ⟨Ao4, co4, eo4⟩ := Kd.R_slice HO0_1.out
  subst eo4
  go_enter Try.func120, Try.ntmps120
  go_wp2_with (first | ((with_reducible refine gate_dst (N := 1) rfl ?_); refine box_event ?hg (N := 1) ?hd (cs := #[.bool a0_0, .slice Ao4 l0_1.length co4, .int .i64 a0_2]) (t := 42) ?hr ?_; (case hd => rfl); (case hg => rfl); (case hr => first | (go_simp; done) | (go_simp; rfl)); intro gb272 hg w5 hbox hb; have n0_ := hkRb HO0_1 hb; have n1_ := Aside0.mk (Kept.below (S := (fun k_ => P0_1_ k_)) (by repeat (first | (with_reducible first | exact HK.out | apply Kept.alloc | apply Kept.drewN | apply Kept.drew) | exact HK.out)) hb); have n2_ := hkU HB hb; have n3_ := Aside0.mk (hbox); have n4_ := Aside0.mk ((by rw [hg]; exact (by first | exact HK.out.1 | exact (show Kept w _ (fun k_ => P0_1_ k_) from by repeat (first | (with_reducible first | exact HK.out | apply Kept.alloc | apply Kept.drewN | apply Kept.drew) | exact HK.out)).1) : w.heap.size ≤ gb272)); have n5_ := hkG hg (hkS HB); clear HO0_1; clear HK; clear HB; have HO0_1 := n0_; have HK := n1_; have HB := n2_; have BK272 := n3_; have GW272 := n4_; have GE272 := n5_; clear n0_ n1_ n2_ n3_ n4_ n5_; clear hb hbox hg) | ((with_reducible refine gate_dst (N := 2) rfl ?_); refine box_event ?hg (N := 2) ?hd (cs := #[.bool false, .slice none 0 0, .int .i64 0]) (t := 42) ?hr ?_; (case hd => rfl); (case hg => rfl); (case hr => first | (go_simp; done) | (go_simp; rfl)); intro gb273 hg w6 hbox hb; have n0_ := hkRb HO0_1 hb; have n1_ := hkBb BK272 hb; have n2_ := Aside0.mk (Kept.below (S := (fun k_ => P0_1_ k_)) (by repeat (first | (with_reducible first | exact HK.out | apply Kept.alloc | apply Kept.drewN | apply Kept.drew | refine Kept.setCell ?_ (.inr GW272.out) _) | exact HK.out)) hb); have n3_ := hkU HB hb; have n4_ := Aside0.mk (hbox); have n5_ := Aside0.mk ((by rw [hg]; exact (by first | exact HK.out.1 | exact (show Kept w _ (fun k_ => P0_1_ k_) from by repeat (first | (with_reducible first | exact HK.out | apply Kept.alloc | apply Kept.drewN | apply Kept.drew | refine Kept.setCell ?_ (.inr GW272.out) _) | exact HK.out)).1) : w.heap.size ≤ gb273)); have n6_ := hkG hg (hkS HB); have n7_ := hkN hg BK272; have n8_ := hkM hg BK272; clear HO0_1; clear BK272; clear HK; clear HB; have HO0_1 := n0_; have BK272 := n1_; have HK := n2_; have HB := n3_; have BK273 := n4_; have GW273 := n5_; have GE273 := n6_; have NB272_273 := n7_; have NB273_272 := n8_; clear n0_ n1_ n2_ n3_ n4_ n5_ n6_ n7_ n8_; clear hb hbox hg; have hnb7 := NB272_273.out; have hnc7 := NB273_272.out; have hcz8_0 : w6.cell? ⟨gb272, 0, none⟩ = some (.bool a0_0) := (blk_cell BK272.out 0).trans rfl; have hcz8_1 : w6.cell? ⟨gb272, 1, none⟩ = some (.slice Ao4 l0_1.length co4) := (blk_cell BK272.out 1).trans rfl; have hcz8_2 : w6.cell? ⟨gb272, 2, none⟩ = some (.int .i64 a0_2) := (blk_cell BK272.out 2).trans rfl; have hfz8_0 := blk_frozen BK272.out 0; have hfz8_1 := blk_frozen BK272.out 1; have hfz8_2 := blk_frozen BK272.out 2) | ((with_reducible refine gate_callee (f := 32) rfl ?_); refine goesL_ (some 5) rfl rfl Try.func32 (by kernel_rfl) rfl #[.agg #[.bool a0_0, .slice Ao4 l0_1.length co4, .int .i64 a0_2]] rfl hkL ?_; (with_reducible refine (spec_DyOk.calls k a0_0 _ _ l0_1 a0_2 true _ ?side1 ?side2 A2.out).mono ?_); (case side1 => exact hkC ((Kd.R_reads' HO0_1.out).2.2)); (case side2 => exact (Kd.R_reads' HO0_1.out).2.1); rintro e w9 ⟨rfl, hb⟩; refine ⟨_, rfl, ?_⟩; have n0_ := hkRb HO0_1 hb; have n1_ := hkBb BK272 hb; have n2_ := hkBb BK273 hb; have n3_ := Aside0.mk (Kept.below (S := (fun k_ => P0_1_ k_)) (by repeat (first | (with_reducible first | exact HK.out | apply Kept.alloc | apply Kept.drewN | apply Kept.drew | refine Kept.setCell ?_ (.inr GW272.out) _ | refine Kept.setCell ?_ (.inr GW273.out) _) | exact HK.out)) hb); have n4_ := hkU HB hb; clear HO0_1; clear BK272; clear BK273; clear HK; clear HB; have HO0_1 := n0_; have BK272 := n1_; have BK273 := n2_; have HK := n3_; have HB := n4_; clear n0_ n1_ n2_ n3_ n4_; (try clear hb); (try clear hb2); (try clear hk); (try clear hi); have hcz10_0 : w9.cell? ⟨gb272, 0, none⟩ = some (.bool a0_0) := (blk_cell BK272.out 0).trans rfl; have hcz10_1 : w9.cell? ⟨gb272, 1, none⟩ = some (.slice Ao4 l0_1.length co4) := (blk_cell BK272.out 1).trans rfl; have hcz10_2 : w9.cell? ⟨gb272, 2, none⟩ = some (.int .i64 a0_2) := (blk_cell BK272.out 2).trans rfl; have hfz10_0 := blk_frozen BK272.out 0; have hfz10_1 := blk_frozen BK272.out 1; have hfz10_2 := blk_frozen BK272.out 2; have hcz11_0 : w9.cell? ⟨gb273, 0, none⟩ = some (.bool false) := (blk_cell BK273.out 0).trans rfl; have hcz11_1 : w9.cell? ⟨gb273, 1, none⟩ = some (.slice none 0 0) := (blk_cell BK273.out 1).trans rfl; have hcz11_2 : w9.cell? ⟨gb273, 2, none⟩ = some (.int .i64 0) := (blk_cell BK273.out 2).trans rfl; have hfz11_0 := blk_frozen BK273.out 0; have hfz11_1 := blk_frozen BK273.out 1; have hfz11_2 := blk_frozen BK273.out 2))
  refine bodyPost_ret (results_ct rfl _ _ gb273 42 #[.bool a0_0, .slice Ao4 l0_1.length co4, .int .i64 a0_2] (0, 0) _ rfl (by refine hkz ?_; refine blk_put (cs := #[.bool a0_0, .slice Ao4 l0_1.length co4, .int .i64 0]) ?_ 2 _ rfl; refine hkz ?_; refine blk_put (cs := #[.bool a0_0, .slice none 0 0, .int .i64 0]) ?_ 1 _ rfl; refine hkz ?_; refine blk_put (cs := #[.bool false, .slice none 0 0, .int .i64 0]) ?_ 0 _ rfl; refine hkz ?_; exact BK273.out) Try.underlying42 rfl (by kernel_rfl)) rfl ?_
  exact ⟨_, hkE, by (with_reducible repeat (first | apply Kd.R_alloc | apply Kd.R_drewN | apply Kd.R_drew)); exact Kd.R_mono (Kd.R_far (p := ⟨gb273, 2, none⟩) (Kd.R_far (p := ⟨gb273, 1, none⟩) (Kd.R_far (p := ⟨gb273, 0, none⟩) (Kd.R_types HO0_1.out BK273.out (by decide)) (fun _ hk => hk.2) (.bool a0_0)) (fun _ hk => hk.2) (.slice Ao4 l0_1.length co4)) (fun _ hk => hk.2) (.int .i64 a0_2)) (fun _ hk => hk.1), hkS HB, by repeat (first | (with_reducible first | exact HK.out | apply Kept.alloc | apply Kept.drewN | apply Kept.drew | refine Kept.setCell ?_ (.inr GW272.out) _ | refine Kept.setCell ?_ (.inr GW273.out) _) | exact HK.out)⟩
 ·replace c3 := Bool.eq_false_iff.mpr c3
  subst c3
  have H1 : (some (false, ([] : List Int), 0, false)) = some (r1, r2, r3, r4) := by rw [if_neg (show ¬ (false = true) by decide)] at H; exact H
  clear H
  have H := H1
  clear H1
  simp only [Option.some.injEq, Prod.mk.injEq] at H
  obtain ⟨rfl, rfl, rfl, rfl⟩ := H
  obtain ⟨Ao12, co12, eo12⟩ := Kd.R_slice HO0_1.out
  subst eo12
  go_enter Try.func120, Try.ntmps120
  go_wp2_with (first | ((with_reducible refine gate_dst (N := 1) rfl ?_); refine box_event ?hg (N := 1) ?hd (cs := #[.bool a0_0, .slice Ao12 l0_1.length co12, .int .i64 a0_2]) (t := 42) ?hr ?_; (case hd => rfl); (case hg => rfl); (case hr => first | (go_simp; done) | (go_simp; rfl)); intro gb272 hg w13 hbox hb; have n0_ := hkRb HO0_1 hb; have n1_ := Aside0.mk (Kept.below (S := (fun k_ => P0_1_ k_)) (by repeat (first | (with_reducible first | exact HK.out | apply Kept.alloc | apply Kept.drewN | apply Kept.drew) | exact HK.out)) hb); have n2_ := hkU HB hb; have n3_ := Aside0.mk (hbox); have n4_ := Aside0.mk ((by rw [hg]; exact (by first | exact HK.out.1 | exact (show Kept w _ (fun k_ => P0_1_ k_) from by repeat (first | (with_reducible first | exact HK.out | apply Kept.alloc | apply Kept.drewN | apply Kept.drew) | exact HK.out)).1) : w.heap.size ≤ gb272)); have n5_ := hkG hg (hkS HB); clear HO0_1; clear HK; clear HB; have HO0_1 := n0_; have HK := n1_; have HB := n2_; have BK272 := n3_; have GW272 := n4_; have GE272 := n5_; clear n0_ n1_ n2_ n3_ n4_ n5_; clear hb hbox hg) | ((with_reducible refine gate_dst (N := 2) rfl ?_); refine box_event ?hg (N := 2) ?hd (cs := #[.bool false, .slice none 0 0, .int .i64 0]) (t := 42) ?hr ?_; (case hd => rfl); (case hg => rfl); (case hr => first | (go_simp; done) | (go_simp; rfl)); intro gb273 hg w14 hbox hb; have n0_ := hkRb HO0_1 hb; have n1_ := hkBb BK272 hb; have n2_ := Aside0.mk (Kept.below (S := (fun k_ => P0_1_ k_)) (by repeat (first | (with_reducible first | exact HK.out | apply Kept.alloc | apply Kept.drewN | apply Kept.drew | refine Kept.setCell ?_ (.inr GW272.out) _) | exact HK.out)) hb); have n3_ := hkU HB hb; have n4_ := Aside0.mk (hbox); have n5_ := Aside0.mk ((by rw [hg]; exact (by first | exact HK.out.1 | exact (show Kept w _ (fun k_ => P0_1_ k_) from by repeat (first | (with_reducible first | exact HK.out | apply Kept.alloc | apply Kept.drewN | apply Kept.drew | refine Kept.setCell ?_ (.inr GW272.out) _) | exact HK.out)).1) : w.heap.size ≤ gb273)); have n6_ := hkG hg (hkS HB); have n7_ := hkN hg BK272; have n8_ := hkM hg BK272; clear HO0_1; clear BK272; clear HK; clear HB; have HO0_1 := n0_; have BK272 := n1_; have HK := n2_; have HB := n3_; have BK273 := n4_; have GW273 := n5_; have GE273 := n6_; have NB272_273 := n7_; have NB273_272 := n8_; clear n0_ n1_ n2_ n3_ n4_ n5_ n6_ n7_ n8_; clear hb hbox hg; have hnb15 := NB272_273.out; have hnc15 := NB273_272.out; have hcz16_0 : w14.cell? ⟨gb272, 0, none⟩ = some (.bool a0_0) := (blk_cell BK272.out 0).trans rfl; have hcz16_1 : w14.cell? ⟨gb272, 1, none⟩ = some (.slice Ao12 l0_1.length co12) := (blk_cell BK272.out 1).trans rfl; have hcz16_2 : w14.cell? ⟨gb272, 2, none⟩ = some (.int .i64 a0_2) := (blk_cell BK272.out 2).trans rfl; have hfz16_0 := blk_frozen BK272.out 0; have hfz16_1 := blk_frozen BK272.out 1; have hfz16_2 := blk_frozen BK272.out 2) | ((with_reducible refine gate_callee (f := 32) rfl ?_); refine goesL_ (some 5) rfl rfl Try.func32 (by kernel_rfl) rfl #[.agg #[.bool a0_0, .slice Ao12 l0_1.length co12, .int .i64 a0_2]] rfl hkL ?_; (with_reducible refine (spec_DyOk.calls k a0_0 _ _ l0_1 a0_2 false _ ?side1 ?side2 A2.out).mono ?_); (case side1 => exact hkC ((Kd.R_reads' HO0_1.out).2.2)); (case side2 => exact (Kd.R_reads' HO0_1.out).2.1); rintro e w17 ⟨rfl, hb⟩; refine ⟨_, rfl, ?_⟩; have n0_ := hkRb HO0_1 hb; have n1_ := hkBb BK272 hb; have n2_ := hkBb BK273 hb; have n3_ := Aside0.mk (Kept.below (S := (fun k_ => P0_1_ k_)) (by repeat (first | (with_reducible first | exact HK.out | apply Kept.alloc | apply Kept.drewN | apply Kept.drew | refine Kept.setCell ?_ (.inr GW272.out) _ | refine Kept.setCell ?_ (.inr GW273.out) _) | exact HK.out)) hb); have n4_ := hkU HB hb; clear HO0_1; clear BK272; clear BK273; clear HK; clear HB; have HO0_1 := n0_; have BK272 := n1_; have BK273 := n2_; have HK := n3_; have HB := n4_; clear n0_ n1_ n2_ n3_ n4_; (try clear hb); (try clear hb2); (try clear hk); (try clear hi); have hcz18_0 : w17.cell? ⟨gb273, 0, none⟩ = some (.bool false) := (blk_cell BK273.out 0).trans rfl; have hcz18_1 : w17.cell? ⟨gb273, 1, none⟩ = some (.slice none 0 0) := (blk_cell BK273.out 1).trans rfl; have hcz18_2 : w17.cell? ⟨gb273, 2, none⟩ = some (.int .i64 0) := (blk_cell BK273.out 2).trans rfl; have hfz18_0 := blk_frozen BK273.out 0; have hfz18_1 := blk_frozen BK273.out 1; have hfz18_2 := blk_frozen BK273.out 2))
  refine bodyPost_ret (results_ct rfl _ _ gb273 42 #[.bool false, .slice none 0 0, .int .i64 0] (0, 0) _ rfl (by refine hkz ?_; refine blk_put (cs := #[.bool false, .slice none 0 0, .int .i64 0]) ?_ 2 _ rfl; refine hkz ?_; refine blk_put (cs := #[.bool false, .slice none 0 0, .int .i64 0]) ?_ 1 _ rfl; refine hkz ?_; refine blk_put (cs := #[.bool false, .slice none 0 0, .int .i64 0]) ?_ 0 _ rfl; refine hkz ?_; exact BK273.out) Try.underlying42 rfl (by kernel_rfl)) rfl ?_
  exact ⟨_, hkE, by first | exact Kd.R_nil _ _ _ _ _ | exact Kd.N_nil _ _ _ _ _ | exact Kd.V_nil _ _ _ _ _ | exact Kd.Q_nil _ _ _ _ _ | exact Kd.S_nil _ _ _ _ _, hkS HB, by repeat (first | (with_reducible first | exact HK.out | apply Kept.alloc | apply Kept.drewN | apply Kept.drew | refine Kept.setCell ?_ (.inr GW272.out) _ | refine Kept.setCell ?_ (.inr GW273.out) _) | exact HK.out)⟩

/-! ### spec_DyOf: function 74 -/
def spec_DyOf.j0 : Nat → Int → Bool → Bool → List Int → Option (Bool × List Int × Int × Bool)
 | 0, _, _, _, _ => none
 | k + 1, x1, x13, x276000, x276001 => if x13 = true then (some (false, ([] : List Int), 0, false)) else ((spec_l4make.f k x276000 x276001 x1).bind fun bt279 => ((spec_l4fits.f k bt279.1 bt279.2.1 bt279.2.2).bind fun bt284 => (some (bt284.1, bt284.2.1, bt284.2.2.1, bt284.2.2.2))))
def spec_DyOf.f (k : Nat) (a0_0 : Bool) (l0_1 : List Int) (a1 : Int) : Option (Bool × List Int × Int × Bool) := (spec_WholeOk.f k a0_0 l0_1).bind fun t277 => (if t277 = true then ((spec_l4e.f a1).bind fun t278 => (spec_DyOf.j0 k a1 (!t278) a0_0 l0_1)) else (spec_DyOf.j0 k a1 true a0_0 l0_1))
theorem spec_DyOf.mono_l : ∀ k, (∀ y0 y1 y2 y3, LeO (spec_DyOf.j0 k y0 y1 y2 y3) (spec_DyOf.j0 (k + 1) y0 y1 y2 y3))
 | 0 => fun _ _ _ _ r h => by simp [spec_DyOf.j0] at h
 | k + 1 => by
  have ih0 := spec_DyOf.mono_l k
  ·intro y0 y1 y2 y3
   unfold spec_DyOf.j0
   repeat' first
   | (with_reducible exact ih0 _ _ _ _)
   | (with_reducible exact spec_WholeOk.mono _ _ _)
   | (with_reducible exact spec_l4fits.mono _ _ _ _)
   | (with_reducible exact spec_l4make.mono _ _ _ _)
   | (with_reducible exact LeO.refl _)
   | (with_reducible exact LeO.none _)
   | (with_reducible refine LeO.ite ?_ ?_)
   | (with_reducible refine LeO.bind ?_ (fun _ => ?_))
   | exact ih0 _ _ _ _
   | exact spec_WholeOk.mono _ _ _
   | exact spec_l4fits.mono _ _ _ _
   | exact spec_l4make.mono _ _ _ _
   | exact LeO.none _
   | refine LeO.ite ?_ ?_
   | refine LeO.bind ?_ (fun _ => ?_)
theorem spec_DyOf.mono : ∀ a0 a1 a2 k, LeO (spec_DyOf.f k a0 a1 a2) (spec_DyOf.f (k + 1) a0 a1 a2) := by
 intro a0 a1 a2 k
 have ih0 := spec_DyOf.mono_l k
 unfold spec_DyOf.f
 repeat' first
   | (with_reducible exact ih0 _ _ _ _)
   | (with_reducible exact spec_WholeOk.mono _ _ _)
   | (with_reducible exact spec_l4fits.mono _ _ _ _)
   | (with_reducible exact spec_l4make.mono _ _ _ _)
   | (with_reducible exact LeO.refl _)
   | (with_reducible exact LeO.none _)
   | (with_reducible refine LeO.ite ?_ ?_)
   | (with_reducible refine LeO.bind ?_ (fun _ => ?_))
   | exact ih0 _ _ _ _
   | exact spec_WholeOk.mono _ _ _
   | exact spec_l4fits.mono _ _ _ _
   | exact spec_l4make.mono _ _ _ _
   | exact LeO.none _
   | refine LeO.ite ?_ ?_
   | refine LeO.bind ?_ (fun _ => ?_)
set_option maxHeartbeats 8000000 in
set_option maxRecDepth 100000 in
theorem spec_DyOf.calls (k : Nat) (a0_0 : Bool) (A0_1 : Option Addr) (c0_1 : Nat) (l0_1 : List Int) (a1 : Int) (r1 : Bool) (r2 : List Int) (r3 : Int) (r4 : Bool) (w : World) (hr0_1 : Kd.C (Kd.int .i64) w A0_1 l0_1.length l0_1) (hc0_1 : l0_1.length ≤ c0_1) (h : spec_DyOf.f k a0_0 l0_1 a1 = some (r1, r2, r3, r4)) :
  Calls Try.prog 74 #[.agg #[.bool a0_0, .slice A0_1 l0_1.length c0_1], .int .i64 a1] w fun e w' => ∃ v1_ : Value, e = .returned (.tuple #[.agg #[.bool r1, v1_, .int .i64 r3], .bool r4]) ∧ Kd.R (Kd.int .i64) 3 w' w.heap.size (fun _ => True) v1_ r2 ∧ Below w.heap.size w w' := by
 have hu40 := Try.underlying40
 have hu42 := Try.underlying42
 have HR0_1 := Aside0.mk hr0_1
 have HC0_1 := Aside0.mk hc0_1
 clear hr0_1 hc0_1
 have HB := Aside0.mk (Below.refl w.heap.size w)
 have H : ((spec_WholeOk.f k a0_0 l0_1).bind fun t277 => (if t277 = true then ((spec_l4e.f a1).bind fun t278 => (spec_DyOf.j0 k a1 (!t278) a0_0 l0_1)) else (spec_DyOf.j0 k a1 true a0_0 l0_1))) = some (r1, r2, r3, r4) := h
 clear h
 have HC3 := Aside0.mk H
 clear H
 go_enter Try.func74, Try.ntmps74
 go_upto_region 1 with (first | ((with_reducible refine gate_dst (N := 2) rfl ?_); refine box_event ?hg (N := 2) ?hd (cs := #[.bool a0_0, .slice A0_1 l0_1.length c0_1]) (t := 40) ?hr ?_; (case hd => rfl); (case hg => rfl); (case hr => first | (go_simp; done) | (go_simp; rfl)); intro gb275 hg w4 hbox hb; have n0_ := hkU HB hb; have n1_ := Aside0.mk (hbox); have n2_ := hkG hg (hkS HB); have n3_ := hkG hg (hkS HB); clear HB; have HB := n0_; have BK275 := n1_; have GW275 := n2_; have GE275 := n3_; clear n0_ n1_ n2_ n3_; clear hb hbox hg) | ((with_reducible refine gate_dst (N := 4) rfl ?_); refine box_event ?hg (N := 4) ?hd (cs := #[.bool false, .slice none 0 0, .int .i64 0]) (t := 42) ?hr ?_; (case hd => rfl); (case hg => rfl); (case hr => first | (go_simp; done) | (go_simp; rfl)); intro gb276 hg w5 hbox hb; have n0_ := hkBb BK275 hb; have n1_ := hkU HB hb; have n2_ := Aside0.mk (hbox); have n3_ := hkG hg (hkS HB); have n4_ := hkG hg (hkS HB); have n5_ := hkN hg BK275; have n6_ := hkM hg BK275; clear BK275; clear HB; have BK275 := n0_; have HB := n1_; have BK276 := n2_; have GW276 := n3_; have GE276 := n4_; have NB275_276 := n5_; have NB276_275 := n6_; clear n0_ n1_ n2_ n3_ n4_ n5_ n6_; clear hb hbox hg))
 (try simp only [Act.put, List.setIfInBounds_toArray, List.set_cons_zero, List.set_cons_succ])
 go_cut [13] (fun v13 wc => ∃ (kq : Nat) (x13_2 : Bool), v13 = .bool x13_2 ∧ Aside0 (spec_DyOf.j0 kq a1 x13_2 a0_0 l0_1 = some (r1, r2, r3, r4)) ∧ Aside0 (kq ≤ k) ∧ Aside0 (wc.heap[gb275]? = some (.cells #[.bool a0_0, (.slice A0_1 l0_1.length c0_1)] 40 (0, 0))) ∧ Aside0 (wc.heap[gb276]? = some (.cells #[.bool false, (.slice none 0 0), .int .i64 0] 42 (0, 0))) ∧ Aside0 (Below w.heap.size w wc))
 case first =>
  have H := HC3.out
  clear HC3
  replace H := Option.bind_eq_some_iff.mp H
  obtain ⟨t277, A60, H⟩ := H
  replace H : (if t277 = true then ((spec_l4e.f a1).bind fun t278 => (spec_DyOf.j0 k a1 (!t278) a0_0 l0_1)) else (spec_DyOf.j0 k a1 true a0_0 l0_1)) = some (r1, r2, r3, r4) := H
  have A6 := Aside0.mk A60
  clear A60
  by_cases c7 : t277 = true
  ·subst c7
   have H1 : ((spec_l4e.f a1).bind fun t278 => (spec_DyOf.j0 k a1 (!t278) a0_0 l0_1)) = some (r1, r2, r3, r4) := by rw [if_pos rfl] at H; exact H
   clear H
   have H := H1
   clear H1
   replace H := Option.bind_eq_some_iff.mp H
   obtain ⟨t278, A80, H⟩ := H
   replace H : (spec_DyOf.j0 k a1 (!t278) a0_0 l0_1) = some (r1, r2, r3, r4) := H
   have A8 := Aside0.mk A80
   clear A80
   have H' := Aside0.mk H
   clear H
   have hnb9 := NB275_276.out
   have hnc9 := NB276_275.out
   have hcz10_0 : w5.cell? ⟨gb275, 0, none⟩ = some (.bool a0_0) := (blk_cell BK275.out 0).trans rfl
   have hcz10_1 : w5.cell? ⟨gb275, 1, none⟩ = some (.slice A0_1 l0_1.length c0_1) := (blk_cell BK275.out 1).trans rfl
   have hfz10_0 := blk_frozen BK275.out 0
   have hfz10_1 := blk_frozen BK275.out 1
   go_wp2_with (first | ((with_reducible refine gate_callee (f := 72) rfl ?_); refine goesL_ (some 7) rfl rfl Try.func72 (by kernel_rfl) rfl #[.agg #[.bool a0_0, .slice A0_1 l0_1.length c0_1]] rfl hkL ?_; (with_reducible refine (spec_WholeOk.calls k a0_0 _ _ l0_1 true _ ?side1 ?side2 A6.out).mono ?_); (case side1 => exact hkC ((Kd.C_below HR0_1.out HB.out))); (case side2 => exact HC0_1.out); rintro e w11 ⟨rfl, hb⟩; refine ⟨_, rfl, ?_⟩; have n0_ := hkBb BK275 hb; have n1_ := hkBb BK276 hb; have n2_ := hkU HB hb; clear BK275; clear BK276; clear HB; have BK275 := n0_; have BK276 := n1_; have HB := n2_; clear n0_ n1_ n2_; (try clear hb); (try clear hb2); (try clear hk); (try clear hi)) | (go_at_call 119; (with_reducible refine (spec_l4e.calls a1 t278 _ A8.out).mono ?_); rintro e w' ⟨rfl, ⟨nd, rfl⟩⟩))
   go_meet
   case rel => exact ⟨_, (!t278), (by first | rfl | (simp; done) | (simp [*]; done)), H', ⟨by first | omega | exact Nat.le_refl _⟩, ⟨by refine hkz ?_; exact BK275.out⟩, ⟨by refine hkz ?_; exact BK276.out⟩, ⟨hkS HB⟩⟩
  ·replace c7 := Bool.eq_false_iff.mpr c7
   subst c7
   have H1 : (spec_DyOf.j0 k a1 true a0_0 l0_1) = some (r1, r2, r3, r4) := by rw [if_neg (show ¬ (false = true) by decide)] at H; exact H
   clear H
   have H := H1
   clear H1
   have H' := Aside0.mk H
   clear H
   have hnb12 := NB275_276.out
   have hnc12 := NB276_275.out
   have hcz13_0 : w5.cell? ⟨gb275, 0, none⟩ = some (.bool a0_0) := (blk_cell BK275.out 0).trans rfl
   have hcz13_1 : w5.cell? ⟨gb275, 1, none⟩ = some (.slice A0_1 l0_1.length c0_1) := (blk_cell BK275.out 1).trans rfl
   have hfz13_0 := blk_frozen BK275.out 0
   have hfz13_1 := blk_frozen BK275.out 1
   go_wp2_with (first | ((with_reducible refine gate_callee (f := 72) rfl ?_); refine goesL_ (some 7) rfl rfl Try.func72 (by kernel_rfl) rfl #[.agg #[.bool a0_0, .slice A0_1 l0_1.length c0_1]] rfl hkL ?_; (with_reducible refine (spec_WholeOk.calls k a0_0 _ _ l0_1 false _ ?side1 ?side2 A6.out).mono ?_); (case side1 => exact hkC ((Kd.C_below HR0_1.out HB.out))); (case side2 => exact HC0_1.out); rintro e w14 ⟨rfl, hb⟩; refine ⟨_, rfl, ?_⟩; have n0_ := hkBb BK275 hb; have n1_ := hkBb BK276 hb; have n2_ := hkU HB hb; clear BK275; clear BK276; clear HB; have BK275 := n0_; have BK276 := n1_; have HB := n2_; clear n0_ n1_ n2_; (try clear hb); (try clear hb2); (try clear hk); (try clear hi)))
   go_meet
   case rel => exact ⟨_, (true), (by first | rfl | (simp; done) | (simp [*]; done)), H', ⟨by first | omega | exact Nat.le_refl _⟩, ⟨by refine hkz ?_; exact BK275.out⟩, ⟨by refine hkz ?_; exact BK276.out⟩, ⟨hkS HB⟩⟩
 case rest =>
  clear HC3
  try clear c1
  try clear p2
  try clear c7
  try clear c9
  try clear c12
  try clear hcz10_0
  try clear hcz10_1
  try clear hcz13_0
  try clear hcz13_1
  try clear hfz10_0
  try clear hfz10_1
  try clear hfz13_0
  try clear hfz13_1
  obtain ⟨kq, x13_2, rfl, HA, HJ2, BK275, BK276, HB⟩ := hcut
  cases kq with
  | zero => exact absurd HA.out (by simp [spec_DyOf.j0])
  | succ kj2 =>
   have H := HA.out
   clear HA
   simp only [spec_DyOf.j0] at H
   by_cases c15 : x13_2 = true
   ·subst c15
    have H1 : (some (false, ([] : List Int), 0, false)) = some (r1, r2, r3, r4) := by rw [if_pos rfl] at H; exact H
    clear H
    have H := H1
    clear H1
    simp only [Option.some.injEq, Prod.mk.injEq] at H
    obtain ⟨rfl, rfl, rfl, rfl⟩ := H
    have hnb16 := NB276_275.out
    have hnc16 := NB275_276.out
    have hcz17_0 : wc.cell? ⟨gb276, 0, none⟩ = some (.bool false) := (blk_cell BK276.out 0).trans rfl
    have hcz17_1 : wc.cell? ⟨gb276, 1, none⟩ = some (.slice none 0 0) := (blk_cell BK276.out 1).trans rfl
    have hcz17_2 : wc.cell? ⟨gb276, 2, none⟩ = some (.int .i64 0) := (blk_cell BK276.out 2).trans rfl
    have hfz17_0 := blk_frozen BK276.out 0
    have hfz17_1 := blk_frozen BK276.out 1
    have hfz17_2 := blk_frozen BK276.out 2
    go_wp2
    refine bodyPost_ret (results_ct rfl _ _ gb276 42 #[.bool false, .slice none 0 0, .int .i64 0] (0, 0) _ rfl (by refine hkz ?_; refine blk_put (cs := #[.bool false, .slice none 0 0, .int .i64 0]) ?_ 2 _ rfl; refine hkz ?_; refine blk_put (cs := #[.bool false, .slice none 0 0, .int .i64 0]) ?_ 1 _ rfl; refine hkz ?_; refine blk_put (cs := #[.bool false, .slice none 0 0, .int .i64 0]) ?_ 0 _ rfl; refine hkz ?_; exact BK276.out) Try.underlying42 rfl (by kernel_rfl)) rfl ?_
    exact ⟨_, hkE, by first | exact Kd.R_nil _ _ _ _ _ | exact Kd.N_nil _ _ _ _ _ | exact Kd.V_nil _ _ _ _ _ | exact Kd.Q_nil _ _ _ _ _ | exact Kd.S_nil _ _ _ _ _, hkS HB⟩
   ·replace c15 := Bool.eq_false_iff.mpr c15
    subst c15
    have H1 : ((spec_l4make.f kj2 a0_0 l0_1 a1).bind fun bt279 => ((spec_l4fits.f kj2 bt279.1 bt279.2.1 bt279.2.2).bind fun bt284 => (some (bt284.1, bt284.2.1, bt284.2.2.1, bt284.2.2.2)))) = some (r1, r2, r3, r4) := by rw [if_neg (show ¬ (false = true) by decide)] at H; exact H
    clear H
    have H := H1
    clear H1
    replace H := Option.bind_eq_some_iff.mp H
    obtain ⟨⟨t279, t280, t283⟩, A180, H⟩ := H
    replace H : ((spec_l4fits.f kj2 t279 t280 t283).bind fun bt284 => (some (bt284.1, bt284.2.1, bt284.2.2.1, bt284.2.2.2))) = some (r1, r2, r3, r4) := H
    have A18 := Aside0.mk A180
    clear A180
    replace H := Option.bind_eq_some_iff.mp H
    obtain ⟨⟨t284, t285, t288, t289⟩, A190, H⟩ := H
    replace H : (some (t284, t285, t288, t289)) = some (r1, r2, r3, r4) := H
    have A19 := Aside0.mk A190
    clear A190
    simp only [Option.some.injEq, Prod.mk.injEq] at H
    obtain ⟨rfl, rfl, rfl, rfl⟩ := H
    have hnb20 := NB275_276.out
    have hnc20 := NB276_275.out
    have hcz21_0 : wc.cell? ⟨gb275, 0, none⟩ = some (.bool a0_0) := (blk_cell BK275.out 0).trans rfl
    have hcz21_1 : wc.cell? ⟨gb275, 1, none⟩ = some (.slice A0_1 l0_1.length c0_1) := (blk_cell BK275.out 1).trans rfl
    have hfz21_0 := blk_frozen BK275.out 0
    have hfz21_1 := blk_frozen BK275.out 1
    go_wp2_with (first | ((with_reducible refine gate_callee (f := 89) rfl ?_); refine goesL_ (some 17) rfl rfl Try.func89 (by kernel_rfl) rfl #[.agg #[.bool a0_0, .slice A0_1 l0_1.length c0_1], .int .i64 a1] rfl hkL ?_; (with_reducible refine (spec_l4make.calls kj2 a0_0 _ _ l0_1 a1 t279 t280 t283 _ ?side1 ?side2 A18.out).mono ?_); (case side1 => exact hkC ((Kd.C_below HR0_1.out HB.out))); (case side2 => exact HC0_1.out); rintro e w22 ⟨v281, rfl, ho0, hb⟩; refine ⟨_, rfl, ?_⟩; have n0_ := Aside0.mk (Kd.R_lower ho0 (below_size (hkS HB))); have n1_ := hkBb BK275 hb; have n2_ := hkBb BK276 hb; have n3_ := hkU HB hb; clear BK275; clear BK276; clear HB; have HO282 := n0_; have BK275 := n1_; have BK276 := n2_; have HB := n3_; clear n0_ n1_ n2_ n3_; (try clear hb); (try clear hb2); (try clear hk); (try clear hi); (try clear ho0); obtain ⟨Ao23, co23, eo23⟩ := Kd.R_slice HO282.out; subst eo23) | ((with_reducible refine gate_callee (f := 120) rfl ?_); refine goesL_ (some 18) rfl rfl Try.func120 (by kernel_rfl) rfl #[.agg #[.bool t279, .slice Ao23 t280.length co23, .int .i64 t283]] rfl hkL ?_; (with_reducible refine (spec_l4fits.calls kj2 t279 (fun k_ => some k_ = (.slice Ao23 t280.length co23 : Value).ownBlock) (.slice Ao23 t280.length co23) t280 t283 t284 t285 t288 t289 w _ ?side1 ?side2 A19.out).mono ?_); (case side1 => exact hkS HB); (case side2 => exact Kd.R_tight rfl HO282.out); rintro e w24 ⟨v286, rfl, ho0, hb, hkp⟩; refine ⟨_, rfl, ?_⟩; have n0_ := Aside0.mk (blk_kept (hkB BK275) hkp (fun hs_ => (fun e_ => (Kd.R_ne HO282.out BK275.out (by decide)) e_) hs_)); have n1_ := Aside0.mk (blk_kept (hkB BK276) hkp (fun hs_ => (fun e_ => (Kd.R_ne HO282.out BK276.out (by decide)) e_) hs_)); have n2_ := Aside0.mk (Kd.R_mono (ok' := fun k_ => True) ho0 (fun k_ hk_ => trivial)); have n3_ := Aside0.mk (hb); clear BK275; clear BK276; clear HB; clear HO282; have BK275 := n0_; have BK276 := n1_; have HO287 := n2_; have HB := n3_; clear n0_ n1_ n2_ n3_; (try clear hb); (try clear hkp); (try clear ho0); have hcz25_0 : w24.cell? ⟨gb276, 0, none⟩ = some (.bool false) := (blk_cell BK276.out 0).trans rfl; have hcz25_1 : w24.cell? ⟨gb276, 1, none⟩ = some (.slice none 0 0) := (blk_cell BK276.out 1).trans rfl; have hcz25_2 : w24.cell? ⟨gb276, 2, none⟩ = some (.int .i64 0) := (blk_cell BK276.out 2).trans rfl; have hfz25_0 := blk_frozen BK276.out 0; have hfz25_1 := blk_frozen BK276.out 1; have hfz25_2 := blk_frozen BK276.out 2; obtain ⟨Ao26, co26, eo26⟩ := Kd.R_slice HO287.out; subst eo26))
    refine bodyPost_ret (results_ct rfl _ _ gb276 42 #[.bool t284, .slice Ao26 t285.length co26, .int .i64 t288] (0, 0) _ rfl (by refine hkz ?_; refine blk_put (cs := #[.bool t284, .slice Ao26 t285.length co26, .int .i64 0]) ?_ 2 _ rfl; refine hkz ?_; refine blk_put (cs := #[.bool t284, .slice none 0 0, .int .i64 0]) ?_ 1 _ rfl; refine hkz ?_; refine blk_put (cs := #[.bool false, .slice none 0 0, .int .i64 0]) ?_ 0 _ rfl; refine hkz ?_; exact BK276.out) Try.underlying42 rfl (by kernel_rfl)) rfl ?_
    exact ⟨_, hkE, by (with_reducible repeat (first | apply Kd.R_alloc | apply Kd.R_drewN | apply Kd.R_drew)); exact Kd.R_mono (Kd.R_far (p := ⟨gb276, 2, none⟩) (Kd.R_far (p := ⟨gb276, 1, none⟩) (Kd.R_far (p := ⟨gb276, 0, none⟩) (Kd.R_types HO287.out BK276.out (by decide)) (fun _ hk => hk.2) (.bool t284)) (fun _ hk => hk.2) (.slice Ao26 t285.length co26)) (fun _ hk => hk.2) (.int .i64 t288)) (fun _ hk => trivial), hkS HB⟩

/-! ### spec_l2add: function 139 -/
mutual
def spec_l2add.l0 : Nat → List Int → Int → Int → List Int → List Int → Option (List Int)
 | 0, _, _, _, _, _ => none
 | k + 1, x5, x6, x7, x291000, x292000 => if x7 < (x291000.length : Int) then (spec_l2add.j1 k x5 x6 x7 true x291000 x292000) else (if x7 < (x292000.length : Int) then (spec_l2add.j1 k x5 x6 x7 true x291000 x292000) else (spec_l2add.j1 k x5 x6 x7 (decide (x6 > 0)) x291000 x292000))
def spec_l2add.j1 : Nat → List Int → Int → Int → Bool → List Int → List Int → Option (List Int)
 | 0, _, _, _, _, _, _ => none
 | k + 1, x5, x6, x7, x24, x291000, x292000 => if x24 = true then (if x7 < (x291000.length : Int) then (if 0 ≤ x7 then (if x7 < (x292000.length : Int) then (if x5.length < 17592186044416 then (spec_l2add.l0 k (x5 ++ [Int.tmod (wrap64 ((wrap64 (x6 + (rd x291000 x7))) + (rd x292000 x7))) 65536]) (wrap64 (Int.tdiv (wrap64 ((wrap64 (x6 + (rd x291000 x7))) + (rd x292000 x7))) 65536)) (wrap64 (x7 + 1)) x291000 x292000) else (none)) else (if x5.length < 17592186044416 then (spec_l2add.l0 k (x5 ++ [Int.tmod (wrap64 (x6 + (rd x291000 x7))) 65536]) (wrap64 (Int.tdiv (wrap64 (x6 + (rd x291000 x7))) 65536)) (wrap64 (x7 + 1)) x291000 x292000) else (none))) else (none)) else (if x7 < (x292000.length : Int) then (if 0 ≤ x7 then (if x5.length < 17592186044416 then (spec_l2add.l0 k (x5 ++ [Int.tmod (wrap64 (x6 + (rd x292000 x7))) 65536]) (wrap64 (Int.tdiv (wrap64 (x6 + (rd x292000 x7))) 65536)) (wrap64 (x7 + 1)) x291000 x292000) else (none)) else (none)) else (if x5.length < 17592186044416 then (spec_l2add.l0 k (x5 ++ [Int.tmod x6 65536]) (wrap64 (Int.tdiv x6 65536)) (wrap64 (x7 + 1)) x291000 x292000) else (none)))) else ((spec_l2norm.f k x5).bind fun t293 => (some t293))
end
def spec_l2add.f (k : Nat) (l0_0 : List Int) (l1_0 : List Int) : Option (List Int) := spec_l2add.l0 k ([] : List Int) 0 0 l0_0 l1_0
theorem spec_l2add.mono_l : ∀ k, (∀ y0 y1 y2 y3 y4, LeO (spec_l2add.l0 k y0 y1 y2 y3 y4) (spec_l2add.l0 (k + 1) y0 y1 y2 y3 y4)) ∧ (∀ y0 y1 y2 y3 y4 y5, LeO (spec_l2add.j1 k y0 y1 y2 y3 y4 y5) (spec_l2add.j1 (k + 1) y0 y1 y2 y3 y4 y5))
 | 0 => ⟨fun _ _ _ _ _ r h => by simp [spec_l2add.l0] at h, fun _ _ _ _ _ _ r h => by simp [spec_l2add.j1] at h⟩
 | k + 1 => by
  obtain ⟨ih0, ih1⟩ := spec_l2add.mono_l k
  refine ⟨?_, ?_⟩
  ·intro y0 y1 y2 y3 y4
   unfold spec_l2add.l0
   repeat' first
   | (with_reducible exact ih0 _ _ _ _ _)
   | (with_reducible exact ih1 _ _ _ _ _ _)
   | (with_reducible exact spec_l2norm.mono _ _)
   | (with_reducible exact LeO.refl _)
   | (with_reducible exact LeO.none _)
   | (with_reducible refine LeO.ite ?_ ?_)
   | (with_reducible refine LeO.bind ?_ (fun _ => ?_))
   | exact ih0 _ _ _ _ _
   | exact ih1 _ _ _ _ _ _
   | exact spec_l2norm.mono _ _
   | exact LeO.none _
   | refine LeO.ite ?_ ?_
   | refine LeO.bind ?_ (fun _ => ?_)
  ·intro y0 y1 y2 y3 y4 y5
   unfold spec_l2add.j1
   repeat' first
   | (with_reducible exact ih0 _ _ _ _ _)
   | (with_reducible exact ih1 _ _ _ _ _ _)
   | (with_reducible exact spec_l2norm.mono _ _)
   | (with_reducible exact LeO.refl _)
   | (with_reducible exact LeO.none _)
   | (with_reducible refine LeO.ite ?_ ?_)
   | (with_reducible refine LeO.bind ?_ (fun _ => ?_))
   | exact ih0 _ _ _ _ _
   | exact ih1 _ _ _ _ _ _
   | exact spec_l2norm.mono _ _
   | exact LeO.none _
   | refine LeO.ite ?_ ?_
   | refine LeO.bind ?_ (fun _ => ?_)
theorem spec_l2add.mono : ∀ a0 a1 k, LeO (spec_l2add.f k a0 a1) (spec_l2add.f (k + 1) a0 a1) := by
 intro a0 a1 k
 obtain ⟨ih0, ih1⟩ := spec_l2add.mono_l k
 unfold spec_l2add.f
 repeat' first
   | (with_reducible exact ih0 _ _ _ _ _)
   | (with_reducible exact ih1 _ _ _ _ _ _)
   | (with_reducible exact spec_l2norm.mono _ _)
   | (with_reducible exact LeO.refl _)
   | (with_reducible exact LeO.none _)
   | (with_reducible refine LeO.ite ?_ ?_)
   | (with_reducible refine LeO.bind ?_ (fun _ => ?_))
   | exact ih0 _ _ _ _ _
   | exact ih1 _ _ _ _ _ _
   | exact spec_l2norm.mono _ _
   | exact LeO.none _
   | refine LeO.ite ?_ ?_
   | refine LeO.bind ?_ (fun _ => ?_)
set_option maxHeartbeats 8000000 in
set_option maxRecDepth 100000 in
theorem spec_l2add.calls (k : Nat) (A0_0 : Option Addr) (c0_0 : Nat) (l0_0 : List Int) (A1_0 : Option Addr) (c1_0 : Nat) (l1_0 : List Int) (r : List Int) (w : World) (hr0_0 : Kd.C (Kd.int .i64) w A0_0 l0_0.length l0_0) (hc0_0 : l0_0.length ≤ c0_0) (hr1_0 : Kd.C (Kd.int .i64) w A1_0 l1_0.length l1_0) (hc1_0 : l1_0.length ≤ c1_0) (h : spec_l2add.f k l0_0 l1_0 = some r) :
  Calls Try.prog 139 #[.agg #[.slice A0_0 l0_0.length c0_0], .agg #[.slice A1_0 l1_0.length c1_0]] w fun e w' => ∃ v0_ : Value, e = .returned (.agg #[v0_]) ∧ Kd.R (Kd.int .i64) 3 w' w.heap.size (fun _ => True) v0_ r ∧ Below w.heap.size w w' := by
 have hu38 := Try.underlying38
 have HR0_0 := Aside0.mk hr0_0
 have HC0_0 := Aside0.mk hc0_0
 clear hr0_0 hc0_0
 have HR1_0 := Aside0.mk hr1_0
 have HC1_0 := Aside0.mk hc1_0
 clear hr1_0 hc1_0
 have HB := Aside0.mk (Below.refl w.heap.size w)
 have H : (spec_l2add.l0 k ([] : List Int) 0 0 l0_0 l1_0) = some r := h
 clear h
 have H' := Aside0.mk H
 clear H
 go_enter Try.func139, Try.ntmps139
 go_wp2_with (first | ((with_reducible refine gate_dst (N := 2) rfl ?_); (try (refine gate_guard (by rfl) ?_; dsimp only)); refine box_event ?hg (N := 2) ?hd (cs := #[.slice A0_0 l0_0.length c0_0]) (t := 38) ?hr ?_; (case hd => rfl); (case hg => rfl); (case hr => first | (go_simp; done) | (go_simp; rfl)); intro gb290 hg w3 hbox hb; have n0_ := hkU HB hb; have n1_ := Aside0.mk (hbox); have n2_ := hkG hg (hkS HB); have n3_ := hkG hg (hkS HB); clear HB; have HB := n0_; have BK290 := n1_; have GW290 := n2_; have GE290 := n3_; clear n0_ n1_ n2_ n3_; clear hb hbox hg) | ((with_reducible refine gate_dst (N := 3) rfl ?_); (try (refine gate_guard (by rfl) ?_; dsimp only)); refine box_event ?hg (N := 3) ?hd (cs := #[.slice A1_0 l1_0.length c1_0]) (t := 38) ?hr ?_; (case hd => rfl); (case hg => rfl); (case hr => first | (go_simp; done) | (go_simp; rfl)); intro gb291 hg w4 hbox hb; have n0_ := hkBb BK290 hb; have n1_ := hkU HB hb; have n2_ := Aside0.mk (hbox); have n3_ := hkG hg (hkS HB); have n4_ := hkG hg (hkS HB); have n5_ := hkN hg BK290; have n6_ := hkM hg BK290; clear BK290; clear HB; have BK290 := n0_; have HB := n1_; have BK291 := n2_; have GW291 := n3_; have GE291 := n4_; have NB290_291 := n5_; have NB291_290 := n6_; clear n0_ n1_ n2_ n3_ n4_ n5_ n6_; clear hb hbox hg) | ((with_reducible refine gate_dst (N := 4) rfl ?_); (try (refine gate_guard (by rfl) ?_; dsimp only)); refine box_event ?hg (N := 4) ?hd (cs := #[.slice none 0 0]) (t := 38) ?hr ?_; (case hd => rfl); (case hg => rfl); (case hr => first | (go_simp; done) | (go_simp; rfl)); intro gb292 hg w5 hbox hb; have n0_ := hkBb BK290 hb; have n1_ := hkBb BK291 hb; have n2_ := hkU HB hb; have n3_ := Aside0.mk (hbox); have n4_ := hkG hg (hkS HB); have n5_ := hkG hg (hkS HB); have n6_ := hkN hg BK290; have n7_ := hkM hg BK290; have n8_ := hkN hg BK291; have n9_ := hkM hg BK291; clear BK290; clear BK291; clear HB; have BK290 := n0_; have BK291 := n1_; have HB := n2_; have BK292 := n3_; have GW292 := n4_; have GE292 := n5_; have NB290_292 := n6_; have NB292_290 := n7_; have NB291_292 := n8_; have NB292_291 := n9_; clear n0_ n1_ n2_ n3_ n4_ n5_ n6_ n7_ n8_ n9_; clear hb hbox hg))
 go_loopg [5, 6, 7] k (fun kq v5 v6 v7 w' => ∃ (x5_1 : List Int) (x6_1 : Int) (x7_1 : Int), v6 = .int .i64 x6_1 ∧ v7 = .int .i64 x7_1 ∧ Aside0 (spec_l2add.l0 kq x5_1 x6_1 x7_1 l0_0 l1_0 = some r) ∧ Aside0 (kq ≤ k) ∧ Aside0 (Kd.R (Kd.int .i64) 3 w' w.heap.size (fun _ => True) v5 x5_1) ∧ Aside0 (w'.heap[gb290]? = some (.cells #[(.slice A0_0 l0_0.length c0_0)] 38 (0, 0))) ∧ Aside0 (w'.heap[gb291]? = some (.cells #[(.slice A1_0 l1_0.length c1_0)] 38 (0, 0))) ∧ Aside0 (w'.heap[gb292]? = some (.cells #[(.slice none 0 0)] 38 (0, 0))) ∧ Aside0 (Below w.heap.size w w'))
 case atStart => exact ⟨(([] : List Int)), (0), (0), (by first | rfl | (simp; done) | (simp [*]; done)), (by first | rfl | (simp; done) | (simp [*]; done)), H', ⟨Nat.le_refl _⟩, ⟨by first | exact Kd.R_nil _ _ _ _ _ | exact Kd.N_nil _ _ _ _ _ | exact Kd.V_nil _ _ _ _ _ | exact Kd.Q_nil _ _ _ _ _ | exact Kd.S_nil _ _ _ _ _⟩, ⟨by refine hkz ?_; exact BK290.out⟩, ⟨by refine hkz ?_; exact BK291.out⟩, ⟨by refine hkz ?_; exact BK292.out⟩, ⟨hkS HB⟩⟩
 case round =>
  clear H'
  try clear c1
  try clear p2
  obtain ⟨x5_1, x6_1, x7_1, rfl, rfl, HA, HK1, HO_5, BK290, BK291, BK292, HB⟩ := hrel
  cases gk with
  | zero => exact absurd HA.out (by simp [spec_l2add.l0])
  | succ k1 =>
   have H := HA.out
   clear HA
   simp only [spec_l2add.l0] at H
   have HC6 := Aside0.mk H
   clear H
   go_upto_region 4 with (fail)
   go_cut [24] (fun v24 wc => ∃ (kq : Nat) (x24_5 : Bool), v24 = .bool x24_5 ∧ Aside0 (spec_l2add.j1 kq x5_1 x6_1 x7_1 x24_5 l0_0 l1_0 = some r) ∧ Aside0 (kq ≤ k1) ∧ Aside0 (Kd.R (Kd.int .i64) 3 wc w.heap.size (fun _ => True) u5 x5_1) ∧ Aside0 (wc.heap[gb290]? = some (.cells #[(.slice A0_0 l0_0.length c0_0)] 38 (0, 0))) ∧ Aside0 (wc.heap[gb291]? = some (.cells #[(.slice A1_0 l1_0.length c1_0)] 38 (0, 0))) ∧ Aside0 (wc.heap[gb292]? = some (.cells #[(.slice none 0 0)] 38 (0, 0))) ∧ Aside0 (Below w.heap.size w wc))
   case first =>
    have H := HC6.out
    clear HC6
    by_cases c7 : x7_1 < (l0_0.length : Int)
    ·rw [if_pos c7] at H
     have c7b0 : decide (x7_1 < (l0_0.length : Int)) = true := decide_eq_true c7
     clear c7
     (first | rw [c7b0] | (simp only [i64_w, i32_w]; rw [c7b0]) | skip)
     have H' := Aside0.mk H
     clear H
     have hnb8 := NB290_291.out
     have hnc8 := NB291_290.out
     have hnb9 := NB290_292.out
     have hnc9 := NB292_290.out
     have hcz10_0 : wr.cell? ⟨gb290, 0, none⟩ = some (.slice A0_0 l0_0.length c0_0) := (blk_cell BK290.out 0).trans rfl
     have hfz10_0 := blk_frozen BK290.out 0
     go_wp2
     go_meet
     case rel => exact ⟨_, (true), (by first | rfl | (simp; done) | (simp [*]; done)), H', ⟨by have := HK1.out; first | omega | exact Nat.le_refl _⟩, ⟨by (with_reducible repeat (first | apply Kd.R_alloc | apply Kd.R_drewN | apply Kd.R_drew)); exact HO_5.out⟩, ⟨by refine hkz ?_; exact BK290.out⟩, ⟨by refine hkz ?_; exact BK291.out⟩, ⟨by refine hkz ?_; exact BK292.out⟩, ⟨hkS HB⟩⟩
    ·rw [if_neg c7] at H
     have c7b0 : decide (x7_1 < (l0_0.length : Int)) = false := decide_eq_false c7
     clear c7
     (first | rw [c7b0] | (simp only [i64_w, i32_w]; rw [c7b0]) | skip)
     by_cases c11 : x7_1 < (l1_0.length : Int)
     ·rw [if_pos c11] at H
      have c11b0 : decide (x7_1 < (l1_0.length : Int)) = true := decide_eq_true c11
      clear c11
      have H' := Aside0.mk H
      clear H
      have hnb12 := NB290_291.out
      have hnc12 := NB291_290.out
      have hnb13 := NB290_292.out
      have hnc13 := NB292_290.out
      have hcz14_0 : wr.cell? ⟨gb290, 0, none⟩ = some (.slice A0_0 l0_0.length c0_0) := (blk_cell BK290.out 0).trans rfl
      have hfz14_0 := blk_frozen BK290.out 0
      have hnb15 := NB291_292.out
      have hnc15 := NB292_291.out
      have hcz16_0 : wr.cell? ⟨gb291, 0, none⟩ = some (.slice A1_0 l1_0.length c1_0) := (blk_cell BK291.out 0).trans rfl
      have hfz16_0 := blk_frozen BK291.out 0
      go_wp2
      go_meet
      case rel => exact ⟨_, (true), (by first | rfl | (simp; done) | (simp [*]; done)), H', ⟨by have := HK1.out; first | omega | exact Nat.le_refl _⟩, ⟨by (with_reducible repeat (first | apply Kd.R_alloc | apply Kd.R_drewN | apply Kd.R_drew)); exact HO_5.out⟩, ⟨by refine hkz ?_; exact BK290.out⟩, ⟨by refine hkz ?_; exact BK291.out⟩, ⟨by refine hkz ?_; exact BK292.out⟩, ⟨hkS HB⟩⟩
     ·rw [if_neg c11] at H
      have c11b0 : decide (x7_1 < (l1_0.length : Int)) = false := decide_eq_false c11
      clear c11
      have H' := Aside0.mk H
      clear H
      have hnb17 := NB290_291.out
      have hnc17 := NB291_290.out
      have hnb18 := NB290_292.out
      have hnc18 := NB292_290.out
      have hcz19_0 : wr.cell? ⟨gb290, 0, none⟩ = some (.slice A0_0 l0_0.length c0_0) := (blk_cell BK290.out 0).trans rfl
      have hfz19_0 := blk_frozen BK290.out 0
      have hnb20 := NB291_292.out
      have hnc20 := NB292_291.out
      have hcz21_0 : wr.cell? ⟨gb291, 0, none⟩ = some (.slice A1_0 l1_0.length c1_0) := (blk_cell BK291.out 0).trans rfl
      have hfz21_0 := blk_frozen BK291.out 0
      go_wp2
      go_meet
      case rel => exact ⟨_, (decide (x6_1 > 0)), (by first | rfl | (simp; done) | (simp [*]; done)), H', ⟨by have := HK1.out; first | omega | exact Nat.le_refl _⟩, ⟨by (with_reducible repeat (first | apply Kd.R_alloc | apply Kd.R_drewN | apply Kd.R_drew)); exact HO_5.out⟩, ⟨by refine hkz ?_; exact BK290.out⟩, ⟨by refine hkz ?_; exact BK291.out⟩, ⟨by refine hkz ?_; exact BK292.out⟩, ⟨hkS HB⟩⟩
   case rest =>
    clear HC6
    try clear c1
    try clear c2
    try clear p2
    try clear c7
    try clear c7b0
    try clear c8
    try clear c9
    try clear c11
    try clear c11b0
    try clear c12
    try clear c13
    try clear c15
    try clear c17
    try clear c18
    try clear c20
    try clear hcz10_0
    try clear hcz14_0
    try clear hcz16_0
    try clear hcz19_0
    try clear hcz21_0
    try clear hfz10_0
    try clear hfz14_0
    try clear hfz16_0
    try clear hfz19_0
    try clear hfz21_0
    try clear p2
    obtain ⟨kq, x24_5, rfl, HA, HJ5, HO_5, BK290, BK291, BK292, HB⟩ := hcut
    cases kq with
    | zero => exact absurd HA.out (by simp [spec_l2add.j1])
    | succ kj5 =>
     have H := HA.out
     clear HA
     simp only [spec_l2add.j1] at H
     by_cases c22 : x24_5 = true
     ·subst c22
      have H1 : (if x7_1 < (l0_0.length : Int) then (if 0 ≤ x7_1 then (if x7_1 < (l1_0.length : Int) then (if x5_1.length < 17592186044416 then (spec_l2add.l0 kj5 (x5_1 ++ [Int.tmod (wrap64 ((wrap64 (x6_1 + (rd l0_0 x7_1))) + (rd l1_0 x7_1))) 65536]) (wrap64 (Int.tdiv (wrap64 ((wrap64 (x6_1 + (rd l0_0 x7_1))) + (rd l1_0 x7_1))) 65536)) (wrap64 (x7_1 + 1)) l0_0 l1_0) else (none)) else (if x5_1.length < 17592186044416 then (spec_l2add.l0 kj5 (x5_1 ++ [Int.tmod (wrap64 (x6_1 + (rd l0_0 x7_1))) 65536]) (wrap64 (Int.tdiv (wrap64 (x6_1 + (rd l0_0 x7_1))) 65536)) (wrap64 (x7_1 + 1)) l0_0 l1_0) else (none))) else (none)) else (if x7_1 < (l1_0.length : Int) then (if 0 ≤ x7_1 then (if x5_1.length < 17592186044416 then (spec_l2add.l0 kj5 (x5_1 ++ [Int.tmod (wrap64 (x6_1 + (rd l1_0 x7_1))) 65536]) (wrap64 (Int.tdiv (wrap64 (x6_1 + (rd l1_0 x7_1))) 65536)) (wrap64 (x7_1 + 1)) l0_0 l1_0) else (none)) else (none)) else (if x5_1.length < 17592186044416 then (spec_l2add.l0 kj5 (x5_1 ++ [Int.tmod x6_1 65536]) (wrap64 (Int.tdiv x6_1 65536)) (wrap64 (x7_1 + 1)) l0_0 l1_0) else (none)))) = some r := by rw [if_pos rfl] at H; exact H
      clear H
      have H := H1
      clear H1
      by_cases c23 : x7_1 < (l0_0.length : Int)
      ·rw [if_pos c23] at H
       have c23b0 : decide (x7_1 < (l0_0.length : Int)) = true := decide_eq_true c23
       clear c23
       by_cases c24 : 0 ≤ x7_1
       ·rw [if_pos c24] at H
        have c24b0 : decide (0 ≤ x7_1) = true := decide_eq_true c24
        clear c24
        by_cases c25 : x7_1 < (l1_0.length : Int)
        ·rw [if_pos c25] at H
         have c25b0 : decide (x7_1 < (l1_0.length : Int)) = true := decide_eq_true c25
         clear c25
         by_cases c26 : x5_1.length < 17592186044416
         ·rw [if_pos c26] at H
          have LMc26 := Aside0.mk c26
          clear c26
          obtain ⟨y298, hy298⟩ : ∃ y_ : List Int, y_ = (x5_1 ++ [Int.tmod (wrap64 ((wrap64 (x6_1 + (rd l0_0 x7_1))) + (rd l1_0 x7_1))) 65536]) := ⟨_, rfl⟩
          replace H : (spec_l2add.l0 kj5 y298 (wrap64 (Int.tdiv (wrap64 ((wrap64 (x6_1 + (rd l0_0 x7_1))) + (rd l1_0 x7_1))) 65536)) (wrap64 (x7_1 + 1)) l0_0 l1_0) = some r := by first | (rw [hy298]; with_reducible exact H) | (have H2_ := (Option.bind_some _ _).symm.trans H; rw [hy298]; with_reducible exact H2_) | (have H2_ := (Option.bind_some _ _).symm.trans H; with_reducible exact H2_) | with_reducible exact H | (rw [hy298]; exact H) | exact H
          have Ny298 := Aside0.mk hy298
          clear hy298
          have H' := Aside0.mk H
          clear H
          have hnb27 := NB290_291.out
          have hnc27 := NB291_290.out
          have hnb28 := NB290_292.out
          have hnc28 := NB292_290.out
          have hcz29_0 : wc.cell? ⟨gb290, 0, none⟩ = some (.slice A0_0 l0_0.length c0_0) := (blk_cell BK290.out 0).trans rfl
          have hfz29_0 := blk_frozen BK290.out 0
          have p296 : 0 ≤ (x7_1 : Int) := of_decide_eq_true (by first | (with_reducible assumption) | assumption)
          have q296 : x7_1 < (l0_0.length : Int) := of_decide_eq_true (by first | (with_reducible assumption) | assumption)
          obtain ⟨ad296, e296, hx296_0⟩ := Kd.at_int HR0_0.out x7_1 p296 q296
          cases e296
          replace hx296_0 := (HB.out.cell (World.block_lt_of_cell? w _ hx296_0)).trans hx296_0
          replace p296 := eq_true p296
          replace q296 := eq_true q296
          have hnb30 := NB291_292.out
          have hnc30 := NB292_291.out
          have hcz31_0 : wc.cell? ⟨gb291, 0, none⟩ = some (.slice A1_0 l1_0.length c1_0) := (blk_cell BK291.out 0).trans rfl
          have hfz31_0 := blk_frozen BK291.out 0
          have p297 : 0 ≤ (x7_1 : Int) := of_decide_eq_true (by first | (with_reducible assumption) | assumption)
          have q297 : x7_1 < (l1_0.length : Int) := of_decide_eq_true (by first | (with_reducible assumption) | assumption)
          obtain ⟨ad297, e297, hx297_0⟩ := Kd.at_int HR1_0.out x7_1 p297 q297
          cases e297
          replace hx297_0 := (HB.out.cell (World.block_lt_of_cell? w _ hx297_0)).trans hx297_0
          replace p297 := eq_true p297
          replace q297 := eq_true q297
          go_wp2_with (first | ((with_reducible refine gate_builtin (b := .append) (xs := #[.tmp 52, .tmp 55]) rfl ?_); (try (refine gate_guard (by rfl) ?_; dsimp only)); at_builtin; refine Kd.R_append (Kd.int .i64) (w0 := w) w.heap.size rfl (.tmp 52) (.tmp 55) 29 3 (.int .i64 0) 8 rfl Try.underlying29 info3 rfl (by decide) (by omega) u5 x5_1 (Int.tmod (wrap64 ((wrap64 (x6_1 + (rd l0_0 x7_1))) + (rd l1_0 x7_1))) 65536) [.int .i64 (Int.tmod (wrap64 ((wrap64 (x6_1 + (rd l0_0 x7_1))) + (rd l1_0 x7_1))) 65536)] (fun _ => True) (fun _ => False) rfl rfl ?aP (fun _ hk => hk.elim) ?aF ?aO ?aB ?aS ?aL ?_; (case aP => exact rfl); (case aB => exact (hkS HB)); (case aF => exact (fun _ _ => trivial)); (case aO => exact (hkR HO_5)); (case aS => exact (below_size (hkS HB))); (case aL => have := LMc26.out; omega); intro v299 w32 ho hb hg hat; rw [← Ny298.out] at ho; have n0_ := Aside0.mk (blk_grown (g := gb290) (o := .cells #[.slice (some ad296) l0_0.length c0_0] 38 (0, 0)) (hkB BK290) hg (Kd.R_ne HO_5.out BK290.out (by decide))); have n1_ := Aside0.mk (blk_grown (g := gb291) (o := .cells #[.slice (some ad297) l1_0.length c1_0] 38 (0, 0)) (hkB BK291) hg (Kd.R_ne HO_5.out BK291.out (by decide))); have n2_ := Aside0.mk (blk_grown (g := gb292) (o := .cells #[.slice none 0 0] 38 (0, 0)) (hkB BK292) hg (Kd.R_ne HO_5.out BK292.out (by decide))); have n3_ := Aside0.mk (hb); have n4_ := Aside0.mk (ho); clear BK290; clear BK291; clear BK292; clear HB; clear HO_5; have BK290 := n0_; have BK291 := n1_; have BK292 := n2_; have HB := n3_; have HO300 := n4_; clear n0_ n1_ n2_ n3_ n4_; clear ho hb hg hat))
          go_roundg kj5
          case measure => have := HK1.out; have := HJ5.out; omega
          case rel => exact ⟨(y298), (wrap64 (Int.tdiv (wrap64 ((wrap64 (x6_1 + (rd l0_0 x7_1))) + (rd l1_0 x7_1))) 65536)), (wrap64 (x7_1 + 1)), (by first | rfl | (simp; done) | (simp [*]; done)), (by first | rfl | (simp; done) | (simp [*]; done)), H', ⟨by have := HK1.out; have := HJ5.out; omega⟩, ⟨by (with_reducible repeat (first | apply Kd.R_alloc | apply Kd.R_drewN | apply Kd.R_drew)); exact HO300.out⟩, ⟨by refine hkz ?_; exact BK290.out⟩, ⟨by refine hkz ?_; exact BK291.out⟩, ⟨by refine hkz ?_; exact BK292.out⟩, ⟨hkS HB⟩⟩
         ·rw [if_neg c26] at H
          exact absurd H (by simp)
        ·rw [if_neg c25] at H
         have c25b0 : decide (x7_1 < (l1_0.length : Int)) = false := decide_eq_false c25
         clear c25
         by_cases c33 : x5_1.length < 17592186044416
         ·rw [if_pos c33] at H
          have LMc33 := Aside0.mk c33
          clear c33
          obtain ⟨y301, hy301⟩ : ∃ y_ : List Int, y_ = (x5_1 ++ [Int.tmod (wrap64 (x6_1 + (rd l0_0 x7_1))) 65536]) := ⟨_, rfl⟩
          replace H : (spec_l2add.l0 kj5 y301 (wrap64 (Int.tdiv (wrap64 (x6_1 + (rd l0_0 x7_1))) 65536)) (wrap64 (x7_1 + 1)) l0_0 l1_0) = some r := by first | (rw [hy301]; with_reducible exact H) | (have H2_ := (Option.bind_some _ _).symm.trans H; rw [hy301]; with_reducible exact H2_) | (have H2_ := (Option.bind_some _ _).symm.trans H; with_reducible exact H2_) | with_reducible exact H | (rw [hy301]; exact H) | exact H
          have Ny301 := Aside0.mk hy301
          clear hy301
          have H' := Aside0.mk H
          clear H
          have hnb34 := NB290_291.out
          have hnc34 := NB291_290.out
          have hnb35 := NB290_292.out
          have hnc35 := NB292_290.out
          have hcz36_0 : wc.cell? ⟨gb290, 0, none⟩ = some (.slice A0_0 l0_0.length c0_0) := (blk_cell BK290.out 0).trans rfl
          have hfz36_0 := blk_frozen BK290.out 0
          have p296 : 0 ≤ (x7_1 : Int) := of_decide_eq_true (by first | (with_reducible assumption) | assumption)
          have q296 : x7_1 < (l0_0.length : Int) := of_decide_eq_true (by first | (with_reducible assumption) | assumption)
          obtain ⟨ad296, e296, hx296_0⟩ := Kd.at_int HR0_0.out x7_1 p296 q296
          cases e296
          replace hx296_0 := (HB.out.cell (World.block_lt_of_cell? w _ hx296_0)).trans hx296_0
          replace p296 := eq_true p296
          replace q296 := eq_true q296
          have hnb37 := NB291_292.out
          have hnc37 := NB292_291.out
          have hcz38_0 : wc.cell? ⟨gb291, 0, none⟩ = some (.slice A1_0 l1_0.length c1_0) := (blk_cell BK291.out 0).trans rfl
          have hfz38_0 := blk_frozen BK291.out 0
          go_wp2_with (first | ((with_reducible refine gate_builtin (b := .append) (xs := #[.tmp 52, .tmp 55]) rfl ?_); (try (refine gate_guard (by rfl) ?_; dsimp only)); at_builtin; refine Kd.R_append (Kd.int .i64) (w0 := w) w.heap.size rfl (.tmp 52) (.tmp 55) 29 3 (.int .i64 0) 8 rfl Try.underlying29 info3 rfl (by decide) (by omega) u5 x5_1 (Int.tmod (wrap64 (x6_1 + (rd l0_0 x7_1))) 65536) [.int .i64 (Int.tmod (wrap64 (x6_1 + (rd l0_0 x7_1))) 65536)] (fun _ => True) (fun _ => False) rfl rfl ?aP (fun _ hk => hk.elim) ?aF ?aO ?aB ?aS ?aL ?_; (case aP => exact rfl); (case aB => exact (hkS HB)); (case aF => exact (fun _ _ => trivial)); (case aO => exact (hkR HO_5)); (case aS => exact (below_size (hkS HB))); (case aL => have := LMc33.out; omega); intro v302 w39 ho hb hg hat; rw [← Ny301.out] at ho; have n0_ := Aside0.mk (blk_grown (g := gb290) (o := .cells #[.slice (some ad296) l0_0.length c0_0] 38 (0, 0)) (hkB BK290) hg (Kd.R_ne HO_5.out BK290.out (by decide))); have n1_ := Aside0.mk (blk_grown (g := gb291) (o := .cells #[.slice A1_0 l1_0.length c1_0] 38 (0, 0)) (hkB BK291) hg (Kd.R_ne HO_5.out BK291.out (by decide))); have n2_ := Aside0.mk (blk_grown (g := gb292) (o := .cells #[.slice none 0 0] 38 (0, 0)) (hkB BK292) hg (Kd.R_ne HO_5.out BK292.out (by decide))); have n3_ := Aside0.mk (hb); have n4_ := Aside0.mk (ho); clear BK290; clear BK291; clear BK292; clear HB; clear HO_5; have BK290 := n0_; have BK291 := n1_; have BK292 := n2_; have HB := n3_; have HO303 := n4_; clear n0_ n1_ n2_ n3_ n4_; clear ho hb hg hat))
          go_roundg kj5
          case measure => have := HK1.out; have := HJ5.out; omega
          case rel => exact ⟨(y301), (wrap64 (Int.tdiv (wrap64 (x6_1 + (rd l0_0 x7_1))) 65536)), (wrap64 (x7_1 + 1)), (by first | rfl | (simp; done) | (simp [*]; done)), (by first | rfl | (simp; done) | (simp [*]; done)), H', ⟨by have := HK1.out; have := HJ5.out; omega⟩, ⟨by (with_reducible repeat (first | apply Kd.R_alloc | apply Kd.R_drewN | apply Kd.R_drew)); exact HO303.out⟩, ⟨by refine hkz ?_; exact BK290.out⟩, ⟨by refine hkz ?_; exact BK291.out⟩, ⟨by refine hkz ?_; exact BK292.out⟩, ⟨hkS HB⟩⟩
         ·rw [if_neg c33] at H
          exact absurd H (by simp)
       ·rw [if_neg c24] at H
        exact absurd H (by simp)
      ·rw [if_neg c23] at H
       have c23b0 : decide (x7_1 < (l0_0.length : Int)) = false := decide_eq_false c23
       clear c23
       by_cases c40 : x7_1 < (l1_0.length : Int)
       ·rw [if_pos c40] at H
        have c40b0 : decide (x7_1 < (l1_0.length : Int)) = true := decide_eq_true c40
        clear c40
        by_cases c41 : 0 ≤ x7_1
        ·rw [if_pos c41] at H
         have c41b0 : decide (0 ≤ x7_1) = true := decide_eq_true c41
         clear c41
         by_cases c42 : x5_1.length < 17592186044416
         ·rw [if_pos c42] at H
          have LMc42 := Aside0.mk c42
          clear c42
          obtain ⟨y305, hy305⟩ : ∃ y_ : List Int, y_ = (x5_1 ++ [Int.tmod (wrap64 (x6_1 + (rd l1_0 x7_1))) 65536]) := ⟨_, rfl⟩
          replace H : (spec_l2add.l0 kj5 y305 (wrap64 (Int.tdiv (wrap64 (x6_1 + (rd l1_0 x7_1))) 65536)) (wrap64 (x7_1 + 1)) l0_0 l1_0) = some r := by first | (rw [hy305]; with_reducible exact H) | (have H2_ := (Option.bind_some _ _).symm.trans H; rw [hy305]; with_reducible exact H2_) | (have H2_ := (Option.bind_some _ _).symm.trans H; with_reducible exact H2_) | with_reducible exact H | (rw [hy305]; exact H) | exact H
          have Ny305 := Aside0.mk hy305
          clear hy305
          have H' := Aside0.mk H
          clear H
          have hnb43 := NB290_291.out
          have hnc43 := NB291_290.out
          have hnb44 := NB290_292.out
          have hnc44 := NB292_290.out
          have hcz45_0 : wc.cell? ⟨gb290, 0, none⟩ = some (.slice A0_0 l0_0.length c0_0) := (blk_cell BK290.out 0).trans rfl
          have hfz45_0 := blk_frozen BK290.out 0
          have hnb46 := NB291_292.out
          have hnc46 := NB292_291.out
          have hcz47_0 : wc.cell? ⟨gb291, 0, none⟩ = some (.slice A1_0 l1_0.length c1_0) := (blk_cell BK291.out 0).trans rfl
          have hfz47_0 := blk_frozen BK291.out 0
          have p304 : 0 ≤ (x7_1 : Int) := of_decide_eq_true (by first | (with_reducible assumption) | assumption)
          have q304 : x7_1 < (l1_0.length : Int) := of_decide_eq_true (by first | (with_reducible assumption) | assumption)
          obtain ⟨ad304, e304, hx304_0⟩ := Kd.at_int HR1_0.out x7_1 p304 q304
          cases e304
          replace hx304_0 := (HB.out.cell (World.block_lt_of_cell? w _ hx304_0)).trans hx304_0
          replace p304 := eq_true p304
          replace q304 := eq_true q304
          go_wp2_with (first | ((with_reducible refine gate_builtin (b := .append) (xs := #[.tmp 52, .tmp 55]) rfl ?_); (try (refine gate_guard (by rfl) ?_; dsimp only)); at_builtin; refine Kd.R_append (Kd.int .i64) (w0 := w) w.heap.size rfl (.tmp 52) (.tmp 55) 29 3 (.int .i64 0) 8 rfl Try.underlying29 info3 rfl (by decide) (by omega) u5 x5_1 (Int.tmod (wrap64 (x6_1 + (rd l1_0 x7_1))) 65536) [.int .i64 (Int.tmod (wrap64 (x6_1 + (rd l1_0 x7_1))) 65536)] (fun _ => True) (fun _ => False) rfl rfl ?aP (fun _ hk => hk.elim) ?aF ?aO ?aB ?aS ?aL ?_; (case aP => exact rfl); (case aB => exact (hkS HB)); (case aF => exact (fun _ _ => trivial)); (case aO => exact (hkR HO_5)); (case aS => exact (below_size (hkS HB))); (case aL => have := LMc42.out; omega); intro v306 w48 ho hb hg hat; rw [← Ny305.out] at ho; have n0_ := Aside0.mk (blk_grown (g := gb290) (o := .cells #[.slice A0_0 l0_0.length c0_0] 38 (0, 0)) (hkB BK290) hg (Kd.R_ne HO_5.out BK290.out (by decide))); have n1_ := Aside0.mk (blk_grown (g := gb291) (o := .cells #[.slice (some ad304) l1_0.length c1_0] 38 (0, 0)) (hkB BK291) hg (Kd.R_ne HO_5.out BK291.out (by decide))); have n2_ := Aside0.mk (blk_grown (g := gb292) (o := .cells #[.slice none 0 0] 38 (0, 0)) (hkB BK292) hg (Kd.R_ne HO_5.out BK292.out (by decide))); have n3_ := Aside0.mk (hb); have n4_ := Aside0.mk (ho); clear BK290; clear BK291; clear BK292; clear HB; clear HO_5; have BK290 := n0_; have BK291 := n1_; have BK292 := n2_; have HB := n3_; have HO307 := n4_; clear n0_ n1_ n2_ n3_ n4_; clear ho hb hg hat))
          go_roundg kj5
          case measure => have := HK1.out; have := HJ5.out; omega
          case rel => exact ⟨(y305), (wrap64 (Int.tdiv (wrap64 (x6_1 + (rd l1_0 x7_1))) 65536)), (wrap64 (x7_1 + 1)), (by first | rfl | (simp; done) | (simp [*]; done)), (by first | rfl | (simp; done) | (simp [*]; done)), H', ⟨by have := HK1.out; have := HJ5.out; omega⟩, ⟨by (with_reducible repeat (first | apply Kd.R_alloc | apply Kd.R_drewN | apply Kd.R_drew)); exact HO307.out⟩, ⟨by refine hkz ?_; exact BK290.out⟩, ⟨by refine hkz ?_; exact BK291.out⟩, ⟨by refine hkz ?_; exact BK292.out⟩, ⟨hkS HB⟩⟩
         ·rw [if_neg c42] at H
          exact absurd H (by simp)
        ·rw [if_neg c41] at H
         exact absurd H (by simp)
       ·rw [if_neg c40] at H
        have c40b0 : decide (x7_1 < (l1_0.length : Int)) = false := decide_eq_false c40
        clear c40
        by_cases c49 : x5_1.length < 17592186044416
        ·rw [if_pos c49] at H
         have LMc49 := Aside0.mk c49
         clear c49
         obtain ⟨y308, hy308⟩ : ∃ y_ : List Int, y_ = (x5_1 ++ [Int.tmod x6_1 65536]) := ⟨_, rfl⟩
         replace H : (spec_l2add.l0 kj5 y308 (wrap64 (Int.tdiv x6_1 65536)) (wrap64 (x7_1 + 1)) l0_0 l1_0) = some r := by first | (rw [hy308]; with_reducible exact H) | (have H2_ := (Option.bind_some _ _).symm.trans H; rw [hy308]; with_reducible exact H2_) | (have H2_ := (Option.bind_some _ _).symm.trans H; with_reducible exact H2_) | with_reducible exact H | (rw [hy308]; exact H) | exact H
         have Ny308 := Aside0.mk hy308
         clear hy308
         have H' := Aside0.mk H
         clear H
         have hnb50 := NB290_291.out
         have hnc50 := NB291_290.out
         have hnb51 := NB290_292.out
         have hnc51 := NB292_290.out
         have hcz52_0 : wc.cell? ⟨gb290, 0, none⟩ = some (.slice A0_0 l0_0.length c0_0) := (blk_cell BK290.out 0).trans rfl
         have hfz52_0 := blk_frozen BK290.out 0
         have hnb53 := NB291_292.out
         have hnc53 := NB292_291.out
         have hcz54_0 : wc.cell? ⟨gb291, 0, none⟩ = some (.slice A1_0 l1_0.length c1_0) := (blk_cell BK291.out 0).trans rfl
         have hfz54_0 := blk_frozen BK291.out 0
         go_wp2_with (first | ((with_reducible refine gate_builtin (b := .append) (xs := #[.tmp 52, .tmp 55]) rfl ?_); (try (refine gate_guard (by rfl) ?_; dsimp only)); at_builtin; refine Kd.R_append (Kd.int .i64) (w0 := w) w.heap.size rfl (.tmp 52) (.tmp 55) 29 3 (.int .i64 0) 8 rfl Try.underlying29 info3 rfl (by decide) (by omega) u5 x5_1 (Int.tmod x6_1 65536) [.int .i64 (Int.tmod x6_1 65536)] (fun _ => True) (fun _ => False) rfl rfl ?aP (fun _ hk => hk.elim) ?aF ?aO ?aB ?aS ?aL ?_; (case aP => exact rfl); (case aB => exact (hkS HB)); (case aF => exact (fun _ _ => trivial)); (case aO => exact (hkR HO_5)); (case aS => exact (below_size (hkS HB))); (case aL => have := LMc49.out; omega); intro v309 w55 ho hb hg hat; rw [← Ny308.out] at ho; have n0_ := Aside0.mk (blk_grown (g := gb290) (o := .cells #[.slice A0_0 l0_0.length c0_0] 38 (0, 0)) (hkB BK290) hg (Kd.R_ne HO_5.out BK290.out (by decide))); have n1_ := Aside0.mk (blk_grown (g := gb291) (o := .cells #[.slice A1_0 l1_0.length c1_0] 38 (0, 0)) (hkB BK291) hg (Kd.R_ne HO_5.out BK291.out (by decide))); have n2_ := Aside0.mk (blk_grown (g := gb292) (o := .cells #[.slice none 0 0] 38 (0, 0)) (hkB BK292) hg (Kd.R_ne HO_5.out BK292.out (by decide))); have n3_ := Aside0.mk (hb); have n4_ := Aside0.mk (ho); clear BK290; clear BK291; clear BK292; clear HB; clear HO_5; have BK290 := n0_; have BK291 := n1_; have BK292 := n2_; have HB := n3_; have HO310 := n4_; clear n0_ n1_ n2_ n3_ n4_; clear ho hb hg hat))
         go_roundg kj5
         case measure => have := HK1.out; have := HJ5.out; omega
         case rel => exact ⟨(y308), (wrap64 (Int.tdiv x6_1 65536)), (wrap64 (x7_1 + 1)), (by first | rfl | (simp; done) | (simp [*]; done)), (by first | rfl | (simp; done) | (simp [*]; done)), H', ⟨by have := HK1.out; have := HJ5.out; omega⟩, ⟨by (with_reducible repeat (first | apply Kd.R_alloc | apply Kd.R_drewN | apply Kd.R_drew)); exact HO310.out⟩, ⟨by refine hkz ?_; exact BK290.out⟩, ⟨by refine hkz ?_; exact BK291.out⟩, ⟨by refine hkz ?_; exact BK292.out⟩, ⟨hkS HB⟩⟩
        ·rw [if_neg c49] at H
         exact absurd H (by simp)
     ·replace c22 := Bool.eq_false_iff.mpr c22
      subst c22
      have H1 : ((spec_l2norm.f kj5 x5_1).bind fun t293 => (some t293)) = some r := by rw [if_neg (show ¬ (false = true) by decide)] at H; exact H
      clear H
      have H := H1
      clear H1
      replace H := Option.bind_eq_some_iff.mp H
      obtain ⟨t293, A560, H⟩ := H
      replace H : (some t293) = some r := H
      have A56 := Aside0.mk A560
      clear A560
      obtain rfl := Option.some.inj H
      obtain ⟨Ao57, co57, eo57⟩ := Kd.R_slice HO_5.out
      subst eo57
      go_wp2_with (first | ((with_reducible refine gate_callee (f := 99) rfl ?_); refine goesL_ (some 60) rfl rfl Try.func99 (by kernel_rfl) rfl #[.slice Ao57 x5_1.length co57] rfl hkL ?_; (with_reducible refine (spec_l2norm.calls kj5 _ _ x5_1 t293 _ ?side1 ?side2 A56.out).mono ?_); (case side1 => exact hkC ((Kd.R_reads' HO_5.out).2.2)); (case side2 => exact (Kd.R_reads' HO_5.out).2.1); rintro e w58 ⟨v294, rfl, ho0, hb⟩; refine ⟨_, rfl, ?_⟩; have n0_ := Aside0.mk (Kd.R_elder' (hkR HO_5) (Kd.R_base ho0) hb); have n1_ := Aside0.mk (Kd.R_lower (Kd.R_new' ho0 (Kd.R_lt (hkR HO_5))) (below_size (hkS HB))); have n2_ := hkBb BK290 hb; have n3_ := hkBb BK291 hb; have n4_ := hkBb BK292 hb; have n5_ := hkU HB hb; clear HO_5; clear BK290; clear BK291; clear BK292; clear HB; have HO_5 := n0_; have HO295 := n1_; have BK290 := n2_; have BK291 := n3_; have BK292 := n4_; have HB := n5_; clear n0_ n1_ n2_ n3_ n4_ n5_; (try clear hb); (try clear hb2); (try clear hk); (try clear hi); (try clear ho0); obtain ⟨Ao59, co59, eo59⟩ := Kd.R_slice HO295.out; subst eo59; have hnb60 := NB292_290.out; have hnc60 := NB290_292.out; have hnb61 := NB292_291.out; have hnc61 := NB291_292.out; have hcz62_0 : w58.cell? ⟨gb292, 0, none⟩ = some (.slice none 0 0) := (blk_cell BK292.out 0).trans rfl; have hfz62_0 := blk_frozen BK292.out 0))
      refine bodyPost_ret (results_cell_row rfl _ _ gb292 38 #[.slice Ao59 t293.length co59] (0, 0) _ rfl (by refine hkz ?_; refine blk_put (cs := #[.slice none 0 0]) ?_ 0 _ rfl; refine hkz ?_; exact BK292.out) Try.underlying38 rfl (by kernel_rfl)) rfl ?_
      exact ⟨_, hkE, by (with_reducible repeat (first | apply Kd.R_alloc | apply Kd.R_drewN | apply Kd.R_drew)); exact Kd.R_mono (Kd.R_far (p := ⟨gb292, 0, none⟩) (Kd.R_types HO295.out BK292.out (by decide)) (fun _ hk => hk.2) (.slice Ao59 t293.length co59)) (fun _ hk => trivial), hkS HB⟩

end Go.Proofs.Ytgjpahofopoflaa.PFnDyTops
