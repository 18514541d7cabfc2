-- Written by our own driver (wip/hand/hprint.py) over the seat's translation.
import Derived.Test.YtgjpahofopoflaaDoorPFnFlOrderx0
import Derived.Test.YtgjpahofopoflaaDoorPFnFlOrderx12
import Derived.Test.YtgjpahofopoflaaDoorPFnFlOrderx15
namespace Go.Proofs.YtgjpahofopoflaaDoor.PFnFlOrder
open Go.RowKit Go.Proofs.YtgjpahofopoflaaDoorW.PrintWords Go.Proofs.YtgjpahofopoflaaDoorW.PrintLast Go.Proofs.YtgjpahofopoflaaDoorW.PrintMore
attribute [local go_sem] max2_int min2_int max_two min_two max_three min_three max_four min_four   -- for this text's walks alone
set_option linter.unusedVariables false
set_option linter.unusedSimpArgs false

/-! ### spec_l2shl: function 123 -/
def spec_l2shl.f (k : Nat) (l0_0 : List Int) (a1 : Int) : Option (List Int) := if (l0_0.length : Int) = 0 then (some ([] : List Int)) else (if 0 ≤ (wrap64 (Int.tdiv a1 16)) then (if (wrap64 (Int.tdiv a1 16) : Int).toNat ≤ 35184372088832 then ((some (List.replicate (wrap64 (Int.tdiv a1 16) : Int).toNat 0 : List Int)).bind fun y331 => (if y331.length + l0_0.length < 17592186044416 then (if 0 ≤ (Int.tmod a1 16) then ((spec_l2of.f k (shl .i64 1 (Int.tmod a1 16))).bind fun t337 => ((spec_l2mul.f k (y331 ++ l0_0) t337).bind fun t340 => (some t340))) else (none)) else (none))) else (none)) else (none))
theorem spec_l2shl.mono : ∀ a0 a1 k, LeO (spec_l2shl.f k a0 a1) (spec_l2shl.f (k + 1) a0 a1) := by
 intro a0 a1 k
 unfold spec_l2shl.f
 repeat' first
   | (with_reducible exact spec_l2mul.mono _ _ _)
   | (with_reducible exact spec_l2of.mono _ _)
   | (with_reducible exact LeO.refl _)
   | (with_reducible exact LeO.none _)
   | (with_reducible refine LeO.ite ?_ ?_)
   | (with_reducible refine LeO.bind ?_ (fun _ => ?_))
   | exact spec_l2mul.mono _ _ _
   | exact spec_l2of.mono _ _
   | exact LeO.none _
   | refine LeO.ite ?_ ?_
   | refine LeO.bind ?_ (fun _ => ?_)
def spec_l2shl.T3 : Bool × List (List Nat × List Nat) := (true, [([], []), ([0], [0]), ([1, 1], [1]), ([], []), ([3], [3]), ([2, 4], [2, 4]), ([5], [5]), ([], []), ([7], [7]), ([8], [8]), ([9, 5], [9]), ([6, 10, 10], [6, 10]), ([11, 11, 0, 1, 2, 3, 4, 5, 6, 7, 8, 9, 10, 11], [11])])
def spec_l2shl.B3 : List Nat := [0, 1, 3, 0, 8, 31, 63, 0, 128, 384, 959, 2047, 4095]
theorem spec_l2shl.tab3 : rtab .any (opsOf Tryd.f123 3) = spec_l2shl.T3 := by kernel_rfl
theorem spec_l2shl.bits3 : waitsOk spec_l2shl.T3.2 spec_l2shl.B3 = true := by kernel_rfl
set_option maxHeartbeats 8000000 in
set_option maxRecDepth 100000 in
theorem spec_l2shl.calls (k : Nat) (A0_0 : Option Addr) (c0_0 : Nat) (l0_0 : List Int) (a1 : Int) (r : List Int) (w : World) (hr0_0 : Kd.C (Kd.int .i64) w A0_0 l0_0.length l0_0) (hc0_0 : l0_0.length ≤ c0_0) (h : spec_l2shl.f k l0_0 a1 = some r) :
  Calls Tryd.prog 123 #[.agg #[.slice A0_0 l0_0.length c0_0], .int .i64 a1] w fun e w' => ∃ v0_ : Value, e = .returned (.agg #[v0_]) ∧ Kd.R (Kd.int .i64) 3 w' w.heap.size (fun _ => True) v0_ r ∧ Below w.heap.size w w' := by
 have hu26 := Tryd.underlying26
 have HR0_0 := Aside0.mk hr0_0
 have HC0_0 := Aside0.mk hc0_0
 clear hr0_0 hc0_0
 have HB := Aside0.mk (Below.refl w.heap.size w)
 have H : (if (l0_0.length : Int) = 0 then (some ([] : List Int)) else (if 0 ≤ (wrap64 (Int.tdiv a1 16)) then (if (wrap64 (Int.tdiv a1 16) : Int).toNat ≤ 35184372088832 then ((some (List.replicate (wrap64 (Int.tdiv a1 16) : Int).toNat 0 : List Int)).bind fun y331 => (if y331.length + l0_0.length < 17592186044416 then (if 0 ≤ (Int.tmod a1 16) then ((spec_l2of.f k (shl .i64 1 (Int.tmod a1 16))).bind fun t337 => ((spec_l2mul.f k (y331 ++ l0_0) t337).bind fun t340 => (some t340))) else (none)) else (none))) else (none)) else (none))) = some r := h
 clear h
 by_cases c3 : (l0_0.length : Int) = 0
 ·rw [if_pos c3] at H
  have c3b0 : ((l0_0.length : Int) == 0) = true := beq_iff_eq.mpr c3
  have c3b1 : ((l0_0.length : Int) != 0) = false := bne_eq_false_iff_eq.mpr c3
  clear c3
  obtain rfl := Option.some.inj H
  go_enter Tryd.func123, Tryd.ntmps123
  go_wp2_with (first | ((with_reducible refine gate_dst (N := 2) rfl ?_); refine hkBox (N := 2) (cs := #[.slice A0_0 l0_0.length c0_0]) (t := 26) ?_; intro gb329 hg w4 hbox hb; have n_ := hkA (hkU HB hb) (hkA (Aside0.mk (hbox)) (hkA (hkG hg (hkS HB)) (hkG hg (hkS HB)))); clear HB; obtain ⟨HB, BK329, GW329, GE329⟩ := n_; clear hb hbox hg) | ((with_reducible refine gate_dst (N := 4) rfl ?_); refine hkBox (N := 4) (cs := #[.slice none 0 0]) (t := 26) ?_; intro gb330 hg w5 hbox hb; have n_ := hkA (hkBb BK329 hb) (hkA (hkU HB hb) (hkA (Aside0.mk (hbox)) (hkA (hkG hg (hkS HB)) (hkA (hkG hg (hkS HB)) (hkA (hkN hg BK329) (hkM hg BK329)))))); clear BK329 HB; obtain ⟨BK329, HB, BK330, GW330, GE330, NB329_330, NB330_329⟩ := n_; clear hb hbox hg; have hnb6 := NB329_330.out; have hnc6 := NB330_329.out; obtain ⟨hcz7_0, hfz7_0⟩ := hkc1 BK329; obtain ⟨hcz8_0, hfz8_0⟩ := hkc1 BK330))
  refine bodyPost_ret (results_cell_row rfl _ _ gb330 26 #[.slice none 0 0] (0, 0) _ rfl hkPp Tryd.underlying26 rfl (by kernel_rfl)) rfl ?_
  exact ⟨_, hkE, by first | exact Kd.R_nil _ _ _ _ _ | exact Kd.N_nil _ _ _ _ _ | exact Kd.V_nil _ _ _ _ _ | exact Kd.Q_nil _ _ _ _ _ | exact Kd.S_nil _ _ _ _ _, hkS HB⟩
 ·rw [if_neg c3] at H
  have c3b0 : ((l0_0.length : Int) == 0) = false := beq_eq_false_iff_ne.mpr c3
  have c3b1 : ((l0_0.length : Int) != 0) = true := bne_iff_ne.mpr c3
  have c3b2 : ¬ (l0_0 = []) := fun h_ => c3 (by rw [h_]; rfl)
  obtain ⟨ji9, hji9⟩ : ∃ j_ : Int, (wrap64 (Int.tdiv a1 16)) = j_ := ⟨_, rfl⟩
  replace H : (if 0 ≤ (ji9) then (if (ji9 : Int).toNat ≤ 35184372088832 then ((some (List.replicate (ji9 : Int).toNat 0 : List Int)).bind fun y331 => (if y331.length + l0_0.length < 17592186044416 then (if 0 ≤ (Int.tmod a1 16) then ((spec_l2of.f k (shl .i64 1 (Int.tmod a1 16))).bind fun t337 => ((spec_l2mul.f k (y331 ++ l0_0) t337).bind fun t340 => (some t340))) else (none)) else (none))) else (none)) else (none)) = some r := by first | (rw [hji9] at H; exact H) | (simp only [hji9] at H ⊢; exact H)
  have hji9w : (IntKind.i64.wrap (Int.tdiv a1 16)) = ji9 := (i64_w _).trans hji9
  by_cases c10 : 0 ≤ (ji9)
  ·rw [if_pos c10] at H
   have c10b0 := eq_true c10
   have c10b1 : decide (0 ≤ (ji9)) = true := decide_eq_true c10
   clear c10
   by_cases c11 : (ji9 : Int).toNat ≤ 35184372088832
   ·rw [if_pos c11] at H
    have c11b0 := eq_true c11
    have c11b1 : decide ((ji9 : Int).toNat ≤ 35184372088832) = true := decide_eq_true c11
    clear c11
    obtain ⟨y331, hy331⟩ : ∃ y_ : List Int, y_ = (List.replicate (ji9 : Int).toNat 0) := ⟨_, rfl⟩
    replace H : (if y331.length + l0_0.length < 17592186044416 then (if 0 ≤ (Int.tmod a1 16) then ((spec_l2of.f k (shl .i64 1 (Int.tmod a1 16))).bind fun t337 => ((spec_l2mul.f k (y331 ++ l0_0) t337).bind fun t340 => (some t340))) else (none)) else (none)) = some r := by first | (rw [hy331]; with_reducible exact H) | (have H2_ := (Option.bind_some _ _).symm.trans H; rw [hy331]; with_reducible exact H2_) | (have H2_ := (Option.bind_some _ _).symm.trans H; with_reducible exact H2_) | with_reducible exact H | (rw [hy331]; exact H) | exact H
    have Ny331 := Aside0.mk hy331
    clear hy331
    by_cases c12 : y331.length + l0_0.length < 17592186044416
    ·rw [if_pos c12] at H
     have LMc12 := Aside0.mk c12
     clear c12
     obtain ⟨y334, hy334⟩ : ∃ y_ : List Int, y_ = (y331 ++ l0_0) := ⟨_, rfl⟩
     replace H : (if 0 ≤ (Int.tmod a1 16) then ((spec_l2of.f k (shl .i64 1 (Int.tmod a1 16))).bind fun t337 => ((spec_l2mul.f k y334 t337).bind fun t340 => (some t340))) else (none)) = some r := by first | (rw [hy334]; with_reducible exact H) | (have H2_ := (Option.bind_some _ _).symm.trans H; rw [hy334]; with_reducible exact H2_) | (have H2_ := (Option.bind_some _ _).symm.trans H; with_reducible exact H2_) | with_reducible exact H | (rw [hy334]; exact H) | exact H
     have Ny334 := Aside0.mk hy334
     clear hy334
     obtain ⟨ji13, hji13⟩ : ∃ j_ : Int, (Int.tmod a1 16) = j_ := ⟨_, rfl⟩
     replace H : (if 0 ≤ (ji13) then ((spec_l2of.f k (shl .i64 1 (ji13))).bind fun t337 => ((spec_l2mul.f k y334 t337).bind fun t340 => (some t340))) else (none)) = some r := by first | (rw [hji13] at H; exact H) | (simp only [hji13] at H ⊢; exact H)
     by_cases c14 : 0 ≤ (ji13)
     ·rw [if_pos c14] at H
      have c14b0 := eq_true c14
      have c14b1 : decide (0 ≤ (ji13)) = true := decide_eq_true c14
      clear c14
      obtain ⟨ji15, hji15⟩ : ∃ j_ : Int, (shl .i64 1 (ji13)) = j_ := ⟨_, rfl⟩
      replace H : ((spec_l2of.f k (ji15)).bind fun t337 => ((spec_l2mul.f k y334 t337).bind fun t340 => (some t340))) = some r := by first | (rw [hji15] at H; exact H) | (simp only [hji15] at H ⊢; exact H)
      have hji15_ : (IntKind.i64.wrap (1 * 2 ^ min (ji13).toNat 64)) = ji15 := hji15
      have hji15z : (ji13) ≤ 64 → (IntKind.i64.wrap (1 * 2 ^ (ji13).toNat)) = ji15 := shl_small hji15
      have hji15u : (IntKind.i64.wrap (2 ^ min (ji13).toNat 64)) = ji15 := by have h_ := hji15_; rw [Int.one_mul] at h_; exact h_
      have hji15v : (ji13) ≤ 64 → (IntKind.i64.wrap (2 ^ (ji13).toNat)) = ji15 := fun hle_ => by have h_ := hji15z hle_; rw [Int.one_mul] at h_; exact h_
      have hji15y : (wrap64 (1 * 2 ^ min (ji13).toNat 64)) = ji15 := (i64_w _).symm.trans hji15_
      have hji15x : (ji13) ≤ 64 → (wrap64 (1 * 2 ^ (ji13).toNat)) = ji15 := fun h_ => (i64_w _).symm.trans (hji15z h_)
      replace H := hBi H
      obtain ⟨t337, A160, H⟩ := H
      replace H : ((spec_l2mul.f k y334 t337).bind fun t340 => (some t340)) = some r := H
      have A16 := Aside0.mk A160
      clear A160
      replace H := hBi H
      obtain ⟨t340, A170, H⟩ := H
      replace H : (some t340) = some r := H
      have A17 := Aside0.mk A170
      clear A170
      obtain rfl := Option.some.inj H
      go_enter Tryd.func123, Tryd.ntmps123
      try go_wp2_with (first | ((with_reducible refine gate_dst (N := 2) rfl ?_); refine hkBox (N := 2) (cs := #[.slice A0_0 l0_0.length c0_0]) (t := 26) ?_; intro gb329 hg w18 hbox hb; have n_ := hkA (hkU HB hb) (hkA (Aside0.mk (hbox)) (hkA (hkG hg (hkS HB)) (hkG hg (hkS HB)))); clear HB; obtain ⟨HB, BK329, GW329, GE329⟩ := n_; clear hb hbox hg) | ((with_reducible refine gate_dst (N := 4) rfl ?_); refine hkBox (N := 4) (cs := #[.slice none 0 0]) (t := 26) ?_; intro gb330 hg w19 hbox hb; have n_ := hkA (hkBb BK329 hb) (hkA (hkU HB hb) (hkA (Aside0.mk (hbox)) (hkA (hkG hg (hkS HB)) (hkA (hkG hg (hkS HB)) (hkA (hkN hg BK329) (hkM hg BK329)))))); clear BK329 HB; obtain ⟨BK329, HB, BK330, GW330, GE330, NB329_330, NB330_329⟩ := n_; clear hb hbox hg; have hnb20 := NB329_330.out; have hnc20 := NB330_329.out; obtain ⟨hcz21_0, hfz21_0⟩ := hkc1 BK329))
      have n_ := hkA (Aside0.mk (blk_drew BK329.out)) (hkA (Aside0.mk (blk_drew BK330.out)) (Aside0.mk (below_drew1 HB.out)))
      clear BK329 BK330 HB
      obtain ⟨BK329, BK330, HB⟩ := n_
      refine start_ (n := 13) (S := fun w' => w'.cell? ⟨gb329, 0, none⟩ = some (.slice A0_0 l0_0.length c0_0)) (ds := []) #[false, false, false, false, false, false, false, false, false, false, false, false, false] (by kernel_rfl) rfl rfl ((blk_cell BK329.out 0).trans rfl) (fun hHeld => ?_); refine with_tabW spec_l2shl.tab3 spec_l2shl.bits3 (fun HT_ HW_ => ?_)
      generalize w19.drew = w22 at BK329 BK330 HB hHeld ⊢
      refine hkPt (i := 0) (N := some 10) HT_ ?_
      refine hkPt (i := 1) (N := some 11) HT_ ?_
      refine hkPt (i := 3) (N := some 13) HT_ ?_
      refine hkPt (i := 7) (N := some 17) HT_ ?_
      refine hkPt (i := 8) (N := some 18) HT_ ?_
      refine hkPt (i := 9) (N := some 19) HT_ ?_
      refine hkTt (i := 4) (N := some 14) HT_ HW_ hHeld ?_ (hy := by intro w' s0; go_simp; with_reducible rfl)
      refine one_ (i := 2) (N := some 12) #[true, true, true, true, true, false, false, true, true, true, false, false, false] rfl rfl (one_of HT_.out (by kernel_rfl)) (by decide) (fun K hK => ?_)
      refine Kd.R_make_step (Kd.int .i64) _ 3 (by rfl) (N := 12) rfl 24 _ _ rfl ji9 rfl rfl Tryd.underlying24 (.int .i64 0) 8 info3 rfl (by decide) (by omega) 0 (ok := fun _ => True) (okp := fun _ => True) rfl (fun _ hk => hk) trivial (of_decide_eq_true (by first | (with_reducible assumption) | assumption)) (Nat.le_trans (Nat.mul_le_mul_right _ (of_decide_eq_true (by first | (with_reducible assumption) | assumption) : ji9.toNat ≤ 35184372088832)) (by omega)) (Below.refl _ _) (Nat.le_refl _) ?_
      intro v332 w23 ho24 hb hg_ hnew_
      clear hg_ hnew_
      (first | rw [← Ny331.out] at ho24 | (simp only [Int.reduceToNat] at ho24; rw [← Ny331.out] at ho24) | (simp only [Int.toNat_zero, List.replicate_zero] at ho24; rw [← Ny331.out] at ho24))
      have n_ := hkA (Aside0.mk (Kd.R_lower ho24 (below_size (hkS HB)))) (hkA (hkBb BK329 hb) (hkA (hkBb BK330 hb) (hkU HB hb)))
      clear BK329 BK330 HB
      obtain ⟨HO333, BK329, BK330, HB⟩ := n_
      clear hb ho24
      refine hK.out _ _ ((blk_cell BK329.out 0).trans rfl) (fun hHeld => ?_)
      clear hK K
      refine hkNo (N := some 12) ?_
      refine one_ (i := 5) (N := some 15) #[true, true, true, true, true, true, false, true, true, true, false, false, false] rfl rfl (one_of HT_.out (by kernel_rfl)) (by decide) (fun K hK => ?_)
      refine Kd.R_append_rows_step (Kd.int .i64) (w0 := w) w.heap.size (by rfl) (.tmp 12) (.tmp 14) 24 3 (.int .i64 0) 8 rfl Tryd.underlying24 info3 rfl (by decide) (by omega) v332 y331 l0_0 _ _ _ (fun _ => True) (fun _ => False) rfl rfl ?aO ?aR (fun _ _ h => h) (fun _ h => h.elim) ?aF ?aB ?aS ?aL ?_
      (case aR => exact hkC ((Kd.C_below HR0_0.out HB.out)))
      (case aB => exact (hkS HB))
      (case aF => exact (fun _ _ => trivial))
      (case aO => exact (hkR HO333))
      (case aS => exact (below_size (hkS HB)))
      (case aL => have := LMc12.out; omega)
      intro v335 w25 ho hb hg hat
      rw [← Ny334.out] at ho
      have n_ := hkA (Aside0.mk (blk_grown (g := gb329) (o := .cells #[.slice A0_0 l0_0.length c0_0] 26 (0, 0)) (hkB BK329) hg (Kd.R_ne HO333.out BK329.out (by decide)))) (hkA (Aside0.mk (blk_grown (g := gb330) (o := .cells #[.slice none 0 0] 26 (0, 0)) (hkB BK330) hg (Kd.R_ne HO333.out BK330.out (by decide)))) (hkA (Aside0.mk (hb)) (Aside0.mk (ho))))
      clear BK329 BK330 HB HO333
      obtain ⟨BK329, BK330, HB, HO336⟩ := n_
      clear ho hb hg hat
      obtain ⟨Ao26, co26, eo26⟩ := Kd.R_slice HO336.out
      (first | subst eo26 | (injection eo26 with f1_ f2_ f3_; have f4_ := f1_.symm; have f5_ := f3_.symm; clear f1_ f2_ f3_; subst f4_; subst f5_))
      refine hK.out _ _ ((blk_cell BK329.out 0).trans rfl) (fun hHeld => ?_)
      clear hK K
      refine hkNo (N := some 15) ?_
      refine hkPt (i := 6) (N := some 16) HT_ ?_
      refine one_ (i := 10) (N := some 20) #[true, true, true, true, true, true, true, true, true, true, true, false, false] rfl rfl (one_of HT_.out (by kernel_rfl)) (by decide) (fun K hK => ?_)
      refine goes_ Tryd.func68 (by kernel_rfl) rfl #[.int .i64 ji15] (by rfl) rfl rfl (by (try simp only [List.map_toArray, List.map_cons, List.map_nil]); first | done | (simp only [hji15]; rfl) | rfl | (simp only [List.length_drop, List.length_take]; rfl)) ?_
      with_reducible refine (spec_l2of.calls k ji15 t337 _ A16.out).mono ?_
      rintro e w27 ⟨v338, rfl, ho0, hb⟩
      refine ⟨_, rfl, ?_⟩
      have n_ := hkA (Aside0.mk (Kd.R_elder' (hkR HO336) (Kd.R_base ho0) hb)) (hkA (Aside0.mk (Kd.R_lower (Kd.R_new' ho0 (Kd.R_lt (hkR HO336))) (below_size (hkS HB)))) (hkA (hkBb BK329 hb) (hkA (hkBb BK330 hb) (hkU HB hb))))
      clear HO336 BK329 BK330 HB
      obtain ⟨HO336, HO339, BK329, BK330, HB⟩ := n_
      (try clear hb); (try clear ho0)
      obtain ⟨Ao28, co28, eo28⟩ := Kd.R_slice HO339.out
      (first | subst eo28 | (injection eo28 with f1_ f2_ f3_; have f4_ := f1_.symm; have f5_ := f3_.symm; clear f1_ f2_ f3_; subst f4_; subst f5_))
      refine hK.out _ _ ((blk_cell BK329.out 0).trans rfl) (fun hHeld => ?_)
      clear hK K
      refine hkNo (N := some 20) ?_
      refine one_ (i := 11) (N := some 21) #[true, true, true, true, true, true, true, true, true, true, true, true, false] rfl rfl (one_of HT_.out (by kernel_rfl)) (by decide) (fun K hK => ?_)
      refine goes_ Tryd.func135 (by kernel_rfl) rfl #[.agg #[.slice Ao26 y334.length co26], .agg #[.slice Ao28 t337.length co28]] (by rfl) rfl rfl hkL ?_
      with_reducible refine (spec_l2mul.calls k _ _ y334 _ _ t337 t340 _ ?side1 ?side2 ?side3 ?side4 A17.out).mono ?_
      (case side1 => exact hkC ((Kd.R_reads' HO336.out).2.2))
      (case side2 => exact (Kd.R_reads' HO336.out).2.1)
      (case side3 => exact hkC ((Kd.R_reads' HO339.out).2.2))
      (case side4 => exact (Kd.R_reads' HO339.out).2.1)
      rintro e w29 ⟨v341, rfl, ho0, hb⟩
      refine ⟨_, rfl, ?_⟩
      have n_ := hkA (Aside0.mk (Kd.R_elder' (hkR HO336) (Kd.R_base ho0) hb)) (hkA (Aside0.mk (Kd.R_elder' (hkR HO339) (Kd.R_base ho0) hb)) (hkA (Aside0.mk (Kd.R_lower (Kd.R_new' (Kd.R_new' ho0 (Kd.R_lt (hkR HO336))) (Kd.R_lt (hkR HO339))) (below_size (hkS HB)))) (hkA (hkBb BK329 hb) (hkA (hkBb BK330 hb) (hkU HB hb)))))
      clear HO336 HO339 BK329 BK330 HB
      obtain ⟨HO336, HO339, HO342, BK329, BK330, HB⟩ := n_
      (try clear hb); (try clear ho0)
      obtain ⟨Ao30, co30, eo30⟩ := Kd.R_slice HO342.out
      (first | subst eo30 | (injection eo30 with f1_ f2_ f3_; have f4_ := f1_.symm; have f5_ := f3_.symm; clear f1_ f2_ f3_; subst f4_; subst f5_))
      refine hK.out _ _ ((blk_cell BK329.out 0).trans rfl) (fun hHeld => ?_)
      clear hK K
      refine hkNo (N := some 21) ?_
      refine one_ (i := 12) (N := none) #[true, true, true, true, true, true, true, true, true, true, true, true, true] rfl rfl (one_of HT_.out (by kernel_rfl)) (by decide) (fun K hK => ?_)
      have hs31 : w29.cell? ⟨gb330, 0, none⟩ = some (.slice none 0 0) := (blk_cell BK330.out 0).trans rfl
      have hfs31 := blk_frozen BK330.out 0
      have hns31_0 := NB329_330.out
      have hms31_0 := NB330_329.out
      refine skip_ (w1 := ?_) (by rfl) rfl ?_ ?_
      rotate_left
      ·go_simp
       rfl
      refine hK.out _ _ (((cell_far (p := ⟨gb330, _, none⟩) NB329_330.out _).trans (hHeld))) (fun hHeld => ?_)
      clear hK K
      refine done_ (done_of HT_.out (by kernel_rfl)) ?_
      try go_wp2
      refine bodyPost_ret (results_cell_row rfl _ _ gb330 26 #[.slice Ao30 t340.length co30] (0, 0) _ rfl hkPp Tryd.underlying26 rfl (by kernel_rfl)) rfl ?_
      exact ⟨_, by first | rfl | (simp [errW_none, errW_some] <;> rfl) | (simp only [← hji9, ← hji13, ← hji15]; first | rfl | (simp [errW_none, errW_some] <;> rfl)) | (simp [*, errW_none, errW_some] <;> rfl), by (with_reducible repeat (first | apply Kd.R_alloc | apply Kd.R_drewN | apply Kd.R_drew)); exact Kd.R_mono (Kd.R_far (p := ⟨gb330, 0, none⟩) (Kd.R_types HO342.out BK330.out (by decide)) (fun _ hk => hk.2) (.slice Ao30 t340.length co30)) (fun _ hk => trivial), hkS HB⟩
     ·rw [if_neg c14] at H
      exact absurd H (by simp)
    ·rw [if_neg c12] at H
     exact absurd H (by simp)
   ·rw [if_neg c11] at H
    exact absurd H (by simp)
  ·rw [if_neg c10] at H
   exact absurd H (by simp)

end Go.Proofs.YtgjpahofopoflaaDoor.PFnFlOrder
