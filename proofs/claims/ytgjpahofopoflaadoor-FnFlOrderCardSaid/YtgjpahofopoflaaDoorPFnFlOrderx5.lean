-- Written by our own driver (wip/hand/hprint.py) over the seat's translation.
import Derived.Test.YtgjpahofopoflaaDoorPFnFlOrderx0
import Derived.Test.YtgjpahofopoflaaDoorPFnFlOrderx3
import Derived.Test.YtgjpahofopoflaaDoorPFnFlOrderx4
namespace Go.Proofs.YtgjpahofopoflaaDoor.PFnFlOrder
open Go.RowKit Go.Proofs.YtgjpahofopoflaaDoorW.PrintWords Go.Proofs.YtgjpahofopoflaaDoorW.PrintLast Go.Proofs.YtgjpahofopoflaaDoorW.PrintMore
attribute [local go_sem] max2_int min2_int max_two min_two max_three min_three max_four min_four   -- for this text's walks alone
set_option linter.unusedVariables false
set_option linter.unusedSimpArgs false

/-! ### impl_exact_odd: function 70 -/
def impl_exact_odd.f (k : Nat) (a0_0 : Bool) (l0_1 : List Int) (a0_2 : Int) : Option (Bool × List Int × Int) := if (l0_1.length : Int) = 0 then (some (false, ([] : List Int), 0)) else ((impl_trailOf.f k l0_1).bind fun t141 => ((impl_down.f k l0_1 t141).bind fun t142 => (some (a0_0, t142, wrap64 (a0_2 + t141)))))
theorem impl_exact_odd.mono : ∀ a0 a1 a2 k, LeO (impl_exact_odd.f k a0 a1 a2) (impl_exact_odd.f (k + 1) a0 a1 a2) := by
 intro a0 a1 a2 k
 unfold impl_exact_odd.f
 repeat' first
   | (with_reducible exact impl_down.mono _ _ _)
   | (with_reducible exact impl_trailOf.mono _ _)
   | (with_reducible exact LeO.refl _)
   | (with_reducible exact LeO.none _)
   | (with_reducible refine LeO.ite ?_ ?_)
   | (with_reducible refine LeO.bind ?_ (fun _ => ?_))
   | exact impl_down.mono _ _ _
   | exact impl_trailOf.mono _ _
   | exact LeO.none _
   | refine LeO.ite ?_ ?_
   | refine LeO.bind ?_ (fun _ => ?_)
def impl_exact_odd.T4 : Bool × List (List Nat × List Nat) := (true, [([], []), ([0], [0]), ([], []), ([2], [2]), ([], []), ([3, 4], [3, 4]), ([], []), ([6], [6]), ([], []), ([7, 8], [7, 8]), ([1, 5, 9], [1, 5, 9]), ([10, 5, 0, 1, 2, 3, 4, 5, 6, 7, 8, 9, 10], [10])])
def impl_exact_odd.B4 : List Nat := [0, 1, 0, 4, 0, 28, 0, 64, 0, 448, 1023, 2047]
theorem impl_exact_odd.tab4 : rtab .any (opsOf Tryd.f70 4) = impl_exact_odd.T4 := by kernel_rfl
theorem impl_exact_odd.bits4 : waitsOk impl_exact_odd.T4.2 impl_exact_odd.B4 = true := by kernel_rfl
set_option maxHeartbeats 8000000 in
set_option maxRecDepth 100000 in
theorem impl_exact_odd.calls (k : Nat) (a0_0 : Bool) (A0_1 : Option Addr) (c0_1 : Nat) (l0_1 : List Int) (a0_2 : Int) (r1 : Bool) (r2 : List Int) (r3 : Int) (w : World) (hr0_1 : Kd.C (Kd.int .i64) w A0_1 l0_1.length l0_1) (hc0_1 : l0_1.length ≤ c0_1) (h : impl_exact_odd.f k a0_0 l0_1 a0_2 = some (r1, r2, r3)) (hT : hTab w := by exact hTab_use (by assumption)) :
  Calls Tryd.prog 70 #[.agg #[.bool a0_0, .slice A0_1 l0_1.length c0_1, .int .i64 a0_2]] w fun e w' => ∃ v1_ : Value, e = .returned (.agg #[.bool r1, v1_, .int .i64 r3]) ∧ Kd.R (Kd.int .i64) 3 w' w.heap.size (fun _ => True) v1_ r2 ∧ Below w.heap.size w w' := by
 have HT0 := Aside0.mk hT
 clear hT
 have hu76 := Tryd.underlying76
 have HR0_1 := Aside0.mk hr0_1
 have HC0_1 := Aside0.mk hc0_1
 clear hr0_1 hc0_1
 have HB := Aside0.mk (Below.refl w.heap.size w)
 have H : (if (l0_1.length : Int) = 0 then (some (false, ([] : List Int), 0)) else ((impl_trailOf.f k l0_1).bind fun t141 => ((impl_down.f k l0_1 t141).bind fun t142 => (some (a0_0, t142, wrap64 (a0_2 + t141)))))) = some (r1, r2, r3) := h
 clear h
 by_cases c2 : (l0_1.length : Int) = 0
 ·rw [if_pos c2] at H
  have c2b0 : ((l0_1.length : Int) == 0) = true := beq_iff_eq.mpr c2
  have c2b1 : ((l0_1.length : Int) != 0) = false := bne_eq_false_iff_eq.mpr c2
  clear c2
  simp only [Option.some.injEq, Prod.mk.injEq] at H
  obtain ⟨rfl, rfl, rfl⟩ := H
  go_enter Tryd.func70, Tryd.ntmps70
  go_wp2_with (first | ((with_reducible refine gate_dst (N := 1) rfl ?_); refine hkBox (N := 1) (cs := #[.bool a0_0, .slice A0_1 l0_1.length c0_1, .int .i64 a0_2]) (t := 76) ?_; intro gb139 hg w3 hbox hb; have n_ := hkA (hkU HB hb) (hkA (Aside0.mk (hbox)) (hkA (hkG hg (hkS HB)) (hkG hg (hkS HB)))); clear HB; obtain ⟨HB, BK139, GW139, GE139⟩ := n_; clear hb hbox hg) | ((with_reducible refine gate_dst (N := 2) rfl ?_); refine hkBox (N := 2) (cs := #[.bool false, .slice none 0 0, .int .i64 0]) (t := 76) ?_; intro gb140 hg w4 hbox hb; have n_ := hkA (hkBb BK139 hb) (hkA (hkU HB hb) (hkA (Aside0.mk (hbox)) (hkA (hkG hg (hkS HB)) (hkA (hkG hg (hkS HB)) (hkA (hkN hg BK139) (hkM hg BK139)))))); clear BK139 HB; obtain ⟨BK139, HB, BK140, GW140, GE140, NB139_140, NB140_139⟩ := n_; clear hb hbox hg; have hnb5 := NB139_140.out; have hnc5 := NB140_139.out; obtain ⟨hcz6_0, hfz6_0, hcz6_1, hfz6_1, hcz6_2, hfz6_2⟩ := hkc3 BK139; obtain ⟨hcz7_0, hfz7_0, hcz7_1, hfz7_1, hcz7_2, hfz7_2⟩ := hkc3 BK140))
  refine bodyPost_ret (results_cell_row rfl _ _ gb140 76 #[.bool false, .slice none 0 0, .int .i64 0] (0, 0) _ rfl hkPp Tryd.underlying76 rfl (by kernel_rfl)) rfl ?_
  exact ⟨_, hkE, by first | exact Kd.R_nil _ _ _ _ _ | exact Kd.N_nil _ _ _ _ _ | exact Kd.V_nil _ _ _ _ _ | exact Kd.Q_nil _ _ _ _ _ | exact Kd.S_nil _ _ _ _ _, hkS HB⟩
 ·rw [if_neg c2] at H
  have c2b0 : ((l0_1.length : Int) == 0) = false := beq_eq_false_iff_ne.mpr c2
  have c2b1 : ((l0_1.length : Int) != 0) = true := bne_iff_ne.mpr c2
  have c2b2 : ¬ (l0_1 = []) := fun h_ => c2 (by rw [h_]; rfl)
  replace H := hBi H
  obtain ⟨t141, A80, H⟩ := H
  replace H : ((impl_down.f k l0_1 t141).bind fun t142 => (some (a0_0, t142, wrap64 (a0_2 + t141)))) = some (r1, r2, r3) := H
  have A8 := Aside0.mk A80
  clear A80
  replace H := hBi H
  obtain ⟨t142, A90, H⟩ := H
  replace H : (some (a0_0, t142, wrap64 (a0_2 + t141))) = some (r1, r2, r3) := H
  have A9 := Aside0.mk A90
  clear A90
  simp only [Option.some.injEq, Prod.mk.injEq] at H
  obtain ⟨rfl, rfl, rfl⟩ := H
  go_enter Tryd.func70, Tryd.ntmps70
  try go_wp2_with (first | ((with_reducible refine gate_dst (N := 1) rfl ?_); refine hkBox (N := 1) (cs := #[.bool a0_0, .slice A0_1 l0_1.length c0_1, .int .i64 a0_2]) (t := 76) ?_; intro gb139 hg w10 hbox hb; have n_ := hkA (hkU HB hb) (hkA (Aside0.mk (hbox)) (hkA (hkG hg (hkS HB)) (hkG hg (hkS HB)))); clear HB; obtain ⟨HB, BK139, GW139, GE139⟩ := n_; clear hb hbox hg) | ((with_reducible refine gate_dst (N := 2) rfl ?_); refine hkBox (N := 2) (cs := #[.bool false, .slice none 0 0, .int .i64 0]) (t := 76) ?_; intro gb140 hg w11 hbox hb; have n_ := hkA (hkBb BK139 hb) (hkA (hkU HB hb) (hkA (Aside0.mk (hbox)) (hkA (hkG hg (hkS HB)) (hkA (hkG hg (hkS HB)) (hkA (hkN hg BK139) (hkM hg BK139)))))); clear BK139 HB; obtain ⟨BK139, HB, BK140, GW140, GE140, NB139_140, NB140_139⟩ := n_; clear hb hbox hg; have hnb12 := NB139_140.out; have hnc12 := NB140_139.out; obtain ⟨hcz13_0, hfz13_0, hcz13_1, hfz13_1, hcz13_2, hfz13_2⟩ := hkc3 BK139) | ((with_reducible refine gate_callee (f := 103) rfl ?_); refine hkGo (N := some 11) Tryd.func103 #[.slice A0_1 l0_1.length c0_1] ?_; (with_reducible refine (impl_trailOf.calls k _ _ l0_1 t141 _ ?side1 ?side2 A8.out).mono ?_); (case side1 => exact hkC ((Kd.C_below HR0_1.out HB.out))); (case side2 => exact HC0_1.out); rintro e w' ⟨rfl, ⟨nd, rfl⟩⟩; refine ⟨_, rfl, ?_⟩; (try (rw [drewN_self w11]; generalize hq_ : World.drewN w11 _ = w11; have n0_ : Aside0 (w11.heap[gb139]? = some (.cells #[.bool a0_0, .slice A0_1 l0_1.length c0_1, .int .i64 a0_2] 76 (0, 0))) := ⟨by rw [← hq_]; exact (hkB BK139)⟩; have n1_ : Aside0 (w11.heap[gb140]? = some (.cells #[.bool false, .slice none 0 0, .int .i64 0] 76 (0, 0))) := ⟨by rw [← hq_]; exact (hkB BK140)⟩; have n2_ : Aside0 (Below w.heap.size w w11) := ⟨by rw [← hq_]; exact (hkS HB)⟩; clear BK139 BK140 HB hq_; have BK139 := n0_; have BK140 := n1_; have HB := n2_; clear n0_ n1_ n2_))))
  have n_ := hkA (Aside0.mk (blk_drew BK139.out)) (hkA (Aside0.mk (blk_drew BK140.out)) (Aside0.mk (below_drew1 HB.out)))
  clear BK139 BK140 HB
  obtain ⟨BK139, BK140, HB⟩ := n_
  refine start_ (n := 12) (S := fun w' => w'.cell? ⟨gb139, 0, none⟩ = some (.bool a0_0) ∧ w'.cell? ⟨gb139, 1, none⟩ = some (.slice A0_1 l0_1.length c0_1) ∧ w'.cell? ⟨gb139, 2, none⟩ = some (.int .i64 a0_2)) (ds := []) #[false, false, false, false, false, false, false, false, false, false, false, false] (by kernel_rfl) rfl rfl ⟨(blk_cell BK139.out 0).trans rfl, (blk_cell BK139.out 1).trans rfl, (blk_cell BK139.out 2).trans rfl⟩ (fun hHeld => ?_); refine with_tabW impl_exact_odd.tab4 impl_exact_odd.bits4 (fun HT_ HW_ => ?_)
  generalize w11.drew = w14 at BK139 BK140 HB hHeld ⊢
  refine hkPt (i := 0) (N := some 12) HT_ ?_
  refine hkPt (i := 2) (N := some 14) HT_ ?_
  refine hkPt (i := 4) (N := some 16) HT_ ?_
  refine hkPt (i := 6) (N := some 18) HT_ ?_
  refine hkPt (i := 8) (N := some 20) HT_ ?_
  refine hkTt (i := 1) (N := some 13) HT_ HW_ hHeld ?_ (hy := by rintro w' ⟨s0, s1, s2⟩; go_simp; with_reducible rfl)
  refine hkTt (i := 3) (N := some 15) HT_ HW_ hHeld ?_ (hy := by rintro w' ⟨s0, s1, s2⟩; go_simp; with_reducible rfl)
  refine hkTt (i := 7) (N := some 19) HT_ HW_ hHeld ?_ (hy := by rintro w' ⟨s0, s1, s2⟩; go_simp; with_reducible rfl)
  refine hkPt (i := 9) (N := some 21) HT_ ?_
  refine one_ (i := 5) (N := some 17) #[true, true, true, true, true, true, true, true, true, true, false, false] rfl rfl (one_of HT_.out (by kernel_rfl)) (by decide) (fun K hK => ?_)
  refine goes_ Tryd.func104 (by kernel_rfl) rfl #[.slice A0_1 l0_1.length c0_1, .int .i64 t141] (by rfl) rfl rfl hkL ?_
  with_reducible refine (impl_down.calls k _ _ l0_1 t141 t142 _ ?side1 ?side2 A9.out).mono ?_
  (case side1 => exact hkC ((Kd.C_below HR0_1.out HB.out)))
  (case side2 => exact HC0_1.out)
  rintro e w15 ⟨v143, rfl, ho0, hb⟩
  refine ⟨_, rfl, ?_⟩
  have n_ := hkA (Aside0.mk (Kd.R_lower ho0 (below_size (hkS HB)))) (hkA (hkBb BK139 hb) (hkA (hkBb BK140 hb) (hkU HB hb)))
  clear BK139 BK140 HB
  obtain ⟨HO144, BK139, BK140, HB⟩ := n_
  (try clear hb); (try clear ho0)
  obtain ⟨Ao16, co16, eo16⟩ := Kd.R_slice HO144.out
  (first | subst eo16 | (injection eo16 with f1_ f2_ f3_; have f4_ := f1_.symm; have f5_ := f3_.symm; clear f1_ f2_ f3_; subst f4_; subst f5_))
  refine hK.out _ _ ⟨(blk_cell BK139.out 0).trans rfl, (blk_cell BK139.out 1).trans rfl, (blk_cell BK139.out 2).trans rfl⟩ (fun hHeld => ?_)
  clear hK K
  refine hkNo (N := some 17) ?_
  refine hkPt (i := 10) (N := some 22) HT_ ?_
  refine one_ (i := 11) (N := none) #[true, true, true, true, true, true, true, true, true, true, true, true] rfl rfl (one_of HT_.out (by kernel_rfl)) (by decide) (fun K hK => ?_)
  have hs17 : w15.cell? ⟨gb140, 0, none⟩ = some (.bool false) := (blk_cell BK140.out 0).trans rfl
  have hfs17 := blk_frozen BK140.out 0
  have hns17_0 := NB139_140.out
  have hms17_0 := NB140_139.out
  have hs18 : w15.cell? ⟨gb140, 1, none⟩ = some (.slice none 0 0) := (blk_cell BK140.out 1).trans rfl
  have hfs18 := blk_frozen BK140.out 1
  have hns18_0 := NB139_140.out
  have hms18_0 := NB140_139.out
  have hs19 : w15.cell? ⟨gb140, 2, none⟩ = some (.int .i64 0) := (blk_cell BK140.out 2).trans rfl
  have hfs19 := blk_frozen BK140.out 2
  have hns19_0 := NB139_140.out
  have hms19_0 := NB140_139.out
  refine skip_ (w1 := ?_) (by rfl) rfl ?_ ?_
  rotate_left
  ·go_simp
   rfl
  refine hK.out _ _ ⟨((cell_far (p := ⟨gb140, _, none⟩) NB139_140.out _).trans (((cell_far (p := ⟨gb140, _, none⟩) NB139_140.out _).trans (((cell_far (p := ⟨gb140, _, none⟩) NB139_140.out _).trans (hHeld.1)))))), ((cell_far (p := ⟨gb140, _, none⟩) NB139_140.out _).trans (((cell_far (p := ⟨gb140, _, none⟩) NB139_140.out _).trans (((cell_far (p := ⟨gb140, _, none⟩) NB139_140.out _).trans (hHeld.2.1)))))), ((cell_far (p := ⟨gb140, _, none⟩) NB139_140.out _).trans (((cell_far (p := ⟨gb140, _, none⟩) NB139_140.out _).trans (((cell_far (p := ⟨gb140, _, none⟩) NB139_140.out _).trans (hHeld.2.2))))))⟩ (fun hHeld => ?_)
  clear hK K
  refine done_ (done_of HT_.out (by kernel_rfl)) ?_
  try go_wp2
  refine bodyPost_ret (results_cell_row rfl _ _ gb140 76 #[.bool a0_0, .slice Ao16 t142.length co16, .int .i64 (wrap64 (a0_2 + t141))] (0, 0) _ rfl hkPp Tryd.underlying76 rfl (by kernel_rfl)) rfl ?_
  exact ⟨_, hkE, by (with_reducible repeat (first | apply Kd.R_alloc | apply Kd.R_drewN | apply Kd.R_drew)); exact Kd.R_mono (Kd.R_far (p := ⟨gb140, 2, none⟩) (Kd.R_far (p := ⟨gb140, 1, none⟩) (Kd.R_far (p := ⟨gb140, 0, none⟩) (Kd.R_types HO144.out BK140.out (by decide)) (fun _ hk => hk.2) (.bool a0_0)) (fun _ hk => hk.2) (.slice Ao16 t142.length co16)) (fun _ hk => hk.2) (.int .i64 (wrap64 (a0_2 + t141)))) (fun _ hk => trivial), hkS HB⟩

/-! ### slices_Clone_int_int: function 126 -/
def slices_Clone_int_int.f (l0 : List Int) : Option (List Int) := if l0.length < 17592186044416 then some l0 else none
theorem slices_Clone_int_int.calls (A0 : Option Addr) (c0 : Nat) (l0 : List Int) (r : List Int) (w : World) (hr0 : Kd.C (Kd.int .i64) w A0 l0.length l0) (hc0 : l0.length ≤ c0) (h : slices_Clone_int_int.f l0 = some r) :
  Calls Tryd.prog 126 #[.slice A0 l0.length c0] w fun e w' => ∃ v0_ : Value, e = .returned (v0_) ∧ Kd.R (Kd.int .i64) 3 w' w.heap.size (fun _ => True) v0_ r ∧ Below w.heap.size w w' := by
 replace h : (if l0.length < 17592186044416 then some l0 else none) = some r := h
 by_cases hl : l0.length < 17592186044416
 ·rw [if_pos hl] at h
  obtain rfl := Option.some.inj h
  clear h
  have HR0 := Aside0.mk hr0
  have HC0 := Aside0.mk hc0
  have LM := Aside0.mk hl
  cases A0 with
  | none =>
   have hz : l0 = [] := by
    by_cases hp : 0 < l0.length
    ·obtain ⟨ad, e, _⟩ := hr0.2.2 hp
     cases e
    ·exact List.eq_nil_of_length_eq_zero (by omega)
   clear hr0 hc0 hl
   subst hz
   have heq := fun w => Lib.run_eql_slice_nil (P := Tryd.prog) w 24 3 none 0 c0 0 0 Tryd.underlying24
   go_enter Tryd.func126, Tryd.ntmps126
   go_wp2
   go_ret
   exact ⟨_, rfl, Kd.R_nil _ _ _ _ _, Below.refl _ _⟩
  | some ad =>
   clear hr0 hc0 hl
   have HB := Aside0.mk (Below.refl w.heap.size w)
   have heq := fun w => Lib.run_eql_slice_nil (P := Tryd.prog) w 24 3 (some ad) l0.length c0 0 0 Tryd.underlying24
   go_enter Tryd.func126, Tryd.ntmps126
   go_wp2_with (first | ((with_reducible refine gate_dst (N := 5) rfl ?_); refine Kd.R_lit (Kd.int .i64) _ 3 ?hg (N := 5) ?hd (xs := ([] : List Int)) (inner := []) (ok := fun _ => True) (okp := fun _ => True) ?hr ?hp (fun _ hk => hk) trivial (Below.refl _ _) (Nat.le_refl _) (by simp) ?_; (case hd => rfl); (case hg => rfl); (case hr => first | (go_simp; done) | (go_simp; rfl)); (case hp => exact (Reps.none _ _)); intro v126 w11 ho12 hb hg_ hnew_; clear hg_ hnew_; have n1_ := Aside0.mk (below_step HB.out hb); clear HB; have HO := Aside0.mk ho12; have HB := n1_; clear n1_ hb ho12) | ((with_reducible refine gate_builtin (b := .append) (xs := #[.tmp 5, .tmp 6]) rfl ?_); at_builtin; refine Kd.R_append_rows (Kd.int .i64) (w0 := w) w.heap.size rfl (.tmp 5) (.tmp 6) 24 3 (.int .i64 0) 8 rfl Tryd.underlying24 info3 rfl (by decide) (by omega) v126 [] l0 _ _ _ (fun _ => True) (fun _ => False) rfl rfl ?aO ?aR (fun _ _ h => h) (fun _ h => h.elim) ?aF ?aB ?aS ?aL ?_; (case aR => exact Kd.C_below HR0.out HB.out); (case aB => exact HB.out); (case aF => exact (fun _ _ => trivial)); (case aO => exact Kd.R_lower HO.out (Nat.le_refl _)); (case aS => exact below_size HB.out); (case aL => have := LM.out; simp; omega); intro v130 w14 ho hb hg hat; rw [List.nil_append] at ho; clear HB; have HB := Aside0.mk hb; have HR := Aside0.mk ho; clear ho hb hg hat))
   go_ret
   exact ⟨_, rfl, HR.out, HB.out⟩
 ·rw [if_neg hl] at h
  cases h


/-! ### impl_natOf: function 105 -/
def impl_natOf.f (l0 : List Int) : Option (List Int × Bool) := if (l0.length : Int) > 100 then (some (([] : List Int), false)) else ((slices_Clone_int_int.f l0).bind fun t146 => (some (t146, true)))
set_option maxHeartbeats 8000000 in
set_option maxRecDepth 100000 in
theorem impl_natOf.calls (A0 : Option Addr) (c0 : Nat) (l0 : List Int) (r1 : List Int) (r2 : Bool) (w : World) (hr0 : Kd.C (Kd.int .i64) w A0 l0.length l0) (hc0 : l0.length ≤ c0) (h : impl_natOf.f l0 = some (r1, r2)) :
  Calls Tryd.prog 105 #[.slice A0 l0.length c0] w fun e w' => ∃ v0_ : Value, e = .returned (.tuple #[.agg #[v0_], .bool r2]) ∧ Kd.R (Kd.int .i64) 3 w' w.heap.size (fun _ => True) v0_ r1 ∧ Below w.heap.size w w' := by
 have hu26 := Tryd.underlying26
 have HR0 := Aside0.mk hr0
 have HC0 := Aside0.mk hc0
 clear hr0 hc0
 have HB := Aside0.mk (Below.refl w.heap.size w)
 have H : (if (l0.length : Int) > 100 then (some (([] : List Int), false)) else ((slices_Clone_int_int.f l0).bind fun t146 => (some (t146, true)))) = some (r1, r2) := h
 clear h
 by_cases c2 : (l0.length : Int) > 100
 ·rw [if_pos c2] at H
  have c2b0 : decide (100 < (l0.length : Int)) = true := decide_eq_true c2
  have c2b1 : decide (100 < l0.length) = true := decide_eq_true (by omega)
  clear c2
  simp only [Option.some.injEq, Prod.mk.injEq] at H
  obtain ⟨rfl, rfl⟩ := H
  go_enter Tryd.func105, Tryd.ntmps105
  go_wp2_with (first | ((with_reducible refine gate_dst (N := 2) rfl ?_); refine hkBox (N := 2) (cs := #[.slice none 0 0]) (t := 26) ?_; intro gb145 hg w3 hbox hb; have n_ := hkA (hkU HB hb) (hkA (Aside0.mk (hbox)) (hkA (hkG hg (hkS HB)) (hkG hg (hkS HB)))); clear HB; obtain ⟨HB, BK145, GW145, GE145⟩ := n_; clear hb hbox hg; obtain ⟨hcz4_0, hfz4_0⟩ := hkc1 BK145))
  refine bodyPost_ret (results_ct rfl _ _ gb145 26 #[.slice none 0 0] (0, 0) _ rfl hkPp Tryd.underlying26 rfl (by kernel_rfl)) rfl ?_
  exact ⟨_, hkE, by first | exact Kd.R_nil _ _ _ _ _ | exact Kd.N_nil _ _ _ _ _ | exact Kd.V_nil _ _ _ _ _ | exact Kd.Q_nil _ _ _ _ _ | exact Kd.S_nil _ _ _ _ _, hkS HB⟩
 ·rw [if_neg c2] at H
  have c2b0 : decide (100 < (l0.length : Int)) = false := decide_eq_false c2
  have c2b1 : decide (100 < l0.length) = false := decide_eq_false (by omega)
  clear c2
  replace H := hBi H
  obtain ⟨t146, A50, H⟩ := H
  replace H : (some (t146, true)) = some (r1, r2) := H
  have A5 := Aside0.mk A50
  clear A50
  simp only [Option.some.injEq, Prod.mk.injEq] at H
  obtain ⟨rfl, rfl⟩ := H
  go_enter Tryd.func105, Tryd.ntmps105
  go_wp2_with (first | ((with_reducible refine gate_dst (N := 2) rfl ?_); refine hkBox (N := 2) (cs := #[.slice none 0 0]) (t := 26) ?_; intro gb145 hg w6 hbox hb; have n_ := hkA (hkU HB hb) (hkA (Aside0.mk (hbox)) (hkA (hkG hg (hkS HB)) (hkG hg (hkS HB)))); clear HB; obtain ⟨HB, BK145, GW145, GE145⟩ := n_; clear hb hbox hg) | ((with_reducible refine gate_callee (f := 126) rfl ?_); refine hkGo (N := some 9) Tryd.func126 #[.slice A0 l0.length c0] ?_; (with_reducible refine (slices_Clone_int_int.calls _ _ l0 t146 _ ?side1 ?side2 A5.out).mono ?_); (case side1 => exact hkC ((Kd.C_below HR0.out HB.out))); (case side2 => exact HC0.out); rintro e w7 ⟨v147, rfl, ho0, hb⟩; refine ⟨_, rfl, ?_⟩; have n_ := hkA (Aside0.mk (Kd.R_lower ho0 (below_size (hkS HB)))) (hkA (hkBb BK145 hb) (hkU HB hb)); clear BK145 HB; obtain ⟨HO148, BK145, HB⟩ := n_; (try clear hb); (try clear ho0); obtain ⟨Ao8, co8, eo8⟩ := Kd.R_slice HO148.out; subst eo8; obtain ⟨hcz9_0, hfz9_0⟩ := hkc1 BK145))
  refine bodyPost_ret (results_ct rfl _ _ gb145 26 #[.slice Ao8 t146.length co8] (0, 0) _ rfl hkPp Tryd.underlying26 rfl (by kernel_rfl)) rfl ?_
  exact ⟨_, hkE, by (with_reducible repeat (first | apply Kd.R_alloc | apply Kd.R_drewN | apply Kd.R_drew)); exact Kd.R_mono (Kd.R_far (p := ⟨gb145, 0, none⟩) (Kd.R_types HO148.out BK145.out (by decide)) (fun _ hk => hk.2) (.slice Ao8 t146.length co8)) (fun _ hk => trivial), hkS HB⟩

/-! ### impl_wholeOf: function 71 -/
def impl_wholeOf.f (a0 : Bool) (l1 : List Int) : Option (Bool × List Int × Bool) := (impl_natOf.f l1).bind fun bt150 => (if bt150.2 = true then (if a0 = true then (some (decide ((l1.length : Int) > 0), bt150.1, true)) else (some (false, bt150.1, true))) else (some (false, ([] : List Int), false)))
set_option maxHeartbeats 8000000 in
set_option maxRecDepth 100000 in
theorem impl_wholeOf.calls (a0 : Bool) (A1 : Option Addr) (c1 : Nat) (l1 : List Int) (r1 : Bool) (r2 : List Int) (r3 : Bool) (w : World) (hr1 : Kd.C (Kd.int .i64) w A1 l1.length l1) (hc1 : l1.length ≤ c1) (h : impl_wholeOf.f a0 l1 = some (r1, r2, r3)) :
  Calls Tryd.prog 71 #[.bool a0, .slice A1 l1.length c1] w fun e w' => ∃ v1_ : Value, e = .returned (.tuple #[.agg #[.bool r1, v1_], .bool r3]) ∧ Kd.R (Kd.int .i64) 3 w' w.heap.size (fun _ => True) v1_ r2 ∧ Below w.heap.size w w' := by
 have hu28 := Tryd.underlying28
 have hu26 := Tryd.underlying26
 have HR1 := Aside0.mk hr1
 have HC1 := Aside0.mk hc1
 clear hr1 hc1
 have HB := Aside0.mk (Below.refl w.heap.size w)
 have H : ((impl_natOf.f l1).bind fun bt150 => (if bt150.2 = true then (if a0 = true then (some (decide ((l1.length : Int) > 0), bt150.1, true)) else (some (false, bt150.1, true))) else (some (false, ([] : List Int), false)))) = some (r1, r2, r3) := h
 clear h
 replace H := hBi H
 obtain ⟨⟨t150, t153⟩, A30, H⟩ := H
 replace H : (if t153 = true then (if a0 = true then (some (decide ((l1.length : Int) > 0), t150, true)) else (some (false, t150, true))) else (some (false, ([] : List Int), false))) = some (r1, r2, r3) := H
 have A3 := Aside0.mk A30
 clear A30
 by_cases c4 : t153 = true
 ·subst c4
  have H1 : (if a0 = true then (some (decide ((l1.length : Int) > 0), t150, true)) else (some (false, t150, true))) = some (r1, r2, r3) := by rw [if_pos rfl] at H; exact H
  clear H
  have H := H1
  clear H1
  by_cases c5 : a0 = true
  ·subst c5
   have H1 : (some (decide ((l1.length : Int) > 0), t150, true)) = some (r1, r2, r3) := by rw [if_pos rfl] at H; exact H
   clear H
   have H := H1
   clear H1
   simp only [Option.some.injEq, Prod.mk.injEq] at H
   obtain ⟨rfl, rfl, rfl⟩ := H
   go_enter Tryd.func71, Tryd.ntmps71
   go_wp2_with (first | ((with_reducible refine gate_dst (N := 4) rfl ?_); (try (refine gate_guard (by rfl) ?_; dsimp only)); refine hkBox (N := 4) (cs := #[.bool false, .slice none 0 0]) (t := 28) ?_; intro gb149 hg w6 hbox hb; have n_ := hkA (hkU HB hb) (hkA (Aside0.mk (hbox)) (hkA (hkG hg (hkS HB)) (hkG hg (hkS HB)))); clear HB; obtain ⟨HB, BK149, GW149, GE149⟩ := n_; clear hb hbox hg) | ((with_reducible refine gate_callee (f := 105) rfl ?_); refine hkGo (N := some 10) Tryd.func105 #[.slice A1 l1.length c1] ?_; (with_reducible refine (impl_natOf.calls _ _ l1 t150 true _ ?side1 ?side2 A3.out).mono ?_); (case side1 => exact hkC ((Kd.C_below HR1.out HB.out))); (case side2 => exact HC1.out); rintro e w7 ⟨v151, rfl, ho0, hb⟩; refine ⟨_, rfl, ?_⟩; have n_ := hkA (Aside0.mk (Kd.R_lower ho0 (below_size (hkS HB)))) (hkA (hkBb BK149 hb) (hkU HB hb)); clear BK149 HB; obtain ⟨HO152, BK149, HB⟩ := n_; (try clear hb); (try clear ho0)) | ((with_reducible refine gate_dst (N := 6) rfl ?_); (try (refine gate_guard (by rfl) ?_; dsimp only)); refine hkBox (N := 6) (cs := #[.slice none 0 0]) (t := 26) ?_; intro gb154 hg w8 hbox hb; have n_ := hkA (hkRb HO152 hb) (hkA (hkBb BK149 hb) (hkA (hkU HB hb) (hkA (Aside0.mk (hbox)) (hkA (hkG hg (hkS HB)) (hkA (hkG hg (hkS HB)) (hkA (hkN hg BK149) (hkM hg BK149))))))); clear HO152 BK149 HB; obtain ⟨HO152, BK149, HB, BK154, GW154, GE154, NB149_154, NB154_149⟩ := n_; clear hb hbox hg; obtain ⟨Ao9, co9, eo9⟩ := Kd.R_slice HO152.out; subst eo9; have hnb10 := NB154_149.out; have hnc10 := NB149_154.out; obtain ⟨hcz11_0, hfz11_0⟩ := hkc1 BK154; obtain ⟨hcz12_0, hfz12_0, hcz12_1, hfz12_1⟩ := hkc2 BK149))
   refine bodyPost_ret (results_ct rfl _ _ gb149 28 #[.bool (decide (0 < l1.length)), .slice Ao9 t150.length co9] (0, 0) _ rfl hkPp Tryd.underlying28 rfl (by kernel_rfl)) rfl ?_
   exact ⟨_, hkE, by (with_reducible repeat (first | apply Kd.R_alloc | apply Kd.R_drewN | apply Kd.R_drew)); exact Kd.R_mono (Kd.R_far (p := ⟨gb149, 1, none⟩) (Kd.R_far (p := ⟨gb149, 0, none⟩) (Kd.R_far (p := ⟨gb154, 0, none⟩) (Kd.R_types (Kd.R_types HO152.out BK154.out (by decide)) BK149.out (by decide)) (fun _ hk => hk.1.2) (.slice Ao9 t150.length co9)) (fun _ hk => hk.2) (.bool (decide (0 < l1.length)))) (fun _ hk => hk.2) (.slice Ao9 t150.length co9)) (fun _ hk => trivial), hkS HB⟩
  ·replace c5 := Bool.eq_false_iff.mpr c5
   subst c5
   have H1 : (some (false, t150, true)) = some (r1, r2, r3) := by rw [if_neg (show ¬ (false = true) by decide)] at H; exact H
   clear H
   have H := H1
   clear H1
   simp only [Option.some.injEq, Prod.mk.injEq] at H
   obtain ⟨rfl, rfl, rfl⟩ := H
   go_enter Tryd.func71, Tryd.ntmps71
   go_wp2_with (first | ((with_reducible refine gate_dst (N := 4) rfl ?_); (try (refine gate_guard (by rfl) ?_; dsimp only)); refine hkBox (N := 4) (cs := #[.bool false, .slice none 0 0]) (t := 28) ?_; intro gb149 hg w13 hbox hb; have n_ := hkA (hkU HB hb) (hkA (Aside0.mk (hbox)) (hkA (hkG hg (hkS HB)) (hkG hg (hkS HB)))); clear HB; obtain ⟨HB, BK149, GW149, GE149⟩ := n_; clear hb hbox hg) | ((with_reducible refine gate_callee (f := 105) rfl ?_); refine hkGo (N := some 10) Tryd.func105 #[.slice A1 l1.length c1] ?_; (with_reducible refine (impl_natOf.calls _ _ l1 t150 true _ ?side1 ?side2 A3.out).mono ?_); (case side1 => exact hkC ((Kd.C_below HR1.out HB.out))); (case side2 => exact HC1.out); rintro e w14 ⟨v151, rfl, ho0, hb⟩; refine ⟨_, rfl, ?_⟩; have n_ := hkA (Aside0.mk (Kd.R_lower ho0 (below_size (hkS HB)))) (hkA (hkBb BK149 hb) (hkU HB hb)); clear BK149 HB; obtain ⟨HO152, BK149, HB⟩ := n_; (try clear hb); (try clear ho0)) | ((with_reducible refine gate_dst (N := 6) rfl ?_); (try (refine gate_guard (by rfl) ?_; dsimp only)); refine hkBox (N := 6) (cs := #[.slice none 0 0]) (t := 26) ?_; intro gb154 hg w15 hbox hb; have n_ := hkA (hkRb HO152 hb) (hkA (hkBb BK149 hb) (hkA (hkU HB hb) (hkA (Aside0.mk (hbox)) (hkA (hkG hg (hkS HB)) (hkA (hkG hg (hkS HB)) (hkA (hkN hg BK149) (hkM hg BK149))))))); clear HO152 BK149 HB; obtain ⟨HO152, BK149, HB, BK154, GW154, GE154, NB149_154, NB154_149⟩ := n_; clear hb hbox hg; obtain ⟨Ao16, co16, eo16⟩ := Kd.R_slice HO152.out; subst eo16; have hnb17 := NB154_149.out; have hnc17 := NB149_154.out; obtain ⟨hcz18_0, hfz18_0⟩ := hkc1 BK154; obtain ⟨hcz19_0, hfz19_0, hcz19_1, hfz19_1⟩ := hkc2 BK149))
   refine bodyPost_ret (results_ct rfl _ _ gb149 28 #[.bool false, .slice Ao16 t150.length co16] (0, 0) _ rfl hkPp Tryd.underlying28 rfl (by kernel_rfl)) rfl ?_
   exact ⟨_, hkE, by (with_reducible repeat (first | apply Kd.R_alloc | apply Kd.R_drewN | apply Kd.R_drew)); exact Kd.R_mono (Kd.R_far (p := ⟨gb149, 1, none⟩) (Kd.R_far (p := ⟨gb149, 0, none⟩) (Kd.R_far (p := ⟨gb154, 0, none⟩) (Kd.R_types (Kd.R_types HO152.out BK154.out (by decide)) BK149.out (by decide)) (fun _ hk => hk.1.2) (.slice Ao16 t150.length co16)) (fun _ hk => hk.2) (.bool false)) (fun _ hk => hk.2) (.slice Ao16 t150.length co16)) (fun _ hk => trivial), hkS HB⟩
 ·replace c4 := Bool.eq_false_iff.mpr c4
  subst c4
  have H1 : (some (false, ([] : List Int), false)) = some (r1, r2, r3) := by rw [if_neg (show ¬ (false = true) by decide)] at H; exact H
  clear H
  have H := H1
  clear H1
  simp only [Option.some.injEq, Prod.mk.injEq] at H
  obtain ⟨rfl, rfl, rfl⟩ := H
  go_enter Tryd.func71, Tryd.ntmps71
  go_wp2_with (first | ((with_reducible refine gate_dst (N := 4) rfl ?_); (try (refine gate_guard (by rfl) ?_; dsimp only)); refine hkBox (N := 4) (cs := #[.bool false, .slice none 0 0]) (t := 28) ?_; intro gb149 hg w20 hbox hb; have n_ := hkA (hkU HB hb) (hkA (Aside0.mk (hbox)) (hkA (hkG hg (hkS HB)) (hkG hg (hkS HB)))); clear HB; obtain ⟨HB, BK149, GW149, GE149⟩ := n_; clear hb hbox hg) | ((with_reducible refine gate_callee (f := 105) rfl ?_); refine hkGo (N := some 10) Tryd.func105 #[.slice A1 l1.length c1] ?_; (with_reducible refine (impl_natOf.calls _ _ l1 t150 false _ ?side1 ?side2 A3.out).mono ?_); (case side1 => exact hkC ((Kd.C_below HR1.out HB.out))); (case side2 => exact HC1.out); rintro e w21 ⟨v151, rfl, ho0, hb⟩; refine ⟨_, rfl, ?_⟩; have n_ := hkA (Aside0.mk (Kd.R_lower ho0 (below_size (hkS HB)))) (hkA (hkBb BK149 hb) (hkU HB hb)); clear BK149 HB; obtain ⟨HO152, BK149, HB⟩ := n_; (try clear hb); (try clear ho0)) | ((with_reducible refine gate_dst (N := 6) rfl ?_); (try (refine gate_guard (by rfl) ?_; dsimp only)); refine hkBox (N := 6) (cs := #[.slice none 0 0]) (t := 26) ?_; intro gb154 hg w22 hbox hb; have n_ := hkA (hkRb HO152 hb) (hkA (hkBb BK149 hb) (hkA (hkU HB hb) (hkA (Aside0.mk (hbox)) (hkA (hkG hg (hkS HB)) (hkA (hkG hg (hkS HB)) (hkA (hkN hg BK149) (hkM hg BK149))))))); clear HO152 BK149 HB; obtain ⟨HO152, BK149, HB, BK154, GW154, GE154, NB149_154, NB154_149⟩ := n_; clear hb hbox hg; obtain ⟨Ao23, co23, eo23⟩ := Kd.R_slice HO152.out; subst eo23; have hnb24 := NB154_149.out; have hnc24 := NB149_154.out; obtain ⟨hcz25_0, hfz25_0⟩ := hkc1 BK154; obtain ⟨hcz26_0, hfz26_0, hcz26_1, hfz26_1⟩ := hkc2 BK149))
  refine bodyPost_ret (results_ct rfl _ _ gb149 28 #[.bool false, .slice none 0 0] (0, 0) _ rfl hkPp Tryd.underlying28 rfl (by kernel_rfl)) rfl ?_
  exact ⟨_, hkE, by first | exact Kd.R_nil _ _ _ _ _ | exact Kd.N_nil _ _ _ _ _ | exact Kd.V_nil _ _ _ _ _ | exact Kd.Q_nil _ _ _ _ _ | exact Kd.S_nil _ _ _ _ _, hkS HB⟩

end Go.Proofs.YtgjpahofopoflaaDoor.PFnFlOrder
