-- Written by our own driver (wip/hand/hprint.py) over the seat's translation.
import Derived.Test.YtgjpahofopoflaaDoorPFnFlOrderx0
import Derived.Test.YtgjpahofopoflaaDoorPFnFlOrderx10
namespace Go.Proofs.YtgjpahofopoflaaDoor.PFnFlOrder
open Go.RowKit Go.Proofs.YtgjpahofopoflaaDoorW.PrintWords Go.Proofs.YtgjpahofopoflaaDoorW.PrintLast Go.Proofs.YtgjpahofopoflaaDoorW.PrintMore
attribute [local go_sem] max2_int min2_int max_two min_two max_three min_three max_four min_four   -- for this text's walks alone
set_option linter.unusedVariables false
set_option linter.unusedSimpArgs false

/-! ### spec_l2shr: function 79 -/
def spec_l2shr.f (k : Nat) (l0_0 : List Int) (a1 : Int) : Option (List Int) := if (wrap64 (Int.tdiv a1 16)) ≥ (l0_0.length : Int) then (some ([] : List Int)) else (if 0 ≤ (wrap64 (Int.tdiv a1 16)) then (if (wrap64 (Int.tdiv a1 16)) ≤ (l0_0.length : Int) then (if 0 ≤ (Int.tmod a1 16) then ((spec_l2small.f k (l0_0.drop ((wrap64 (Int.tdiv a1 16)) : Int).toNat) (shl .i64 1 (Int.tmod a1 16))).bind fun bt247 => (some bt247.1)) else (none)) else (none)) else (none))
theorem spec_l2shr.mono : ∀ a0 a1 k, LeO (spec_l2shr.f k a0 a1) (spec_l2shr.f (k + 1) a0 a1) := by
 intro a0 a1 k
 unfold spec_l2shr.f
 repeat' first
   | (with_reducible exact spec_l2small.mono _ _ _)
   | (with_reducible exact LeO.refl _)
   | (with_reducible exact LeO.none _)
   | (with_reducible refine LeO.ite ?_ ?_)
   | (with_reducible refine LeO.bind ?_ (fun _ => ?_))
   | exact spec_l2small.mono _ _ _
   | exact LeO.none _
   | refine LeO.ite ?_ ?_
   | refine LeO.bind ?_ (fun _ => ?_)
def spec_l2shr.T3 : Bool × List (List Nat × List Nat) := (true, [([], []), ([0], [0]), ([], []), ([2], [2]), ([1, 3], [1, 3]), ([4], [4]), ([], []), ([6], [6]), ([7], [7]), ([5, 8], [5, 8]), ([9], [9]), ([10], [10]), ([10], [10]), ([], []), ([13, 11, 9, 0, 1, 2, 3, 4, 5, 6, 7, 8, 9, 10, 11, 13], [11, 13]), ([12, 14, 0, 1, 2, 3, 4, 5, 6, 7, 8, 9, 10, 11, 12, 13, 14], [12])])
def spec_l2shr.B3 : List Nat := [0, 1, 0, 4, 15, 31, 0, 64, 192, 511, 1023, 2047, 2047, 0, 12287, 32767]
theorem spec_l2shr.tab3 : rtab .any (opsOf Tryd.f79 3) = spec_l2shr.T3 := by kernel_rfl
theorem spec_l2shr.bits3 : waitsOk spec_l2shr.T3.2 spec_l2shr.B3 = true := by kernel_rfl
set_option maxHeartbeats 8000000 in
set_option maxRecDepth 100000 in
theorem spec_l2shr.calls (k : Nat) (A0_0 : Option Addr) (c0_0 : Nat) (l0_0 : List Int) (a1 : Int) (r : List Int) (w : World) (hr0_0 : Kd.C (Kd.int .i64) w A0_0 l0_0.length l0_0) (hc0_0 : l0_0.length ≤ c0_0) (h : spec_l2shr.f k l0_0 a1 = some r) :
  Calls Tryd.prog 79 #[.agg #[.slice A0_0 l0_0.length c0_0], .int .i64 a1] w fun e w' => ∃ v0_ : Value, e = .returned (.agg #[v0_]) ∧ Kd.R (Kd.int .i64) 3 w' w.heap.size (fun _ => True) v0_ r ∧ Below w.heap.size w w' := by
 have hu26 := Tryd.underlying26
 have HR0_0 := Aside0.mk hr0_0
 have HC0_0 := Aside0.mk hc0_0
 clear hr0_0 hc0_0
 have HB := Aside0.mk (Below.refl w.heap.size w)
 have H : (if (wrap64 (Int.tdiv a1 16)) ≥ (l0_0.length : Int) then (some ([] : List Int)) else (if 0 ≤ (wrap64 (Int.tdiv a1 16)) then (if (wrap64 (Int.tdiv a1 16)) ≤ (l0_0.length : Int) then (if 0 ≤ (Int.tmod a1 16) then ((spec_l2small.f k (l0_0.drop ((wrap64 (Int.tdiv a1 16)) : Int).toNat) (shl .i64 1 (Int.tmod a1 16))).bind fun bt247 => (some bt247.1)) else (none)) else (none)) else (none))) = some r := h
 clear h
 by_cases c3 : (wrap64 (Int.tdiv a1 16)) ≥ (l0_0.length : Int)
 ·rw [if_pos c3] at H
  have c3b0 : decide ((l0_0.length : Int) ≤ (wrap64 (Int.tdiv a1 16))) = true := decide_eq_true c3
  clear c3
  obtain rfl := Option.some.inj H
  go_enter Tryd.func79, Tryd.ntmps79
  go_wp2_with (first | ((with_reducible refine gate_dst (N := 2) rfl ?_); refine hkBox (N := 2) (cs := #[.slice A0_0 l0_0.length c0_0]) (t := 26) ?_; intro gb244 hg w4 hbox hb; have n_ := hkA (hkU HB hb) (hkA (Aside0.mk (hbox)) (hkA (hkG hg (hkS HB)) (hkG hg (hkS HB)))); clear HB; obtain ⟨HB, BK244, GW244, GE244⟩ := n_; clear hb hbox hg) | ((with_reducible refine gate_dst (N := 4) rfl ?_); refine hkBox (N := 4) (cs := #[.slice none 0 0]) (t := 26) ?_; intro gb245 hg w5 hbox hb; have n_ := hkA (hkBb BK244 hb) (hkA (hkU HB hb) (hkA (Aside0.mk (hbox)) (hkA (hkG hg (hkS HB)) (hkA (hkG hg (hkS HB)) (hkA (hkN hg BK244) (hkM hg BK244)))))); clear BK244 HB; obtain ⟨BK244, HB, BK245, GW245, GE245, NB244_245, NB245_244⟩ := n_; clear hb hbox hg; have hnb6 := NB244_245.out; have hnc6 := NB245_244.out; obtain ⟨hcz7_0, hfz7_0⟩ := hkc1 BK244; obtain ⟨hcz8_0, hfz8_0⟩ := hkc1 BK245))
  refine bodyPost_ret (results_cell_row rfl _ _ gb245 26 #[.slice none 0 0] (0, 0) _ rfl hkPp Tryd.underlying26 rfl (by kernel_rfl)) rfl ?_
  exact ⟨_, hkE, by first | exact Kd.R_nil _ _ _ _ _ | exact Kd.N_nil _ _ _ _ _ | exact Kd.V_nil _ _ _ _ _ | exact Kd.Q_nil _ _ _ _ _ | exact Kd.S_nil _ _ _ _ _, hkS HB⟩
 ·rw [if_neg c3] at H
  have c3b0 : decide ((l0_0.length : Int) ≤ (wrap64 (Int.tdiv a1 16))) = false := decide_eq_false c3
  clear c3
  obtain ⟨ji9, hji9⟩ : ∃ j_ : Int, (wrap64 (Int.tdiv a1 16)) = j_ := ⟨_, rfl⟩
  replace H : (if 0 ≤ (ji9) then (if (ji9) ≤ (l0_0.length : Int) then (if 0 ≤ (Int.tmod a1 16) then ((spec_l2small.f k (l0_0.drop ((ji9) : Int).toNat) (shl .i64 1 (Int.tmod a1 16))).bind fun bt247 => (some bt247.1)) else (none)) else (none)) else (none)) = some r := by first | (rw [hji9] at H; exact H) | (simp only [hji9] at H ⊢; exact H)
  (try rw [hji9] at c3b0)
  have hji9w : (IntKind.i64.wrap (Int.tdiv a1 16)) = ji9 := (i64_w _).trans hji9
  by_cases c10 : 0 ≤ (ji9)
  ·rw [if_pos c10] at H
   have c10b0 := eq_true c10
   have c10b1 : decide (0 ≤ (ji9)) = true := decide_eq_true c10
   clear c10
   by_cases c11 : (ji9) ≤ (l0_0.length : Int)
   ·rw [if_pos c11] at H
    have c11b0 := eq_true c11
    have c11b1 : decide ((ji9) ≤ (l0_0.length : Int)) = true := decide_eq_true c11
    clear c11
    obtain ⟨ji12, hji12⟩ : ∃ j_ : Int, (Int.tmod a1 16) = j_ := ⟨_, rfl⟩
    replace H : (if 0 ≤ (ji12) then ((spec_l2small.f k (l0_0.drop ((ji9) : Int).toNat) (shl .i64 1 (ji12))).bind fun bt247 => (some bt247.1)) else (none)) = some r := by first | (rw [hji12] at H; exact H) | (simp only [hji12] at H ⊢; exact H)
    by_cases c13 : 0 ≤ (ji12)
    ·rw [if_pos c13] at H
     have c13b0 := eq_true c13
     have c13b1 : decide (0 ≤ (ji12)) = true := decide_eq_true c13
     clear c13
     obtain ⟨ji14, hji14⟩ : ∃ j_ : Int, (shl .i64 1 (ji12)) = j_ := ⟨_, rfl⟩
     replace H : ((spec_l2small.f k (l0_0.drop ((ji9) : Int).toNat) (ji14)).bind fun bt247 => (some bt247.1)) = some r := by first | (rw [hji14] at H; exact H) | (simp only [hji14] at H ⊢; exact H)
     have hji14_ : (IntKind.i64.wrap (1 * 2 ^ min (ji12).toNat 64)) = ji14 := hji14
     have hji14z : (ji12) ≤ 64 → (IntKind.i64.wrap (1 * 2 ^ (ji12).toNat)) = ji14 := shl_small hji14
     have hji14u : (IntKind.i64.wrap (2 ^ min (ji12).toNat 64)) = ji14 := by have h_ := hji14_; rw [Int.one_mul] at h_; exact h_
     have hji14v : (ji12) ≤ 64 → (IntKind.i64.wrap (2 ^ (ji12).toNat)) = ji14 := fun hle_ => by have h_ := hji14z hle_; rw [Int.one_mul] at h_; exact h_
     have hji14y : (wrap64 (1 * 2 ^ min (ji12).toNat 64)) = ji14 := (i64_w _).symm.trans hji14_
     have hji14x : (ji12) ≤ 64 → (wrap64 (1 * 2 ^ (ji12).toNat)) = ji14 := fun h_ => (i64_w _).symm.trans (hji14z h_)
     replace H := hBi H
     obtain ⟨⟨t247, t250⟩, A150, H⟩ := H
     replace H : (some t247) = some r := H
     have A15 := Aside0.mk A150
     clear A150
     obtain rfl := Option.some.inj H
     go_enter Tryd.func79, Tryd.ntmps79
     try go_wp2_with (first | ((with_reducible refine gate_dst (N := 2) rfl ?_); refine hkBox (N := 2) (cs := #[.slice A0_0 l0_0.length c0_0]) (t := 26) ?_; intro gb244 hg w16 hbox hb; have n_ := hkA (hkU HB hb) (hkA (Aside0.mk (hbox)) (hkA (hkG hg (hkS HB)) (hkG hg (hkS HB)))); clear HB; obtain ⟨HB, BK244, GW244, GE244⟩ := n_; clear hb hbox hg) | ((with_reducible refine gate_dst (N := 4) rfl ?_); refine hkBox (N := 4) (cs := #[.slice none 0 0]) (t := 26) ?_; intro gb245 hg w17 hbox hb; have n_ := hkA (hkBb BK244 hb) (hkA (hkU HB hb) (hkA (Aside0.mk (hbox)) (hkA (hkG hg (hkS HB)) (hkA (hkG hg (hkS HB)) (hkA (hkN hg BK244) (hkM hg BK244)))))); clear BK244 HB; obtain ⟨BK244, HB, BK245, GW245, GE245, NB244_245, NB245_244⟩ := n_; clear hb hbox hg; have hnb18 := NB244_245.out; have hnc18 := NB245_244.out; obtain ⟨hcz19_0, hfz19_0⟩ := hkc1 BK244))
     have n_ := hkA (Aside0.mk (blk_drew BK244.out)) (hkA (Aside0.mk (blk_drew BK245.out)) (Aside0.mk (below_drew1 HB.out)))
     clear BK244 BK245 HB
     obtain ⟨BK244, BK245, HB⟩ := n_
     obtain ⟨i021, hi021, _, hsz21, _⟩ := info_parts info3
     obtain ⟨A21, hcut21, hA21, hC21⟩ := print_drop_of (P := Tryd.prog) (Value.int .i64) 0 24 3 .i64 Tryd.underlying24 hi021 hsz21 A0_0 c0_0 l0_0 (ji9) (of_decide_eq_true (by first | (with_reducible assumption) | assumption)) (of_decide_eq_true (by first | (with_reducible assumption) | assumption)) HC0_0.out
     have HR246 := Aside0.mk (Kd.C_of_reads (h1 := fun _ => rfl) (hA21 _ (Kd.reads_of_C HR0_0.out)))
     have HC246 := Aside0.mk hC21
     clear hA21 hC21 hi021 hsz21
     refine start_ (n := 16) (S := fun w' => w'.cell? ⟨gb244, 0, none⟩ = some (.slice A0_0 l0_0.length c0_0)) (ds := []) #[false, false, false, false, false, false, false, false, false, false, false, false, false, false, false, false] (by kernel_rfl) rfl rfl ((blk_cell BK244.out 0).trans rfl) (fun hHeld => ?_); refine with_tabW spec_l2shr.tab3 spec_l2shr.bits3 (fun HT_ HW_ => ?_)
     generalize w17.drew = w20 at BK244 BK245 HB HR246 hHeld ⊢
     refine hkPt (i := 0) (N := some 15) HT_ ?_
     refine hkPt (i := 2) (N := some 17) HT_ ?_
     refine hkPt (i := 3) (N := some 18) HT_ ?_
     refine hkPt (i := 6) (N := some 21) HT_ ?_
     refine hkPt (i := 7) (N := some 22) HT_ ?_
     refine hkPt (i := 8) (N := some 23) HT_ ?_
     refine hkTt (i := 1) (N := some 16) HT_ HW_ hHeld ?_ (hy := by intro w' s0; go_simp; with_reducible rfl)
     refine hkPt (i := 4) (N := some 19) HT_ ?_
     refine hkPt (i := 5) (N := some 20) HT_ ?_
     refine join_ (σ := Value × Nat) 2 #[true, true, true, true, true, true, true, true, true, true, true, true, true, true, false, false] (fun s_ => [(24, .tuple #[.agg #[s_.1], .int .i64 t250]), (5, .pointer (some ⟨s_.2, 0, none⟩)), (14, .tuple #[.agg #[s_.1], .int .i64 t250]), (25, .agg #[s_.1]), (26, .int .i64 t250)]) (fun s_ w' => (w'.cell? ⟨gb244, 0, none⟩ = some (.slice A0_0 l0_0.length c0_0)) ∧ Aside0 (Kd.R (Kd.int .i64) 3 w' w.heap.size (fun _ => True) s_.1 t247) ∧ Aside0 (w'.heap[gb244]? = some (.cells #[.slice A0_0 l0_0.length c0_0] 26 (0, 0))) ∧ Aside0 (w'.heap[gb245]? = some (.cells #[.slice none 0 0] 26 (0, 0))) ∧ Aside0 (w'.heap[s_.2]? = some (.cells #[.slice none 0 0] 26 (0, 0))) ∧ Aside0 (w.heap.size ≤ s_.2) ∧ Aside0 (w.heap.size ≤ s_.2) ∧ Aside0 (gb244 ≠ s_.2) ∧ Aside0 (s_.2 ≠ gb244) ∧ Aside0 (gb245 ≠ s_.2) ∧ Aside0 (s_.2 ≠ gb245) ∧ Aside0 (Below w.heap.size w w')) ?_ ?_
     rotate_left
     ·intro hCont
      refine two_ (i := 9) (j := 13) (Ni := some 24) (Nj := some 5) #[true, true, true, true, true, true, true, true, true, true, false, false, false, false, false, false] #[true, true, true, true, true, true, true, true, true, false, false, false, false, true, false, false] rfl rfl rfl rfl (two_of HT_.out (by kernel_rfl)) (by decide) (by decide) (fun K hK => ?_) (fun K hK => ?_)
      ·skip
       refine goes_ Tryd.func84 (by kernel_rfl) rfl #[.agg #[.slice A21 (l0_0.drop ((ji9) : Int).toNat).length (c0_0 - (ji9).toNat)], .int .i64 ji14] (by rfl) rfl rfl (by (try simp only [List.map_toArray, List.map_cons, List.map_nil]); first | done | (rw [show (l0_0.drop ((ji9) : Int).toNat).length = (l0_0.length - (ji9).toNat) from List.length_drop] <;> rfl) | (simp only [hji14, hji9]; rfl) | rfl | (simp only [List.length_drop, List.length_take]; rfl)) ?_
       with_reducible refine (spec_l2small.calls k _ _ (l0_0.drop ((ji9) : Int).toNat) ji14 t247 t250 _ ?side1 ?side2 A15.out).mono ?_
       (case side1 => exact hkC ((Kd.C_below HR246.out HB.out)))
       (case side2 => exact HC246.out)
       rintro e w22 ⟨v248, rfl, ho0, hb⟩
       refine ⟨_, rfl, ?_⟩
       have n_ := hkA (Aside0.mk (Kd.R_lower ho0 (below_size (hkS HB)))) (hkA (hkBb BK244 hb) (hkA (hkBb BK245 hb) (hkU HB hb)))
       clear BK244 BK245 HB
       obtain ⟨HO249, BK244, BK245, HB⟩ := n_
       (try clear hb); (try clear ho0)
       refine hK.out _ _ ((blk_cell BK244.out 0).trans rfl) (fun hHeld => ?_)
       clear hK K
       refine hkNo (N := some 24) ?_
       refine hkPt (i := 10) (N := some 14) HT_ ?_
       refine hkPt (i := 11) (N := some 25) HT_ ?_
       refine hkPt (i := 12) (N := some 26) HT_ ?_
       refine one_ (i := 13) (N := some 5) #[true, true, true, true, true, true, true, true, true, true, true, true, true, true, false, false] rfl rfl (one_of HT_.out (by kernel_rfl)) (by decide) (fun K hK => ?_)
       refine hkBs (N := 5) (cs := #[.slice none 0 0]) (t := 26) ?_
       intro gb251 hg w23 hbox hb
       have n_ := hkA (hkRb HO249 hb) (hkA (hkBb BK244 hb) (hkA (hkBb BK245 hb) (hkA (hkU HB hb) (hkA (Aside0.mk (hbox)) (hkA (hkG hg (hkS HB)) (hkA (hkG hg (hkS HB)) (hkA (hkN hg BK244) (hkA (hkM hg BK244) (hkA (hkN hg BK245) (hkM hg BK245))))))))))
       clear HO249 BK244 BK245 HB
       obtain ⟨HO249, BK244, BK245, HB, BK251, GW251, GE251, NB244_251, NB251_244, NB245_251, NB251_245⟩ := n_
       clear hb hbox hg
       refine hK.out _ _ ((blk_cell BK244.out 0).trans rfl) (fun hHeld => ?_)
       clear hK K
       refine hkNo (N := some 5) ?_
       exact norm_ (by simp only [putAll, Act.put, List.setIfInBounds_toArray, List.set_cons_zero, List.set_cons_succ]) (hCont (v248, gb251) _ ⟨hHeld, ⟨hkR HO249⟩, ⟨hkB BK244⟩, ⟨hkB BK245⟩, ⟨hkB BK251⟩, GW251, GE251, NB244_251, NB251_244, NB245_251, NB251_245, ⟨hkS HB⟩⟩)
      ·skip
       refine hkBs (N := 5) (cs := #[.slice none 0 0]) (t := 26) ?_
       intro gb251 hg w22 hbox hb
       have n_ := hkA (hkBb BK244 hb) (hkA (hkBb BK245 hb) (hkA (hkU HB hb) (hkA (Aside0.mk (hbox)) (hkA (hkG hg (hkS HB)) (hkA (hkG hg (hkS HB)) (hkA (hkN hg BK244) (hkA (hkM hg BK244) (hkA (hkN hg BK245) (hkM hg BK245)))))))))
       clear BK244 BK245 HB
       obtain ⟨BK244, BK245, HB, BK251, GW251, GE251, NB244_251, NB251_244, NB245_251, NB251_245⟩ := n_
       clear hb hbox hg
       refine hK.out _ _ ((blk_cell BK244.out 0).trans rfl) (fun hHeld => ?_)
       clear hK K
       refine hkNo (N := some 5) ?_
       refine one_ (i := 9) (N := some 24) #[true, true, true, true, true, true, true, true, true, true, false, false, false, true, false, false] rfl rfl (one_of HT_.out (by kernel_rfl)) (by decide) (fun K hK => ?_)
       refine goes_ Tryd.func84 (by kernel_rfl) rfl #[.agg #[.slice A21 (l0_0.drop ((ji9) : Int).toNat).length (c0_0 - (ji9).toNat)], .int .i64 ji14] (by rfl) rfl rfl (by (try simp only [List.map_toArray, List.map_cons, List.map_nil]); first | done | (rw [show (l0_0.drop ((ji9) : Int).toNat).length = (l0_0.length - (ji9).toNat) from List.length_drop] <;> rfl) | (simp only [hji14, hji9]; rfl) | rfl | (simp only [List.length_drop, List.length_take]; rfl)) ?_
       with_reducible refine (spec_l2small.calls k _ _ (l0_0.drop ((ji9) : Int).toNat) ji14 t247 t250 _ ?side1 ?side2 A15.out).mono ?_
       (case side1 => exact hkC ((Kd.C_below HR246.out HB.out)))
       (case side2 => exact HC246.out)
       rintro e w23 ⟨v248, rfl, ho0, hb⟩
       refine ⟨_, rfl, ?_⟩
       have n_ := hkA (Aside0.mk (Kd.R_lower ho0 (below_size (hkS HB)))) (hkA (hkBb BK244 hb) (hkA (hkBb BK245 hb) (hkA (hkBb BK251 hb) (hkU HB hb))))
       clear BK244 BK245 BK251 HB
       obtain ⟨HO249, BK244, BK245, BK251, HB⟩ := n_
       (try clear hb); (try clear ho0)
       refine hK.out _ _ ((blk_cell BK244.out 0).trans rfl) (fun hHeld => ?_)
       clear hK K
       refine hkNo (N := some 24) ?_
       refine hkPt (i := 10) (N := some 14) HT_ ?_
       refine hkPt (i := 11) (N := some 25) HT_ ?_
       refine hkPt (i := 12) (N := some 26) HT_ ?_
       exact norm_ (by simp only [putAll, Act.put, List.setIfInBounds_toArray, List.set_cons_zero, List.set_cons_succ]) (hCont (v248, gb251) _ ⟨hHeld, ⟨hkR HO249⟩, ⟨hkB BK244⟩, ⟨hkB BK245⟩, ⟨hkB BK251⟩, GW251, GE251, NB244_251, NB251_244, NB245_251, NB251_245, ⟨hkS HB⟩⟩)
     clear BK244 BK245 HB
     rintro ⟨v248, gb251⟩ w24 h_
     dsimp only at h_
     obtain ⟨hHeld, HO249, BK244, BK245, BK251, GW251, GE251, NB244_251, NB251_244, NB245_251, NB251_245, HB⟩ := h_
     obtain ⟨Ao25, co25, eo25⟩ := Kd.R_slice HO249.out
     (first | subst eo25 | (injection eo25 with f1_ f2_ f3_; have f4_ := f1_.symm; have f5_ := f3_.symm; clear f1_ f2_ f3_; subst f4_; subst f5_))
     refine hkNp ?_
     refine one_ (i := 14) (N := none) #[true, true, true, true, true, true, true, true, true, true, true, true, true, true, true, false] rfl rfl (one_of HT_.out (by kernel_rfl)) (by decide) (fun K hK => ?_)
     have hs26 : w24.cell? ⟨gb251, 0, none⟩ = some (.slice none 0 0) := (blk_cell BK251.out 0).trans rfl
     have hfs26 := blk_frozen BK251.out 0
     have hns26_0 := NB244_251.out
     have hns26_1 := NB245_251.out
     have hms26_0 := NB251_244.out
     have hms26_1 := NB251_245.out
     refine skip_ (w1 := ?_) (by rfl) rfl ?_ ?_
     rotate_left
     ·go_simp
      rfl
     refine hK.out _ _ (((cell_far (p := ⟨gb251, _, none⟩) NB244_251.out _).trans (hHeld))) (fun hHeld => ?_)
     clear hK K
     refine hkPt (i := 15) (N := some 6) HT_ ?_
     refine done_ (done_of HT_.out (by kernel_rfl)) ?_
     have hnb27 := NB251_244.out
     have hnc27 := NB244_251.out
     have hnb28 := NB251_245.out
     have hnc28 := NB245_251.out
     obtain ⟨hcz29_0, hfz29_0⟩ := hkc1 BK251
     obtain ⟨hcz30_0, hfz30_0⟩ := hkc1 BK245
     try go_wp2
     refine bodyPost_ret (results_cell_row rfl _ _ gb245 26 #[.slice Ao25 t247.length co25] (0, 0) _ rfl hkPp Tryd.underlying26 rfl (by kernel_rfl)) rfl ?_
     exact ⟨_, by first | rfl | (simp [errW_none, errW_some] <;> rfl) | (simp only [← hji9, ← hji12, ← hji14]; first | rfl | (simp [errW_none, errW_some] <;> rfl)) | (simp [*, errW_none, errW_some] <;> rfl), by (with_reducible repeat (first | apply Kd.R_alloc | apply Kd.R_drewN | apply Kd.R_drew)); exact Kd.R_mono (Kd.R_far (p := ⟨gb245, 0, none⟩) (Kd.R_far (p := ⟨gb251, 0, none⟩) (Kd.R_types (Kd.R_types HO249.out BK251.out (by decide)) BK245.out (by decide)) (fun _ hk => hk.1.2) (.slice Ao25 t247.length co25)) (fun _ hk => hk.2) (.slice Ao25 t247.length co25)) (fun _ hk => trivial), hkS HB⟩
    ·rw [if_neg c13] at H
     exact absurd H (by simp)
   ·rw [if_neg c11] at H
    exact absurd H (by simp)
  ·rw [if_neg c10] at H
   exact absurd H (by simp)

end Go.Proofs.YtgjpahofopoflaaDoor.PFnFlOrder
