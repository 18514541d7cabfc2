-- Written by our own driver (wip/hand/hprint.py) over the seat's translation.
import Derived.Test.YtgjpahofopoflaaPFnPacksx0
import Derived.Test.YtgjpahofopoflaaPFnPacksx13
namespace Go.Proofs.Ytgjpahofopoflaa.PFnPacks
open Go.RowKit Go.Proofs.YtgjpahofopoflaaW.PrintWords Go.Proofs.YtgjpahofopoflaaW.PrintLast Go.Proofs.YtgjpahofopoflaaW.PrintMore
attribute [local go_sem] max2_int min2_int max_two min_two max_three min_three max_four min_four   -- for this text's walks alone
set_option linter.unusedVariables false
set_option linter.unusedSimpArgs false

/-! ### spec_l2shr: function 129 -/
def spec_l2shr.f (k : Nat) (l0_0 : List Int) (a1 : Int) : Option (List Int) := if (wrap64 (Int.tdiv a1 16)) ≥ (l0_0.length : Int) then (some ([] : List Int)) else (if 0 ≤ (wrap64 (Int.tdiv a1 16)) then (if (wrap64 (Int.tdiv a1 16)) ≤ (l0_0.length : Int) then (if 0 ≤ (Int.tmod a1 16) then ((spec_l2small.f k (l0_0.drop ((wrap64 (Int.tdiv a1 16)) : Int).toNat) (shl .i64 1 (Int.tmod a1 16))).bind fun bt260 => (some bt260.1)) else (none)) else (none)) else (none))
theorem spec_l2shr.mono : ∀ a0 a1 k, LeO (spec_l2shr.f k a0 a1) (spec_l2shr.f (k + 1) a0 a1) := by
 intro a0 a1 k
 unfold spec_l2shr.f
 repeat' first
   | (with_reducible exact spec_l2small.mono _ _ _)
   | (with_reducible exact LeO.refl _)
   | (with_reducible exact LeO.none _)
   | (with_reducible refine LeO.ite ?_ ?_)
   | (with_reducible refine LeO.bind ?_ (fun _ => ?_))
   | exact spec_l2small.mono _ _ _
   | exact LeO.none _
   | refine LeO.ite ?_ ?_
   | refine LeO.bind ?_ (fun _ => ?_)
def spec_l2shr.T3 : Bool × List (List Nat × List Nat) := (true, [([], []), ([0], [0]), ([], []), ([2], [2]), ([1, 3], [1, 3]), ([4], [4]), ([], []), ([6], [6]), ([7], [7]), ([5, 8], [5, 8]), ([9], [9]), ([10], [10]), ([10], [10]), ([], []), ([13, 11, 9, 0, 1, 2, 3, 4, 5, 6, 7, 8, 9, 10, 11, 13], [11, 13]), ([12, 14, 0, 1, 2, 3, 4, 5, 6, 7, 8, 9, 10, 11, 12, 13, 14], [12])])
def spec_l2shr.B3 : List Nat := [0, 1, 0, 4, 15, 31, 0, 64, 192, 511, 1023, 2047, 2047, 0, 12287, 32767]
theorem spec_l2shr.tab3 : rtab .any (opsOf Try.f129 3) = spec_l2shr.T3 := by kernel_rfl
theorem spec_l2shr.bits3 : waitsOk spec_l2shr.T3.2 spec_l2shr.B3 = true := by kernel_rfl
set_option maxHeartbeats 8000000 in
set_option maxRecDepth 100000 in
theorem spec_l2shr.calls (k : Nat) (A0_0 : Option Addr) (c0_0 : Nat) (l0_0 : List Int) (a1 : Int) (r : List Int) (w : World) (hr0_0 : Kd.C (Kd.int .i64) w A0_0 l0_0.length l0_0) (hc0_0 : l0_0.length ≤ c0_0) (h : spec_l2shr.f k l0_0 a1 = some r) :
  Calls Try.prog 129 #[.agg #[.slice A0_0 l0_0.length c0_0], .int .i64 a1] w fun e w' => ∃ v0_ : Value, e = .returned (.agg #[v0_]) ∧ Kd.R (Kd.int .i64) 3 w' w.heap.size (fun _ => True) v0_ r ∧ Below w.heap.size w w' := by
 have hu38 := Try.underlying38
 have HR0_0 := Aside0.mk hr0_0
 have HC0_0 := Aside0.mk hc0_0
 clear hr0_0 hc0_0
 have HB := Aside0.mk (Below.refl w.heap.size w)
 have H : (if (wrap64 (Int.tdiv a1 16)) ≥ (l0_0.length : Int) then (some ([] : List Int)) else (if 0 ≤ (wrap64 (Int.tdiv a1 16)) then (if (wrap64 (Int.tdiv a1 16)) ≤ (l0_0.length : Int) then (if 0 ≤ (Int.tmod a1 16) then ((spec_l2small.f k (l0_0.drop ((wrap64 (Int.tdiv a1 16)) : Int).toNat) (shl .i64 1 (Int.tmod a1 16))).bind fun bt260 => (some bt260.1)) else (none)) else (none)) else (none))) = some r := h
 clear h
 by_cases c3 : (wrap64 (Int.tdiv a1 16)) ≥ (l0_0.length : Int)
 ·rw [if_pos c3] at H
  have c3b0 : decide ((l0_0.length : Int) ≤ (wrap64 (Int.tdiv a1 16))) = true := decide_eq_true c3
  clear c3
  obtain rfl := Option.some.inj H
  go_enter Try.func129, Try.ntmps129
  go_wp2_with (first | ((with_reducible refine gate_dst (N := 2) rfl ?_); refine hkBox (N := 2) (cs := #[.slice A0_0 l0_0.length c0_0]) (t := 38) ?_; intro gb257 hg w4 hbox hb; have n_ := hkA (hkU HB hb) (hkA (Aside0.mk (hbox)) (hkA (hkG hg (hkS HB)) (hkG hg (hkS HB)))); clear HB; obtain ⟨HB, BK257, GW257, GE257⟩ := n_; clear hb hbox hg) | ((with_reducible refine gate_dst (N := 4) rfl ?_); refine hkBox (N := 4) (cs := #[.slice none 0 0]) (t := 38) ?_; intro gb258 hg w5 hbox hb; have n_ := hkA (hkBb BK257 hb) (hkA (hkU HB hb) (hkA (Aside0.mk (hbox)) (hkA (hkG hg (hkS HB)) (hkA (hkG hg (hkS HB)) (hkA (hkN hg BK257) (hkM hg BK257)))))); clear BK257 HB; obtain ⟨BK257, HB, BK258, GW258, GE258, NB257_258, NB258_257⟩ := n_; clear hb hbox hg; have hnb6 := NB257_258.out; have hnc6 := NB258_257.out; obtain ⟨hcz7_0, hfz7_0⟩ := hkc1 BK257; obtain ⟨hcz8_0, hfz8_0⟩ := hkc1 BK258))
  refine bodyPost_ret (results_cell_row rfl _ _ gb258 38 #[.slice none 0 0] (0, 0) _ rfl hkPp Try.underlying38 rfl (by kernel_rfl)) rfl ?_
  exact ⟨_, hkE, by first | exact Kd.R_nil _ _ _ _ _ | exact Kd.N_nil _ _ _ _ _ | exact Kd.V_nil _ _ _ _ _ | exact Kd.Q_nil _ _ _ _ _ | exact Kd.S_nil _ _ _ _ _, hkS HB⟩
 ·rw [if_neg c3] at H
  have c3b0 : decide ((l0_0.length : Int) ≤ (wrap64 (Int.tdiv a1 16))) = false := decide_eq_false c3
  clear c3
  obtain ⟨ji9, hji9⟩ : ∃ j_ : Int, (wrap64 (Int.tdiv a1 16)) = j_ := ⟨_, rfl⟩
  replace H : (if 0 ≤ (ji9) then (if (ji9) ≤ (l0_0.length : Int) then (if 0 ≤ (Int.tmod a1 16) then ((spec_l2small.f k (l0_0.drop ((ji9) : Int).toNat) (shl .i64 1 (Int.tmod a1 16))).bind fun bt260 => (some bt260.1)) else (none)) else (none)) else (none)) = some r := by first | (rw [hji9] at H; exact H) | (simp only [hji9] at H ⊢; exact H)
  (try rw [hji9] at c3b0)
  have hji9w : (IntKind.i64.wrap (Int.tdiv a1 16)) = ji9 := (i64_w _).trans hji9
  by_cases c10 : 0 ≤ (ji9)
  ·rw [if_pos c10] at H
   have c10b0 := eq_true c10
   have c10b1 : decide (0 ≤ (ji9)) = true := decide_eq_true c10
   clear c10
   by_cases c11 : (ji9) ≤ (l0_0.length : Int)
   ·rw [if_pos c11] at H
    have c11b0 := eq_true c11
    have c11b1 : decide ((ji9) ≤ (l0_0.length : Int)) = true := decide_eq_true c11
    clear c11
    obtain ⟨ji12, hji12⟩ : ∃ j_ : Int, (Int.tmod a1 16) = j_ := ⟨_, rfl⟩
    replace H : (if 0 ≤ (ji12) then ((spec_l2small.f k (l0_0.drop ((ji9) : Int).toNat) (shl .i64 1 (ji12))).bind fun bt260 => (some bt260.1)) else (none)) = some r := by first | (rw [hji12] at H; exact H) | (simp only [hji12] at H ⊢; exact H)
    by_cases c13 : 0 ≤ (ji12)
    ·rw [if_pos c13] at H
     have c13b0 := eq_true c13
     have c13b1 : decide (0 ≤ (ji12)) = true := decide_eq_true c13
     clear c13
     obtain ⟨ji14, hji14⟩ : ∃ j_ : Int, (shl .i64 1 (ji12)) = j_ := ⟨_, rfl⟩
     replace H : ((spec_l2small.f k (l0_0.drop ((ji9) : Int).toNat) (ji14)).bind fun bt260 => (some bt260.1)) = some r := by first | (rw [hji14] at H; exact H) | (simp only [hji14] at H ⊢; exact H)
     have hji14_ : (IntKind.i64.wrap (1 * 2 ^ min (ji12).toNat 64)) = ji14 := hji14
     have hji14z : (ji12) ≤ 64 → (IntKind.i64.wrap (1 * 2 ^ (ji12).toNat)) = ji14 := shl_small hji14
     have hji14u : (IntKind.i64.wrap (2 ^ min (ji12).toNat 64)) = ji14 := by have h_ := hji14_; rw [Int.one_mul] at h_; exact h_
     have hji14v : (ji12) ≤ 64 → (IntKind.i64.wrap (2 ^ (ji12).toNat)) = ji14 := fun hle_ => by have h_ := hji14z hle_; rw [Int.one_mul] at h_; exact h_
     have hji14y : (wrap64 (1 * 2 ^ min (ji12).toNat 64)) = ji14 := (i64_w _).symm.trans hji14_
     have hji14x : (ji12) ≤ 64 → (wrap64 (1 * 2 ^ (ji12).toNat)) = ji14 := fun h_ => (i64_w _).symm.trans (hji14z h_)
     replace H := hBi H
     obtain ⟨⟨t260, t263⟩, A150, H⟩ := H
     replace H : (some t260) = some r := H
     have A15 := Aside0.mk A150
     clear A150
     obtain rfl := Option.some.inj H
     go_enter Try.func129, Try.ntmps129
     try go_wp2_with (first | ((with_reducible refine gate_dst (N := 2) rfl ?_); refine hkBox (N := 2) (cs := #[.slice A0_0 l0_0.length c0_0]) (t := 38) ?_; intro gb257 hg w16 hbox hb; have n_ := hkA (hkU HB hb) (hkA (Aside0.mk (hbox)) (hkA (hkG hg (hkS HB)) (hkG hg (hkS HB)))); clear HB; obtain ⟨HB, BK257, GW257, GE257⟩ := n_; clear hb hbox hg) | ((with_reducible refine gate_dst (N := 4) rfl ?_); refine hkBox (N := 4) (cs := #[.slice none 0 0]) (t := 38) ?_; intro gb258 hg w17 hbox hb; have n_ := hkA (hkBb BK257 hb) (hkA (hkU HB hb) (hkA (Aside0.mk (hbox)) (hkA (hkG hg (hkS HB)) (hkA (hkG hg (hkS HB)) (hkA (hkN hg BK257) (hkM hg BK257)))))); clear BK257 HB; obtain ⟨BK257, HB, BK258, GW258, GE258, NB257_258, NB258_257⟩ := n_; clear hb hbox hg; have hnb18 := NB257_258.out; have hnc18 := NB258_257.out; obtain ⟨hcz19_0, hfz19_0⟩ := hkc1 BK257))
     have n0_ := Aside0.mk (blk_drew BK257.out)
     have n1_ := Aside0.mk (blk_drew BK258.out)
     have n2_ := Aside0.mk (below_drew1 HB.out)
     clear BK257
     clear BK258
     clear HB
     have BK257 := n0_
     have BK258 := n1_
     have HB := n2_
     clear n0_ n1_ n2_
     obtain ⟨i021, hi021, _, hsz21, _⟩ := info_parts info3
     obtain ⟨A21, hcut21, hA21, hC21⟩ := print_drop_of (P := Try.prog) (Value.int .i64) 0 29 3 .i64 Try.underlying29 hi021 hsz21 A0_0 c0_0 l0_0 (ji9) (of_decide_eq_true (by first | (with_reducible assumption) | assumption)) (of_decide_eq_true (by first | (with_reducible assumption) | assumption)) HC0_0.out
     have HR259 := Aside0.mk (Kd.C_of_reads (h1 := fun _ => rfl) (hA21 _ (Kd.reads_of_C HR0_0.out)))
     have HC259 := Aside0.mk hC21
     clear hA21 hC21 hi021 hsz21
     refine start_ (n := 16) (S := fun w' => w'.cell? ⟨gb257, 0, none⟩ = some (.slice A0_0 l0_0.length c0_0)) (ds := []) #[false, false, false, false, false, false, false, false, false, false, false, false, false, false, false, false] (by kernel_rfl) rfl rfl ((blk_cell BK257.out 0).trans rfl) (fun hHeld => ?_); refine with_tabW spec_l2shr.tab3 spec_l2shr.bits3 (fun HT_ HW_ => ?_)
     generalize w17.drew = w20 at BK257 BK258 HB HR259 hHeld ⊢
     refine hkPt (i := 0) (N := some 15) HT_ ?_
     refine hkPt (i := 2) (N := some 17) HT_ ?_
     refine hkPt (i := 3) (N := some 18) HT_ ?_
     refine hkPt (i := 6) (N := some 21) HT_ ?_
     refine hkPt (i := 7) (N := some 22) HT_ ?_
     refine hkPt (i := 8) (N := some 23) HT_ ?_
     refine hkTt (i := 1) (N := some 16) HT_ HW_ hHeld ?_ (hy := by intro w' s0; go_simp; with_reducible rfl)
     refine hkPt (i := 4) (N := some 19) HT_ ?_
     refine hkPt (i := 5) (N := some 20) HT_ ?_
     refine join_ (σ := Value × Nat) 2 #[true, true, true, true, true, true, true, true, true, true, true, true, true, true, false, false] (fun s_ => [(24, .tuple #[.agg #[s_.1], .int .i64 t263]), (5, .pointer (some ⟨s_.2, 0, none⟩)), (14, .tuple #[.agg #[s_.1], .int .i64 t263]), (25, .agg #[s_.1]), (26, .int .i64 t263)]) (fun s_ w' => (w'.cell? ⟨gb257, 0, none⟩ = some (.slice A0_0 l0_0.length c0_0)) ∧ (Kd.R (Kd.int .i64) 3 w' w.heap.size (fun _ => True) s_.1 t260) ∧ (w'.heap[gb257]? = some (.cells #[.slice A0_0 l0_0.length c0_0] 38 (0, 0))) ∧ (w'.heap[gb258]? = some (.cells #[.slice none 0 0] 38 (0, 0))) ∧ (w'.heap[s_.2]? = some (.cells #[.slice none 0 0] 38 (0, 0))) ∧ (w.heap.size ≤ s_.2) ∧ (w.heap.size ≤ s_.2) ∧ (gb257 ≠ s_.2) ∧ (s_.2 ≠ gb257) ∧ (gb258 ≠ s_.2) ∧ (s_.2 ≠ gb258) ∧ (Below w.heap.size w w')) ?_ ?_
     rotate_left
     ·intro hCont
      refine two_ (i := 9) (j := 13) (Ni := some 24) (Nj := some 5) #[true, true, true, true, true, true, true, true, true, true, false, false, false, false, false, false] #[true, true, true, true, true, true, true, true, true, false, false, false, false, true, false, false] rfl rfl rfl rfl (two_of HT_.out (by kernel_rfl)) (by decide) (by decide) (fun K hK => ?_) (fun K hK => ?_)
      ·skip
       refine goes_ Try.func111 (by kernel_rfl) rfl #[.agg #[.slice A21 (l0_0.drop ((ji9) : Int).toNat).length (c0_0 - (ji9).toNat)], .int .i64 ji14] (by rfl) rfl rfl (by (try simp only [List.map_toArray, List.map_cons, List.map_nil]); first | done | (rw [show (l0_0.drop ((ji9) : Int).toNat).length = (l0_0.length - (ji9).toNat) from List.length_drop] <;> rfl) | (simp only [hji14, hji9]; rfl) | rfl | (simp only [List.length_drop, List.length_take]; rfl)) ?_
       with_reducible refine (spec_l2small.calls k _ _ (l0_0.drop ((ji9) : Int).toNat) ji14 t260 t263 _ ?side1 ?side2 A15.out).mono ?_
       (case side1 => exact hkC ((Kd.C_below HR259.out HB.out)))
       (case side2 => exact HC259.out)
       rintro e w22 ⟨v261, rfl, ho0, hb⟩
       refine ⟨_, rfl, ?_⟩
       have n0_ := Aside0.mk (Kd.R_lower ho0 (below_size (hkS HB)))
       have n1_ := hkBb BK257 hb
       have n2_ := hkBb BK258 hb
       have n3_ := hkU HB hb
       clear BK257
       clear BK258
       clear HB
       have HO262 := n0_
       have BK257 := n1_
       have BK258 := n2_
       have HB := n3_
       clear n0_ n1_ n2_ n3_
       (try clear hb)
       (try clear hb2)
       (try clear hk)
       (try clear hi)
       (try clear ho0)
       refine hK.out _ _ ((blk_cell BK257.out 0).trans rfl) (fun hHeld => ?_)
       clear hK K
       refine norm_ (a' := ?_) ?_ ?_
       rotate_left
       ·show Act.put _ (some 24) _ = _
        simp only [Act.put, List.setIfInBounds_toArray, List.set_cons_zero, List.set_cons_succ, i64_w, i32_w]
        rfl
       refine hkPt (i := 10) (N := some 14) HT_ ?_
       refine hkPt (i := 11) (N := some 25) HT_ ?_
       refine hkPt (i := 12) (N := some 26) HT_ ?_
       refine one_ (i := 13) (N := some 5) #[true, true, true, true, true, true, true, true, true, true, true, true, true, true, false, false] rfl rfl (one_of HT_.out (by kernel_rfl)) (by decide) (fun K hK => ?_)
       refine box_step ?hg (N := 5) ?hd (cs := #[.slice none 0 0]) (t := 38) ?hr ?_; (case hd => rfl); (case hg => rfl); (case hr => first | (go_simp; done) | (go_simp; rfl))
       intro gb264 hg w23 hbox hb
       have n0_ := hkRb HO262 hb
       have n1_ := hkBb BK257 hb
       have n2_ := hkBb BK258 hb
       have n3_ := hkU HB hb
       have n4_ := Aside0.mk (hbox)
       have n5_ := hkG hg (hkS HB)
       have n6_ := hkG hg (hkS HB)
       have n7_ := hkN hg BK257
       have n8_ := hkM hg BK257
       have n9_ := hkN hg BK258
       have n10_ := hkM hg BK258
       clear HO262
       clear BK257
       clear BK258
       clear HB
       have HO262 := n0_
       have BK257 := n1_
       have BK258 := n2_
       have HB := n3_
       have BK264 := n4_
       have GW264 := n5_
       have GE264 := n6_
       have NB257_264 := n7_
       have NB264_257 := n8_
       have NB258_264 := n9_
       have NB264_258 := n10_
       clear n0_ n1_ n2_ n3_ n4_ n5_ n6_ n7_ n8_ n9_ n10_
       clear hb hbox hg
       refine hK.out _ _ ((blk_cell BK257.out 0).trans rfl) (fun hHeld => ?_)
       clear hK K
       refine norm_ (a' := ?_) ?_ ?_
       rotate_left
       ·show Act.put _ (some 5) _ = _
        simp only [Act.put, List.setIfInBounds_toArray, List.set_cons_zero, List.set_cons_succ, i64_w, i32_w]
        rfl
       exact norm_ (by simp only [putAll, Act.put, List.setIfInBounds_toArray, List.set_cons_zero, List.set_cons_succ]) (hCont (v261, gb264) _ ⟨hHeld, (hkR HO262), (hkB BK257), (hkB BK258), (hkB BK264), GW264.out, GE264.out, NB257_264.out, NB264_257.out, NB258_264.out, NB264_258.out, (hkS HB)⟩)
      ·skip
       refine box_step ?hg (N := 5) ?hd (cs := #[.slice none 0 0]) (t := 38) ?hr ?_; (case hd => rfl); (case hg => rfl); (case hr => first | (go_simp; done) | (go_simp; rfl))
       intro gb264 hg w22 hbox hb
       have n0_ := hkBb BK257 hb
       have n1_ := hkBb BK258 hb
       have n2_ := hkU HB hb
       have n3_ := Aside0.mk (hbox)
       have n4_ := hkG hg (hkS HB)
       have n5_ := hkG hg (hkS HB)
       have n6_ := hkN hg BK257
       have n7_ := hkM hg BK257
       have n8_ := hkN hg BK258
       have n9_ := hkM hg BK258
       clear BK257
       clear BK258
       clear HB
       have BK257 := n0_
       have BK258 := n1_
       have HB := n2_
       have BK264 := n3_
       have GW264 := n4_
       have GE264 := n5_
       have NB257_264 := n6_
       have NB264_257 := n7_
       have NB258_264 := n8_
       have NB264_258 := n9_
       clear n0_ n1_ n2_ n3_ n4_ n5_ n6_ n7_ n8_ n9_
       clear hb hbox hg
       refine hK.out _ _ ((blk_cell BK257.out 0).trans rfl) (fun hHeld => ?_)
       clear hK K
       refine norm_ (a' := ?_) ?_ ?_
       rotate_left
       ·show Act.put _ (some 5) _ = _
        simp only [Act.put, List.setIfInBounds_toArray, List.set_cons_zero, List.set_cons_succ, i64_w, i32_w]
        rfl
       refine one_ (i := 9) (N := some 24) #[true, true, true, true, true, true, true, true, true, true, false, false, false, true, false, false] rfl rfl (one_of HT_.out (by kernel_rfl)) (by decide) (fun K hK => ?_)
       refine goes_ Try.func111 (by kernel_rfl) rfl #[.agg #[.slice A21 (l0_0.drop ((ji9) : Int).toNat).length (c0_0 - (ji9).toNat)], .int .i64 ji14] (by rfl) rfl rfl (by (try simp only [List.map_toArray, List.map_cons, List.map_nil]); first | done | (rw [show (l0_0.drop ((ji9) : Int).toNat).length = (l0_0.length - (ji9).toNat) from List.length_drop] <;> rfl) | (simp only [hji14, hji9]; rfl) | rfl | (simp only [List.length_drop, List.length_take]; rfl)) ?_
       with_reducible refine (spec_l2small.calls k _ _ (l0_0.drop ((ji9) : Int).toNat) ji14 t260 t263 _ ?side1 ?side2 A15.out).mono ?_
       (case side1 => exact hkC ((Kd.C_below HR259.out HB.out)))
       (case side2 => exact HC259.out)
       rintro e w23 ⟨v261, rfl, ho0, hb⟩
       refine ⟨_, rfl, ?_⟩
       have n0_ := Aside0.mk (Kd.R_lower ho0 (below_size (hkS HB)))
       have n1_ := hkBb BK257 hb
       have n2_ := hkBb BK258 hb
       have n3_ := hkBb BK264 hb
       have n4_ := hkU HB hb
       clear BK257
       clear BK258
       clear BK264
       clear HB
       have HO262 := n0_
       have BK257 := n1_
       have BK258 := n2_
       have BK264 := n3_
       have HB := n4_
       clear n0_ n1_ n2_ n3_ n4_
       (try clear hb)
       (try clear hb2)
       (try clear hk)
       (try clear hi)
       (try clear ho0)
       refine hK.out _ _ ((blk_cell BK257.out 0).trans rfl) (fun hHeld => ?_)
       clear hK K
       refine norm_ (a' := ?_) ?_ ?_
       rotate_left
       ·show Act.put _ (some 24) _ = _
        simp only [Act.put, List.setIfInBounds_toArray, List.set_cons_zero, List.set_cons_succ, i64_w, i32_w]
        rfl
       refine hkPt (i := 10) (N := some 14) HT_ ?_
       refine hkPt (i := 11) (N := some 25) HT_ ?_
       refine hkPt (i := 12) (N := some 26) HT_ ?_
       exact norm_ (by simp only [putAll, Act.put, List.setIfInBounds_toArray, List.set_cons_zero, List.set_cons_succ]) (hCont (v261, gb264) _ ⟨hHeld, (hkR HO262), (hkB BK257), (hkB BK258), (hkB BK264), GW264.out, GE264.out, NB257_264.out, NB264_257.out, NB258_264.out, NB264_258.out, (hkS HB)⟩)
     rintro ⟨v261, gb264⟩ w24 ⟨hS_, h0_, h1_, h2_, h3_, h4_, h5_, h6_, h7_, h8_, h9_, h10_⟩
     have n0_ : Aside0 (Kd.R (Kd.int .i64) 3 w24 w.heap.size (fun _ => True) v261 t260) := ⟨h0_⟩
     have n1_ : Aside0 (w24.heap[gb257]? = some (.cells #[.slice A0_0 l0_0.length c0_0] 38 (0, 0))) := ⟨h1_⟩
     have n2_ : Aside0 (w24.heap[gb258]? = some (.cells #[.slice none 0 0] 38 (0, 0))) := ⟨h2_⟩
     have n3_ : Aside0 (w24.heap[gb264]? = some (.cells #[.slice none 0 0] 38 (0, 0))) := ⟨h3_⟩
     have n4_ : Aside0 (w.heap.size ≤ gb264) := ⟨h4_⟩
     have n5_ : Aside0 (w.heap.size ≤ gb264) := ⟨h5_⟩
     have n6_ : Aside0 (gb257 ≠ gb264) := ⟨h6_⟩
     have n7_ : Aside0 (gb264 ≠ gb257) := ⟨h7_⟩
     have n8_ : Aside0 (gb258 ≠ gb264) := ⟨h8_⟩
     have n9_ : Aside0 (gb264 ≠ gb258) := ⟨h9_⟩
     have n10_ : Aside0 (Below w.heap.size w w24) := ⟨h10_⟩
     clear BK257
     clear BK258
     clear HB
     clear h0_ h1_ h2_ h3_ h4_ h5_ h6_ h7_ h8_ h9_ h10_
     have HO262 := n0_
     have BK257 := n1_
     have BK258 := n2_
     have BK264 := n3_
     have GW264 := n4_
     have GE264 := n5_
     have NB257_264 := n6_
     have NB264_257 := n7_
     have NB258_264 := n8_
     have NB264_258 := n9_
     have HB := n10_
     clear n0_ n1_ n2_ n3_ n4_ n5_ n6_ n7_ n8_ n9_ n10_
     have hHeld : w24.cell? ⟨gb257, 0, none⟩ = some (.slice A0_0 l0_0.length c0_0) := hS_
     obtain ⟨Ao25, co25, eo25⟩ := Kd.R_slice HO262.out
     (first | subst eo25 | (injection eo25 with f1_ f2_ f3_; have f4_ := f1_.symm; have f5_ := f3_.symm; clear f1_ f2_ f3_; subst f4_; subst f5_))
     refine norm_ (a' := ?_) ?_ ?_
     rotate_left
     ·simp only [putAll, Act.put, List.setIfInBounds_toArray, List.set_cons_zero, List.set_cons_succ]
      rfl
     refine one_ (i := 14) (N := none) #[true, true, true, true, true, true, true, true, true, true, true, true, true, true, true, false] rfl rfl (one_of HT_.out (by kernel_rfl)) (by decide) (fun K hK => ?_)
     have hs26 : w24.cell? ⟨gb264, 0, none⟩ = some (.slice none 0 0) := (blk_cell BK264.out 0).trans rfl
     have hfs26 := blk_frozen BK264.out 0
     have hns26_0 := NB257_264.out
     have hns26_1 := NB258_264.out
     have hms26_0 := NB264_257.out
     have hms26_1 := NB264_258.out
     refine skip_ (w1 := ?_) (by rfl) rfl ?_ ?_
     rotate_left
     ·go_simp
      rfl
     refine hK.out _ _ (((cell_far (p := ⟨gb264, _, none⟩) NB257_264.out _).trans (hHeld))) (fun hHeld => ?_)
     clear hK K
     refine hkPt (i := 15) (N := some 6) HT_ ?_
     refine done_ (done_of HT_.out (by kernel_rfl)) ?_
     have hnb27 := NB264_257.out
     have hnc27 := NB257_264.out
     have hnb28 := NB264_258.out
     have hnc28 := NB258_264.out
     obtain ⟨hcz29_0, hfz29_0⟩ := hkc1 BK264
     obtain ⟨hcz30_0, hfz30_0⟩ := hkc1 BK258
     try go_wp2
     refine bodyPost_ret (results_cell_row rfl _ _ gb258 38 #[.slice Ao25 t260.length co25] (0, 0) _ rfl hkPp Try.underlying38 rfl (by kernel_rfl)) rfl ?_
     exact ⟨_, by first | rfl | (simp [errW_none, errW_some] <;> rfl) | (simp only [← hji9, ← hji12, ← hji14]; first | rfl | (simp [errW_none, errW_some] <;> rfl)) | (simp [*, errW_none, errW_some] <;> rfl), by (with_reducible repeat (first | apply Kd.R_alloc | apply Kd.R_drewN | apply Kd.R_drew)); exact Kd.R_mono (Kd.R_far (p := ⟨gb258, 0, none⟩) (Kd.R_far (p := ⟨gb264, 0, none⟩) (Kd.R_types (Kd.R_types HO262.out BK264.out (by decide)) BK258.out (by decide)) (fun _ hk => hk.1.2) (.slice Ao25 t260.length co25)) (fun _ hk => hk.2) (.slice Ao25 t260.length co25)) (fun _ hk => trivial), hkS HB⟩
    ·rw [if_neg c13] at H
     exact absurd H (by simp)
   ·rw [if_neg c11] at H
    exact absurd H (by simp)
  ·rw [if_neg c10] at H
   exact absurd H (by simp)

end Go.Proofs.Ytgjpahofopoflaa.PFnPacks
