-- Written by our own driver (wip/hand/hprint.py) over the seat's translation.
import Derived.Test.YtgjpahofopoflaaPFnExactNatDivx0
import Derived.Test.YtgjpahofopoflaaPFnExactNatDivx12
import Derived.Test.YtgjpahofopoflaaPFnExactNatDivx13
import Derived.Test.YtgjpahofopoflaaPFnExactNatDivx14
import Derived.Test.YtgjpahofopoflaaPFnExactNatDivx15
import Derived.Test.YtgjpahofopoflaaPFnExactNatDivx16
namespace Go.Proofs.Ytgjpahofopoflaa.PFnExactNatDiv
open Go.RowKit Go.Proofs.YtgjpahofopoflaaW.PrintWords Go.Proofs.YtgjpahofopoflaaW.PrintLast Go.Proofs.YtgjpahofopoflaaW.PrintMore
attribute [local go_sem] max2_int min2_int max_two min_two max_three min_three max_four min_four   -- for this text's walks alone
set_option linter.unusedVariables false
set_option linter.unusedSimpArgs false

/-! ### spec_l2div: function 64 -/
mutual
def spec_l2div.l0 : Nat → List Int → Int → List Int → List Int → List Int → Option (List Int × List Int)
 | 0, _, _, _, _, _ => none
 | k + 1, x8, x10, x309000, x310000, x325000 => if x10 ≥ 0 then (if 0 ≤ x10 then (if x10 < (x309000.length : Int) then ((some (([rd x309000 x10] : List Int) : List Int)).bind fun y329 => (if y329.length + x325000.length < 17592186044416 then ((spec_l2norm.f k (y329 ++ x325000)).bind fun t335 => (spec_l2div.l1 k x8 x10 0 65536 x309000 x310000 t335)) else (none))) else (none)) else (none)) else ((spec_l2norm.f k x8).bind fun t325 => (some (t325, x325000)))
def spec_l2div.l1 : Nat → List Int → Int → Int → Int → List Int → List Int → List Int → Option (List Int × List Int)
 | 0, _, _, _, _, _, _, _ => none
 | k + 1, x8, x10, x11, x12, x309000, x310000, x325000 => if (wrap64 (x12 - x11)) > 1 then ((spec_l2of.f k (wrap64 (Int.tdiv (wrap64 (x11 + x12)) 2))).bind fun t348 => ((spec_l2mul.f k x310000 t348).bind fun t351 => ((spec_l2cmp.f k t351 x325000).bind fun t354 => (if t354 ≤ 0 then (spec_l2div.l1 k x8 x10 (wrap64 (Int.tdiv (wrap64 (x11 + x12)) 2)) x12 x309000 x310000 x325000) else (spec_l2div.l1 k x8 x10 x11 (wrap64 (Int.tdiv (wrap64 (x11 + x12)) 2)) x309000 x310000 x325000))))) else (if 0 ≤ x10 then (if x10 < (x8.length : Int) then ((spec_l2of.f k x11).bind fun t339 => ((spec_l2mul.f k x310000 t339).bind fun t342 => ((spec_l2sub.f k x325000 t342).bind fun t345 => (spec_l2div.l0 k (x8.set (x10 : Int).toNat x11) (wrap64 (x10 - 1)) x309000 x310000 t345)))) else (none)) else (none))
end
def spec_l2div.f (k : Nat) (l0_0 : List Int) (l1_0 : List Int) : Option (List Int × List Int) := if (l1_0.length : Int) = 1 then (if 0 < (l1_0.length : Int) then ((spec_l2small.f k l0_0 (rd l1_0 0)).bind fun bt313 => ((spec_l2of.f k bt313.2).bind fun t318 => (some (bt313.1, t318)))) else (none)) else (if 0 ≤ (l0_0.length : Int) then (if ((l0_0.length : Int) : Int).toNat ≤ 35184372088832 then (spec_l2div.l0 k (List.replicate ((l0_0.length : Int) : Int).toNat 0) (wrap64 ((l0_0.length : Int) - 1)) l0_0 l1_0 ([] : List Int)) else (none)) else (none))
theorem spec_l2div.mono_l : ∀ k, (∀ y0 y1 y2 y3 y4, LeO (spec_l2div.l0 k y0 y1 y2 y3 y4) (spec_l2div.l0 (k + 1) y0 y1 y2 y3 y4)) ∧ (∀ y0 y1 y2 y3 y4 y5 y6, LeO (spec_l2div.l1 k y0 y1 y2 y3 y4 y5 y6) (spec_l2div.l1 (k + 1) y0 y1 y2 y3 y4 y5 y6))
 | 0 => ⟨fun _ _ _ _ _ r h => by simp [spec_l2div.l0] at h, fun _ _ _ _ _ _ _ r h => by simp [spec_l2div.l1] at h⟩
 | k + 1 => by
  obtain ⟨ih0, ih1⟩ := spec_l2div.mono_l k
  refine ⟨?_, ?_⟩
  ·intro y0 y1 y2 y3 y4
   unfold spec_l2div.l0
   repeat' first
   | (with_reducible exact ih0 _ _ _ _ _)
   | (with_reducible exact ih1 _ _ _ _ _ _ _)
   | (with_reducible exact spec_l2cmp.mono _ _ _)
   | (with_reducible exact spec_l2mul.mono _ _ _)
   | (with_reducible exact spec_l2norm.mono _ _)
   | (with_reducible exact spec_l2of.mono _ _)
   | (with_reducible exact spec_l2small.mono _ _ _)
   | (with_reducible exact spec_l2sub.mono _ _ _)
   | (with_reducible exact LeO.refl _)
   | (with_reducible exact LeO.none _)
   | (with_reducible refine LeO.ite ?_ ?_)
   | (with_reducible refine LeO.bind ?_ (fun _ => ?_))
   | exact ih0 _ _ _ _ _
   | exact ih1 _ _ _ _ _ _ _
   | exact spec_l2cmp.mono _ _ _
   | exact spec_l2mul.mono _ _ _
   | exact spec_l2norm.mono _ _
   | exact spec_l2of.mono _ _
   | exact spec_l2small.mono _ _ _
   | exact spec_l2sub.mono _ _ _
   | exact LeO.none _
   | refine LeO.ite ?_ ?_
   | refine LeO.bind ?_ (fun _ => ?_)
  ·intro y0 y1 y2 y3 y4 y5 y6
   unfold spec_l2div.l1
   repeat' first
   | (with_reducible exact ih0 _ _ _ _ _)
   | (with_reducible exact ih1 _ _ _ _ _ _ _)
   | (with_reducible exact spec_l2cmp.mono _ _ _)
   | (with_reducible exact spec_l2mul.mono _ _ _)
   | (with_reducible exact spec_l2norm.mono _ _)
   | (with_reducible exact spec_l2of.mono _ _)
   | (with_reducible exact spec_l2small.mono _ _ _)
   | (with_reducible exact spec_l2sub.mono _ _ _)
   | (with_reducible exact LeO.refl _)
   | (with_reducible exact LeO.none _)
   | (with_reducible refine LeO.ite ?_ ?_)
   | (with_reducible refine LeO.bind ?_ (fun _ => ?_))
   | exact ih0 _ _ _ _ _
   | exact ih1 _ _ _ _ _ _ _
   | exact spec_l2cmp.mono _ _ _
   | exact spec_l2mul.mono _ _ _
   | exact spec_l2norm.mono _ _
   | exact spec_l2of.mono _ _
   | exact spec_l2small.mono _ _ _
   | exact spec_l2sub.mono _ _ _
   | exact LeO.none _
   | refine LeO.ite ?_ ?_
   | refine LeO.bind ?_ (fun _ => ?_)
theorem spec_l2div.mono : ∀ a0 a1 k, LeO (spec_l2div.f k a0 a1) (spec_l2div.f (k + 1) a0 a1) := by
 intro a0 a1 k
 obtain ⟨ih0, ih1⟩ := spec_l2div.mono_l k
 unfold spec_l2div.f
 repeat' first
   | (with_reducible exact ih0 _ _ _ _ _)
   | (with_reducible exact ih1 _ _ _ _ _ _ _)
   | (with_reducible exact spec_l2cmp.mono _ _ _)
   | (with_reducible exact spec_l2mul.mono _ _ _)
   | (with_reducible exact spec_l2norm.mono _ _)
   | (with_reducible exact spec_l2of.mono _ _)
   | (with_reducible exact spec_l2small.mono _ _ _)
   | (with_reducible exact spec_l2sub.mono _ _ _)
   | (with_reducible exact LeO.refl _)
   | (with_reducible exact LeO.none _)
   | (with_reducible refine LeO.ite ?_ ?_)
   | (with_reducible refine LeO.bind ?_ (fun _ => ?_))
   | exact ih0 _ _ _ _ _
   | exact ih1 _ _ _ _ _ _ _
   | exact spec_l2cmp.mono _ _ _
   | exact spec_l2mul.mono _ _ _
   | exact spec_l2norm.mono _ _
   | exact spec_l2of.mono _ _
   | exact spec_l2small.mono _ _ _
   | exact spec_l2sub.mono _ _ _
   | exact LeO.none _
   | refine LeO.ite ?_ ?_
   | refine LeO.bind ?_ (fun _ => ?_)
def spec_l2div.T2 : Bool × List (List Nat × List Nat) := (true, [([], []), ([], []), ([1], [1]), ([2], [2]), ([3], [3]), ([0, 4], [0, 4]), ([5], [5]), ([6], [6]), ([6], [6]), ([], []), ([9, 7, 5, 0, 1, 2, 3, 4, 5, 6, 7, 9], [7, 9]), ([8, 10, 0, 1, 2, 3, 4, 5, 6, 7, 8, 9, 10], [8])])
def spec_l2div.B2 : List Nat := [0, 0, 2, 6, 14, 31, 63, 127, 127, 0, 767, 2047]
theorem spec_l2div.tab2 : rtab .any (opsOf Try.f64 2) = spec_l2div.T2 := by kernel_rfl
theorem spec_l2div.bits2 : waitsOk spec_l2div.T2.2 spec_l2div.B2 = true := by kernel_rfl
def spec_l2div.T9 : Bool × List (List Nat × List Nat) := (true, [([], []), ([0], [0]), ([], []), ([1, 2], [1, 2]), ([3], [3]), ([4], [4]), ([], []), ([6], [6]), ([5, 7], [5, 7]), ([8, 8], [8]), ([9, 9, 0, 1, 2, 3, 4, 5, 6, 7, 8, 9], [9])])
def spec_l2div.B9 : List Nat := [0, 1, 0, 7, 15, 31, 0, 64, 255, 511, 1023]
theorem spec_l2div.tab9 : rtab .any (opsOf Try.f64 9) = spec_l2div.T9 := by kernel_rfl
theorem spec_l2div.bits9 : waitsOk spec_l2div.T9.2 spec_l2div.B9 = true := by kernel_rfl
set_option maxHeartbeats 8000000 in
set_option maxRecDepth 100000 in
theorem spec_l2div.calls (k : Nat) (A0_0 : Option Addr) (c0_0 : Nat) (l0_0 : List Int) (A1_0 : Option Addr) (c1_0 : Nat) (l1_0 : List Int) (r1 : List Int) (r2 : List Int) (w : World) (hr0_0 : Kd.C (Kd.int .i64) w A0_0 l0_0.length l0_0) (hc0_0 : l0_0.length ≤ c0_0) (hr1_0 : Kd.C (Kd.int .i64) w A1_0 l1_0.length l1_0) (hc1_0 : l1_0.length ≤ c1_0) (h : spec_l2div.f k l0_0 l1_0 = some (r1, r2)) :
  Calls Try.prog 64 #[.agg #[.slice A0_0 l0_0.length c0_0], .agg #[.slice A1_0 l1_0.length c1_0]] w fun e w' => ∃ v0_ v1_ : Value, e = .returned (.tuple #[.agg #[v0_], .agg #[v1_]]) ∧ Kd.R (Kd.int .i64) 3 w' w.heap.size (fun k_ => some k_ ≠ (v1_ : Value).ownBlock) v0_ r1 ∧ Kd.R (Kd.int .i64) 3 w' w.heap.size (fun k_ => some k_ ≠ (v0_ : Value).ownBlock) v1_ r2 ∧ Below w.heap.size w w' := by
 have hu38 := Try.underlying38
 have HR0_0 := Aside0.mk hr0_0
 have HC0_0 := Aside0.mk hc0_0
 clear hr0_0 hc0_0
 have HR1_0 := Aside0.mk hr1_0
 have HC1_0 := Aside0.mk hc1_0
 clear hr1_0 hc1_0
 have HB := Aside0.mk (Below.refl w.heap.size w)
 have H : (if (l1_0.length : Int) = 1 then (if 0 < (l1_0.length : Int) then ((spec_l2small.f k l0_0 (rd l1_0 0)).bind fun bt313 => ((spec_l2of.f k bt313.2).bind fun t318 => (some (bt313.1, t318)))) else (none)) else (if 0 ≤ (l0_0.length : Int) then (if ((l0_0.length : Int) : Int).toNat ≤ 35184372088832 then (spec_l2div.l0 k (List.replicate ((l0_0.length : Int) : Int).toNat 0) (wrap64 ((l0_0.length : Int) - 1)) l0_0 l1_0 ([] : List Int)) else (none)) else (none))) = some (r1, r2) := h
 clear h
 by_cases c3 : (l1_0.length : Int) = 1
 ·rw [if_pos c3] at H
  have c3b0 : ((l1_0.length : Int) == 1) = true := beq_iff_eq.mpr c3
  have c3b1 : ((l1_0.length : Int) != 1) = false := bne_eq_false_iff_eq.mpr c3
  clear c3
  by_cases c4 : 0 < (l1_0.length : Int)
  ·rw [if_pos c4] at H
   have c4b0 : decide (0 < (l1_0.length : Int)) = true := decide_eq_true c4
   have c4b1 : decide (0 < l1_0.length) = true := decide_eq_true (by omega)
   clear c4
   replace H := hBi H
   obtain ⟨⟨t313, t316⟩, A50, H⟩ := H
   replace H : ((spec_l2of.f k t316).bind fun t318 => (some (t313, t318))) = some (r1, r2) := H
   have A5 := Aside0.mk A50
   clear A50
   replace H := hBi H
   obtain ⟨t318, A60, H⟩ := H
   replace H : (some (t313, t318)) = some (r1, r2) := H
   have A6 := Aside0.mk A60
   clear A60
   simp only [Option.some.injEq, Prod.mk.injEq] at H
   obtain ⟨rfl, rfl⟩ := H
   go_enter Try.func64, Try.ntmps64
   try go_wp2_with (first | ((with_reducible refine gate_dst (N := 2) rfl ?_); refine hkBox (N := 2) (cs := #[.slice A0_0 l0_0.length c0_0]) (t := 38) ?_; intro gb308 hg w7 hbox hb; have n_ := hkA (hkU HB hb) (hkA (Aside0.mk (hbox)) (hkA (hkG hg (hkS HB)) (hkG hg (hkS HB)))); clear HB; obtain ⟨HB, BK308, GW308, GE308⟩ := n_; clear hb hbox hg) | ((with_reducible refine gate_dst (N := 3) rfl ?_); refine hkBox (N := 3) (cs := #[.slice A1_0 l1_0.length c1_0]) (t := 38) ?_; intro gb309 hg w8 hbox hb; have n_ := hkA (hkBb BK308 hb) (hkA (hkU HB hb) (hkA (Aside0.mk (hbox)) (hkA (hkG hg (hkS HB)) (hkA (hkG hg (hkS HB)) (hkA (hkN hg BK308) (hkM hg BK308)))))); clear BK308 HB; obtain ⟨BK308, HB, BK309, GW309, GE309, NB308_309, NB309_308⟩ := n_; clear hb hbox hg) | ((with_reducible refine gate_dst (N := 4) rfl ?_); refine hkBox (N := 4) (cs := #[.slice none 0 0]) (t := 38) ?_; intro gb310 hg w9 hbox hb; have n_ := hkA (hkBb BK308 hb) (hkA (hkBb BK309 hb) (hkA (hkU HB hb) (hkA (Aside0.mk (hbox)) (hkA (hkG hg (hkS HB)) (hkA (hkG hg (hkS HB)) (hkA (hkN hg BK308) (hkA (hkM hg BK308) (hkA (hkN hg BK309) (hkM hg BK309))))))))); clear BK308 BK309 HB; obtain ⟨BK308, BK309, HB, BK310, GW310, GE310, NB308_310, NB310_308, NB309_310, NB310_309⟩ := n_; clear hb hbox hg) | ((with_reducible refine gate_dst (N := 5) rfl ?_); refine hkBox (N := 5) (cs := #[.slice none 0 0]) (t := 38) ?_; intro gb311 hg w10 hbox hb; have n_ := hkA (hkBb BK308 hb) (hkA (hkBb BK309 hb) (hkA (hkBb BK310 hb) (hkA (hkU HB hb) (hkA (Aside0.mk (hbox)) (hkA (hkG hg (hkS HB)) (hkA (hkG hg (hkS HB)) (hkA (hkN hg BK308) (hkA (hkM hg BK308) (hkA (hkN hg BK309) (hkA (hkM hg BK309) (hkA (hkN hg BK310) (hkM hg BK310)))))))))))); clear BK308 BK309 BK310 HB; obtain ⟨BK308, BK309, BK310, HB, BK311, GW311, GE311, NB308_311, NB311_308, NB309_311, NB311_309, NB310_311, NB311_310⟩ := n_; clear hb hbox hg; have hnb11 := NB309_308.out; have hnc11 := NB308_309.out; have hnb12 := NB309_310.out; have hnc12 := NB310_309.out; have hnb13 := NB309_311.out; have hnc13 := NB311_309.out; obtain ⟨hcz14_0, hfz14_0⟩ := hkc1 BK309))
   have n_ := hkA (Aside0.mk (blk_drew BK308.out)) (hkA (Aside0.mk (blk_drew BK309.out)) (hkA (Aside0.mk (blk_drew BK310.out)) (hkA (Aside0.mk (blk_drew BK311.out)) (Aside0.mk (below_drew1 HB.out)))))
   clear BK308 BK309 BK310 BK311 HB
   obtain ⟨BK308, BK309, BK310, BK311, HB⟩ := n_
   have p312 : 0 ≤ (0 : Int) := (by omega)
   have q312 : 0 < (l1_0.length : Int) := of_decide_eq_true (by first | (with_reducible assumption) | assumption)
   obtain ⟨ad312, e312, hx312_0⟩ := Kd.at_int HR1_0.out 0 p312 q312
   have hw312_0 := hx312_0
   (try rw [show ((0 : Int)).toNat = 0 from rfl] at hw312_0)
   (try rw [show 0 * 1 = 0 from rfl] at hw312_0)
   (try rw [Addr.add_zero'] at hw312_0)
   cases e312
   have qi312 : (0 < l1_0.length) = True := eq_true (by omega)
   (try rw [show ((0 : Int)).toNat = 0 from rfl] at hx312_0)
   (try rw [Addr.add_zero'] at hx312_0)
   replace hx312_0 := (HB.out.cell (World.block_lt_of_cell? w _ hx312_0)).trans hx312_0
   replace p312 := eq_true p312
   replace q312 := eq_true q312
   refine start_ (n := 12) (S := fun w' => w'.cell? ⟨gb308, 0, none⟩ = some (.slice A0_0 l0_0.length c0_0) ∧ w'.cell? ⟨gb309, 0, none⟩ = some (.slice (some ad312) l1_0.length c1_0) ∧ w'.cell? ad312 = some (.int .i64 (rd l1_0 0))) (ds := []) #[false, false, false, false, false, false, false, false, false, false, false, false] (by kernel_rfl) rfl rfl ⟨(blk_cell BK308.out 0).trans rfl, (blk_cell BK309.out 0).trans rfl, ((HB.out.cell (World.block_lt_of_cell? w _ hw312_0)).trans hw312_0)⟩ (fun hHeld => ?_); refine with_tabW spec_l2div.tab2 spec_l2div.bits2 (fun HT_ HW_ => ?_)
   generalize w10.drew = w15 at BK308 BK309 BK310 BK311 HB hx312_0 hHeld ⊢
   refine hkPt (i := 1) (N := some 20) HT_ ?_
   refine hkTt (i := 0) (N := some 19) HT_ HW_ hHeld ?_ (hy := by rintro w' ⟨s0, s1, s2⟩; go_simp; with_reducible rfl)
   refine hkTt (i := 2) (N := some 21) HT_ HW_ hHeld ?_ (hy := by rintro w' ⟨s0, s1, s2⟩; go_simp; with_reducible rfl)
   refine hkPt (i := 3) (N := some 22) HT_ ?_
   refine hkTt (i := 4) (N := some 23) HT_ HW_ hHeld ?_ (hy := by rintro w' ⟨s0, s1, s2⟩; go_simp; with_reducible rfl)
   refine join_ (σ := Value × Nat) 2 #[true, true, true, true, true, true, true, true, true, true, false, false] (fun s_ => [(24, .tuple #[.agg #[s_.1], .int .i64 t316]), (6, .pointer (some ⟨s_.2, 0, none⟩)), (18, .tuple #[.agg #[s_.1], .int .i64 t316]), (25, .agg #[s_.1]), (26, .int .i64 t316)]) (fun s_ w' => (w'.cell? ⟨gb308, 0, none⟩ = some (.slice A0_0 l0_0.length c0_0) ∧ w'.cell? ⟨gb309, 0, none⟩ = some (.slice (some ad312) l1_0.length c1_0) ∧ w'.cell? ad312 = some (.int .i64 (rd l1_0 0))) ∧ Aside0 (Kd.R (Kd.int .i64) 3 w' w.heap.size (fun _ => True) s_.1 t313) ∧ Aside0 (w'.heap[gb308]? = some (.cells #[.slice A0_0 l0_0.length c0_0] 38 (0, 0))) ∧ Aside0 (w'.heap[gb309]? = some (.cells #[.slice (some ad312) l1_0.length c1_0] 38 (0, 0))) ∧ Aside0 (w'.heap[gb310]? = some (.cells #[.slice none 0 0] 38 (0, 0))) ∧ Aside0 (w'.heap[gb311]? = some (.cells #[.slice none 0 0] 38 (0, 0))) ∧ Aside0 (w'.heap[s_.2]? = some (.cells #[.slice none 0 0] 38 (0, 0))) ∧ Aside0 (w.heap.size ≤ s_.2) ∧ Aside0 (w.heap.size ≤ s_.2) ∧ Aside0 (gb308 ≠ s_.2) ∧ Aside0 (s_.2 ≠ gb308) ∧ Aside0 (gb309 ≠ s_.2) ∧ Aside0 (s_.2 ≠ gb309) ∧ Aside0 (gb310 ≠ s_.2) ∧ Aside0 (s_.2 ≠ gb310) ∧ Aside0 (gb311 ≠ s_.2) ∧ Aside0 (s_.2 ≠ gb311) ∧ Aside0 (Below w.heap.size w w')) ?_ ?_
   rotate_left
   ·intro hCont
    refine two_ (i := 5) (j := 9) (Ni := some 24) (Nj := some 6) #[true, true, true, true, true, true, false, false, false, false, false, false] #[true, true, true, true, true, false, false, false, false, true, false, false] rfl rfl rfl rfl (two_of HT_.out (by kernel_rfl)) (by decide) (by decide) (fun K hK => ?_) (fun K hK => ?_)
    ·skip
     refine goes_ Try.func111 (by kernel_rfl) rfl #[.agg #[.slice A0_0 l0_0.length c0_0], .int .i64 (rd l1_0 0)] (by rfl) rfl rfl hkL ?_
     with_reducible refine (spec_l2small.calls k _ _ l0_0 (rd l1_0 0) t313 t316 _ ?side1 ?side2 A5.out).mono ?_
     (case side1 => exact hkC ((Kd.C_below HR0_0.out HB.out)))
     (case side2 => exact HC0_0.out)
     rintro e w16 ⟨v314, rfl, ho0, hb⟩
     refine ⟨_, rfl, ?_⟩
     have n_ := hkA (Aside0.mk (Kd.R_lower ho0 (below_size (hkS HB)))) (hkA (hkBb BK308 hb) (hkA (hkBb BK309 hb) (hkA (hkBb BK310 hb) (hkA (hkBb BK311 hb) (hkU HB hb)))))
     clear BK308 BK309 BK310 BK311 HB
     obtain ⟨HO315, BK308, BK309, BK310, BK311, HB⟩ := n_
     (try clear hb); (try clear ho0)
     refine hK.out _ _ ⟨(blk_cell BK308.out 0).trans rfl, (blk_cell BK309.out 0).trans rfl, ((HB.out.cell (World.block_lt_of_cell? w _ hw312_0)).trans hw312_0)⟩ (fun hHeld => ?_)
     clear hK K
     refine hkNo (N := some 24) ?_
     refine hkPt (i := 6) (N := some 18) HT_ ?_
     refine hkPt (i := 7) (N := some 25) HT_ ?_
     refine hkPt (i := 8) (N := some 26) HT_ ?_
     refine one_ (i := 9) (N := some 6) #[true, true, true, true, true, true, true, true, true, true, false, false] rfl rfl (one_of HT_.out (by kernel_rfl)) (by decide) (fun K hK => ?_)
     refine hkBs (N := 6) (cs := #[.slice none 0 0]) (t := 38) ?_
     intro gb317 hg w17 hbox hb
     have n_ := hkA (hkRb HO315 hb) (hkA (hkBb BK308 hb) (hkA (hkBb BK309 hb) (hkA (hkBb BK310 hb) (hkA (hkBb BK311 hb) (hkA (hkU HB hb) (hkA (Aside0.mk (hbox)) (hkA (hkG hg (hkS HB)) (hkA (hkG hg (hkS HB)) (hkA (hkN hg BK308) (hkA (hkM hg BK308) (hkA (hkN hg BK309) (hkA (hkM hg BK309) (hkA (hkN hg BK310) (hkA (hkM hg BK310) (hkA (hkN hg BK311) (hkM hg BK311))))))))))))))))
     clear HO315 BK308 BK309 BK310 BK311 HB
     obtain ⟨HO315, BK308, BK309, BK310, BK311, HB, BK317, GW317, GE317, NB308_317, NB317_308, NB309_317, NB317_309, NB310_317, NB317_310, NB311_317, NB317_311⟩ := n_
     clear hb hbox hg
     refine hK.out _ _ ⟨(blk_cell BK308.out 0).trans rfl, (blk_cell BK309.out 0).trans rfl, ((HB.out.cell (World.block_lt_of_cell? w _ hw312_0)).trans hw312_0)⟩ (fun hHeld => ?_)
     clear hK K
     refine hkNo (N := some 6) ?_
     exact norm_ (by simp only [putAll, Act.put, List.setIfInBounds_toArray, List.set_cons_zero, List.set_cons_succ]) (hCont (v314, gb317) _ ⟨hHeld, ⟨hkR HO315⟩, ⟨hkB BK308⟩, ⟨hkB BK309⟩, ⟨hkB BK310⟩, ⟨hkB BK311⟩, ⟨hkB BK317⟩, GW317, GE317, NB308_317, NB317_308, NB309_317, NB317_309, NB310_317, NB317_310, NB311_317, NB317_311, ⟨hkS HB⟩⟩)
    ·skip
     refine hkBs (N := 6) (cs := #[.slice none 0 0]) (t := 38) ?_
     intro gb317 hg w16 hbox hb
     have n_ := hkA (hkBb BK308 hb) (hkA (hkBb BK309 hb) (hkA (hkBb BK310 hb) (hkA (hkBb BK311 hb) (hkA (hkU HB hb) (hkA (Aside0.mk (hbox)) (hkA (hkG hg (hkS HB)) (hkA (hkG hg (hkS HB)) (hkA (hkN hg BK308) (hkA (hkM hg BK308) (hkA (hkN hg BK309) (hkA (hkM hg BK309) (hkA (hkN hg BK310) (hkA (hkM hg BK310) (hkA (hkN hg BK311) (hkM hg BK311)))))))))))))))
     clear BK308 BK309 BK310 BK311 HB
     obtain ⟨BK308, BK309, BK310, BK311, HB, BK317, GW317, GE317, NB308_317, NB317_308, NB309_317, NB317_309, NB310_317, NB317_310, NB311_317, NB317_311⟩ := n_
     clear hb hbox hg
     refine hK.out _ _ ⟨(blk_cell BK308.out 0).trans rfl, (blk_cell BK309.out 0).trans rfl, ((HB.out.cell (World.block_lt_of_cell? w _ hw312_0)).trans hw312_0)⟩ (fun hHeld => ?_)
     clear hK K
     refine hkNo (N := some 6) ?_
     refine one_ (i := 5) (N := some 24) #[true, true, true, true, true, true, false, false, false, true, false, false] rfl rfl (one_of HT_.out (by kernel_rfl)) (by decide) (fun K hK => ?_)
     refine goes_ Try.func111 (by kernel_rfl) rfl #[.agg #[.slice A0_0 l0_0.length c0_0], .int .i64 (rd l1_0 0)] (by rfl) rfl rfl hkL ?_
     with_reducible refine (spec_l2small.calls k _ _ l0_0 (rd l1_0 0) t313 t316 _ ?side1 ?side2 A5.out).mono ?_
     (case side1 => exact hkC ((Kd.C_below HR0_0.out HB.out)))
     (case side2 => exact HC0_0.out)
     rintro e w17 ⟨v314, rfl, ho0, hb⟩
     refine ⟨_, rfl, ?_⟩
     have n_ := hkA (Aside0.mk (Kd.R_lower ho0 (below_size (hkS HB)))) (hkA (hkBb BK308 hb) (hkA (hkBb BK309 hb) (hkA (hkBb BK310 hb) (hkA (hkBb BK311 hb) (hkA (hkBb BK317 hb) (hkU HB hb))))))
     clear BK308 BK309 BK310 BK311 BK317 HB
     obtain ⟨HO315, BK308, BK309, BK310, BK311, BK317, HB⟩ := n_
     (try clear hb); (try clear ho0)
     refine hK.out _ _ ⟨(blk_cell BK308.out 0).trans rfl, (blk_cell BK309.out 0).trans rfl, ((HB.out.cell (World.block_lt_of_cell? w _ hw312_0)).trans hw312_0)⟩ (fun hHeld => ?_)
     clear hK K
     refine hkNo (N := some 24) ?_
     refine hkPt (i := 6) (N := some 18) HT_ ?_
     refine hkPt (i := 7) (N := some 25) HT_ ?_
     refine hkPt (i := 8) (N := some 26) HT_ ?_
     exact norm_ (by simp only [putAll, Act.put, List.setIfInBounds_toArray, List.set_cons_zero, List.set_cons_succ]) (hCont (v314, gb317) _ ⟨hHeld, ⟨hkR HO315⟩, ⟨hkB BK308⟩, ⟨hkB BK309⟩, ⟨hkB BK310⟩, ⟨hkB BK311⟩, ⟨hkB BK317⟩, GW317, GE317, NB308_317, NB317_308, NB309_317, NB317_309, NB310_317, NB317_310, NB311_317, NB317_311, ⟨hkS HB⟩⟩)
   clear BK308 BK309 BK310 BK311 HB
   rintro ⟨v314, gb317⟩ w18 h_
   dsimp only at h_
   obtain ⟨hHeld, HO315, BK308, BK309, BK310, BK311, BK317, GW317, GE317, NB308_317, NB317_308, NB309_317, NB317_309, NB310_317, NB317_310, NB311_317, NB317_311, HB⟩ := h_
   obtain ⟨Ao19, co19, eo19⟩ := Kd.R_slice HO315.out
   (first | subst eo19 | (injection eo19 with f1_ f2_ f3_; have f4_ := f1_.symm; have f5_ := f3_.symm; clear f1_ f2_ f3_; subst f4_; subst f5_))
   refine hkNp ?_
   refine one_ (i := 10) (N := none) #[true, true, true, true, true, true, true, true, true, true, true, false] rfl rfl (one_of HT_.out (by kernel_rfl)) (by decide) (fun K hK => ?_)
   have hs20 : w18.cell? ⟨gb317, 0, none⟩ = some (.slice none 0 0) := (blk_cell BK317.out 0).trans rfl
   have hfs20 := blk_frozen BK317.out 0
   have hns20_0 := NB308_317.out
   have hns20_1 := NB309_317.out
   have hns20_2 := NB310_317.out
   have hns20_3 := NB311_317.out
   have hms20_0 := NB317_308.out
   have hms20_1 := NB317_309.out
   have hms20_2 := NB317_310.out
   have hms20_3 := NB317_311.out
   refine skip_ (w1 := ?_) (by rfl) rfl ?_ ?_
   rotate_left
   ·go_simp
    rfl
   refine hK.out _ _ ⟨((cell_far (p := ⟨gb317, _, none⟩) NB308_317.out _).trans (hHeld.1)), ((cell_far (p := ⟨gb317, _, none⟩) NB309_317.out _).trans (hHeld.2.1)), ((cell_far (p := ⟨gb317, _, none⟩) (by first | exact Nat.ne_of_lt (Nat.lt_of_lt_of_le (by have := World.block_lt_of_cell? _ _ hw312_0; first | rwa [add_block] at this | exact this) GW317.out) | (rw [add_block]; exact Nat.ne_of_lt (Nat.lt_of_lt_of_le (by have := World.block_lt_of_cell? _ _ hw312_0; first | rwa [add_block] at this | exact this) GW317.out)) | (show (Addr.add _ _).block ≠ _; rw [add_block]; exact Nat.ne_of_lt (Nat.lt_of_lt_of_le (by have := World.block_lt_of_cell? _ _ hw312_0; first | rwa [add_block] at this | exact this) GW317.out)) | (dsimp only; exact Nat.ne_of_lt (Nat.lt_of_lt_of_le (by have := World.block_lt_of_cell? _ _ hw312_0; first | rwa [add_block] at this | exact this) GW317.out))) _).trans (hHeld.2.2))⟩ (fun hHeld => ?_)
   clear hK K
   refine hkPt (i := 11) (N := some 7) HT_ ?_
   refine done_ (done_of HT_.out (by kernel_rfl)) ?_
   try go_wp2
   have n0_ : Aside0 (Kd.R (Kd.int .i64) 3 (w18.setCell ⟨gb317, 0, none⟩ (.slice Ao19 t313.length co19)) w.heap.size (fun _ => True) (.slice Ao19 t313.length co19) t313) := ⟨by (with_reducible repeat (first | apply Kd.R_alloc | apply Kd.R_drewN | apply Kd.R_drew)); exact Kd.R_mono (Kd.R_far (p := ⟨gb317, 0, none⟩) (Kd.R_types HO315.out BK317.out (by decide)) (fun _ hk => hk.2) (.slice Ao19 t313.length co19)) (fun _ hk => trivial)⟩
   have n1_ : Aside0 ((w18.setCell ⟨gb317, 0, none⟩ (.slice Ao19 t313.length co19)).heap[gb308]? = some (.cells #[.slice A0_0 l0_0.length c0_0] 38 (0, 0))) := ⟨by refine hkz ?_; refine blk_far ?_ NB308_317.out _; refine hkz ?_; exact BK308.out⟩
   have n2_ : Aside0 ((w18.setCell ⟨gb317, 0, none⟩ (.slice Ao19 t313.length co19)).heap[gb309]? = some (.cells #[.slice (some ad312) l1_0.length c1_0] 38 (0, 0))) := ⟨by refine hkz ?_; refine blk_far ?_ NB309_317.out _; refine hkz ?_; exact BK309.out⟩
   have n3_ : Aside0 ((w18.setCell ⟨gb317, 0, none⟩ (.slice Ao19 t313.length co19)).heap[gb310]? = some (.cells #[.slice none 0 0] 38 (0, 0))) := ⟨by refine hkz ?_; refine blk_far ?_ NB310_317.out _; refine hkz ?_; exact BK310.out⟩
   have n4_ : Aside0 ((w18.setCell ⟨gb317, 0, none⟩ (.slice Ao19 t313.length co19)).heap[gb311]? = some (.cells #[.slice none 0 0] 38 (0, 0))) := ⟨by refine hkz ?_; refine blk_far ?_ NB311_317.out _; refine hkz ?_; exact BK311.out⟩
   have n5_ : Aside0 ((w18.setCell ⟨gb317, 0, none⟩ (.slice Ao19 t313.length co19)).heap[gb317]? = some (.cells #[.slice Ao19 t313.length co19] 38 (0, 0))) := ⟨by refine hkz ?_; refine blk_put (cs := #[.slice none 0 0]) ?_ 0 _ rfl; refine hkz ?_; exact BK317.out⟩
   have n6_ : Aside0 (Below w.heap.size w (w18.setCell ⟨gb317, 0, none⟩ (.slice Ao19 t313.length co19))) := ⟨hkS HB⟩
   (try clear HO315); (try clear BK308); (try clear BK309); (try clear BK310); (try clear BK311); (try clear BK317); (try clear HB)
   generalize (w18.setCell ⟨gb317, 0, none⟩ (.slice Ao19 t313.length co19)) = w21 at n0_ n1_ n2_ n3_ n4_ n5_ n6_ ⊢
   have HO315 := n0_
   have BK308 := n1_
   have BK309 := n2_
   have BK310 := n3_
   have BK311 := n4_
   have BK317 := n5_
   have HB := n6_
   clear n0_ n1_ n2_ n3_ n4_ n5_ n6_
   have n_ := hkA (Aside0.mk (Kd.R_drew HO315.out)) (hkA (Aside0.mk (blk_drew BK308.out)) (hkA (Aside0.mk (blk_drew BK309.out)) (hkA (Aside0.mk (blk_drew BK310.out)) (hkA (Aside0.mk (blk_drew BK311.out)) (hkA (Aside0.mk (blk_drew BK317.out)) (Aside0.mk (below_drew1 HB.out)))))))
   clear HO315 BK308 BK309 BK310 BK311 BK317 HB
   obtain ⟨HO315, BK308, BK309, BK310, BK311, BK317, HB⟩ := n_
   refine start_ (n := 5) (S := fun w' => w'.cell? ⟨gb317, 0, none⟩ = some (.slice Ao19 t313.length co19)) (ds := []) #[false, false, false, false, false] (by kernel_rfl) rfl rfl ((blk_cell BK317.out 0).trans rfl) (fun hHeld => ?_)
   generalize w21.drew = w22 at HO315 BK308 BK309 BK310 BK311 BK317 HB hHeld ⊢
   refine hkPu (i := 1) (N := some 28) ?_
   refine hkTk (i := 0) (N := some 27) hHeld ?_ (hy := by intro w' s0; go_simp; with_reducible rfl)
   refine one_ (i := 2) (N := some 29) #[true, true, true, false, false] rfl rfl (by kernel_rfl) (by decide) (fun K hK => ?_)
   refine goes_ Try.func56 (by kernel_rfl) rfl #[.int .i64 t316] (by rfl) rfl rfl hkL ?_
   with_reducible refine (spec_l2of.calls k t316 t318 _ A6.out).mono ?_
   rintro e w23 ⟨v319, rfl, ho0, hb⟩
   refine ⟨_, rfl, ?_⟩
   have n_ := hkA (Aside0.mk (Kd.R_elder' (hkR HO315) (Kd.R_base ho0) hb)) (hkA (Aside0.mk (Kd.R_lower (Kd.R_new' ho0 (Kd.R_lt (hkR HO315))) (below_size (hkS HB)))) (hkA (hkBb BK308 hb) (hkA (hkBb BK309 hb) (hkA (hkBb BK310 hb) (hkA (hkBb BK311 hb) (hkA (hkBb BK317 hb) (hkU HB hb)))))))
   clear HO315 BK308 BK309 BK310 BK311 BK317 HB
   obtain ⟨HO315, HO320, BK308, BK309, BK310, BK311, BK317, HB⟩ := n_
   (try clear hb); (try clear ho0)
   obtain ⟨Ao25, co25, eo25⟩ := Kd.R_slice HO320.out
   (first | subst eo25 | (injection eo25 with f1_ f2_ f3_; have f4_ := f1_.symm; have f5_ := f3_.symm; clear f1_ f2_ f3_; subst f4_; subst f5_))
   refine hK.out _ _ ((blk_cell BK317.out 0).trans rfl) (fun hHeld => ?_)
   clear hK K
   refine hkNo (N := some 29) ?_
   refine one_ (i := 3) (N := none) #[true, true, true, true, false] rfl rfl (by kernel_rfl) (by decide) (fun K hK => ?_)
   have hs24 : w23.cell? ⟨gb310, 0, none⟩ = some (.slice none 0 0) := (blk_cell BK310.out 0).trans rfl
   have hfs24 := blk_frozen BK310.out 0
   have hns24_0 := NB308_310.out
   have hns24_1 := NB309_310.out
   have hns24_3 := NB311_310.out
   have hns24_4 := NB317_310.out
   have hms24_0 := NB310_308.out
   have hms24_1 := NB310_309.out
   have hms24_3 := NB310_311.out
   have hms24_4 := NB310_317.out
   refine skip_ (w1 := ?_) (by rfl) rfl ?_ ?_
   rotate_left
   ·go_simp
    rfl
   refine hK.out _ _ (((cell_far (p := ⟨gb310, _, none⟩) NB317_310.out _).trans (hHeld))) (fun hHeld => ?_)
   clear hK K
   refine one_ (i := 4) (N := none) #[true, true, true, true, true] rfl rfl (by kernel_rfl) (by decide) (fun K hK => ?_)
   have hs26 : w23.cell? ⟨gb311, 0, none⟩ = some (.slice none 0 0) := (blk_cell BK311.out 0).trans rfl
   have hfs26 := blk_frozen BK311.out 0
   have hns26_0 := NB308_311.out
   have hns26_1 := NB309_311.out
   have hns26_2 := NB310_311.out
   have hns26_4 := NB317_311.out
   have hms26_0 := NB311_308.out
   have hms26_1 := NB311_309.out
   have hms26_2 := NB311_310.out
   have hms26_4 := NB311_317.out
   refine skip_ (w1 := ?_) (by rfl) rfl ?_ ?_
   rotate_left
   ·go_simp
    rfl
   refine hK.out _ _ (((cell_far (p := ⟨gb311, _, none⟩) NB317_311.out _).trans (hHeld))) (fun hHeld => ?_)
   clear hK K
   refine done_ (by kernel_rfl) ?_
   try go_wp2
   refine bodyPost_ret (results_cc rfl _ _ gb310 gb311 38 38 #[.slice Ao19 t313.length co19] #[.slice Ao25 t318.length co25] (0, 0) (0, 0) _ _ rfl hkPp Try.underlying38 rfl (by kernel_rfl) rfl hkPp Try.underlying38 rfl (by kernel_rfl)) rfl ?_
   exact ⟨_, _, hkE, by (with_reducible repeat (first | apply Kd.R_alloc | apply Kd.R_drewN | apply Kd.R_drew)); exact Kd.R_mono (Kd.R_far (p := ⟨gb311, 0, none⟩) (Kd.R_far (p := ⟨gb310, 0, none⟩) (Kd.R_types (Kd.R_types HO315.out BK310.out (by decide)) BK311.out (by decide)) (fun _ hk => hk.1.2) (.slice Ao19 t313.length co19)) (fun _ hk => hk.2) (.slice Ao25 t318.length co25)) (fun _ hk => hk.1.1.2), by (with_reducible repeat (first | apply Kd.R_alloc | apply Kd.R_drewN | apply Kd.R_drew)); exact Kd.R_mono (Kd.R_far (p := ⟨gb311, 0, none⟩) (Kd.R_far (p := ⟨gb310, 0, none⟩) (Kd.R_types (Kd.R_types HO320.out BK310.out (by decide)) BK311.out (by decide)) (fun _ hk => hk.1.2) (.slice Ao19 t313.length co19)) (fun _ hk => hk.2) (.slice Ao25 t318.length co25)) (fun _ hk => hk.1.1.2), hkS HB⟩
  ·rw [if_neg c4] at H
   exact absurd H (by simp)
 ·rw [if_neg c3] at H
  have c3b0 : ((l1_0.length : Int) == 1) = false := beq_eq_false_iff_ne.mpr c3
  have c3b1 : ((l1_0.length : Int) != 1) = true := bne_iff_ne.mpr c3
  by_cases c27 : 0 ≤ (l0_0.length : Int)
  ·rw [if_pos c27] at H
   have c27b0 := eq_true c27
   have c27b1 : decide (0 ≤ (l0_0.length : Int)) = true := decide_eq_true c27
   clear c27
   by_cases c28 : ((l0_0.length : Int) : Int).toNat ≤ 35184372088832
   ·rw [if_pos c28] at H
    have c28b0 := eq_true c28
    have c28b1 : decide (((l0_0.length : Int) : Int).toNat ≤ 35184372088832) = true := decide_eq_true c28
    clear c28
    obtain ⟨y321, hy321⟩ : ∃ y_ : List Int, y_ = (List.replicate ((l0_0.length : Int) : Int).toNat 0) := ⟨_, rfl⟩
    replace H : (spec_l2div.l0 k y321 (wrap64 ((l0_0.length : Int) - 1)) l0_0 l1_0 ([] : List Int)) = some (r1, r2) := by first | (rw [hy321]; with_reducible exact H) | (have H2_ := (Option.bind_some _ _).symm.trans H; rw [hy321]; with_reducible exact H2_) | (have H2_ := (Option.bind_some _ _).symm.trans H; with_reducible exact H2_) | with_reducible exact H | (rw [hy321]; exact H) | exact H
    have Ny321 := Aside0.mk hy321
    clear hy321
    have H' := Aside0.mk H
    clear H
    go_enter Try.func64, Try.ntmps64
    go_wp2_with (first | ((with_reducible refine gate_dst (N := 2) rfl ?_); refine hkBox (N := 2) (cs := #[.slice A0_0 l0_0.length c0_0]) (t := 38) ?_; intro gb308 hg w29 hbox hb; have n_ := hkA (hkU HB hb) (hkA (Aside0.mk (hbox)) (hkA (hkG hg (hkS HB)) (hkG hg (hkS HB)))); clear HB; obtain ⟨HB, BK308, GW308, GE308⟩ := n_; clear hb hbox hg) | ((with_reducible refine gate_dst (N := 3) rfl ?_); refine hkBox (N := 3) (cs := #[.slice A1_0 l1_0.length c1_0]) (t := 38) ?_; intro gb309 hg w30 hbox hb; have n_ := hkA (hkBb BK308 hb) (hkA (hkU HB hb) (hkA (Aside0.mk (hbox)) (hkA (hkG hg (hkS HB)) (hkA (hkG hg (hkS HB)) (hkA (hkN hg BK308) (hkM hg BK308)))))); clear BK308 HB; obtain ⟨BK308, HB, BK309, GW309, GE309, NB308_309, NB309_308⟩ := n_; clear hb hbox hg) | ((with_reducible refine gate_dst (N := 4) rfl ?_); refine hkBox (N := 4) (cs := #[.slice none 0 0]) (t := 38) ?_; intro gb310 hg w31 hbox hb; have n_ := hkA (hkBb BK308 hb) (hkA (hkBb BK309 hb) (hkA (hkU HB hb) (hkA (Aside0.mk (hbox)) (hkA (hkG hg (hkS HB)) (hkA (hkG hg (hkS HB)) (hkA (hkN hg BK308) (hkA (hkM hg BK308) (hkA (hkN hg BK309) (hkM hg BK309))))))))); clear BK308 BK309 HB; obtain ⟨BK308, BK309, HB, BK310, GW310, GE310, NB308_310, NB310_308, NB309_310, NB310_309⟩ := n_; clear hb hbox hg) | ((with_reducible refine gate_dst (N := 5) rfl ?_); refine hkBox (N := 5) (cs := #[.slice none 0 0]) (t := 38) ?_; intro gb311 hg w32 hbox hb; have n_ := hkA (hkBb BK308 hb) (hkA (hkBb BK309 hb) (hkA (hkBb BK310 hb) (hkA (hkU HB hb) (hkA (Aside0.mk (hbox)) (hkA (hkG hg (hkS HB)) (hkA (hkG hg (hkS HB)) (hkA (hkN hg BK308) (hkA (hkM hg BK308) (hkA (hkN hg BK309) (hkA (hkM hg BK309) (hkA (hkN hg BK310) (hkM hg BK310)))))))))))); clear BK308 BK309 BK310 HB; obtain ⟨BK308, BK309, BK310, HB, BK311, GW311, GE311, NB308_311, NB311_308, NB309_311, NB311_309, NB310_311, NB311_310⟩ := n_; clear hb hbox hg; have hnb33 := NB309_308.out; have hnc33 := NB308_309.out; have hnb34 := NB309_310.out; have hnc34 := NB310_309.out; have hnb35 := NB309_311.out; have hnc35 := NB311_309.out; obtain ⟨hcz36_0, hfz36_0⟩ := hkc1 BK309; have hnb37 := NB308_310.out; have hnc37 := NB310_308.out; have hnb38 := NB308_311.out; have hnc38 := NB311_308.out; obtain ⟨hcz39_0, hfz39_0⟩ := hkc1 BK308) | ((with_reducible refine gate_dst (N := 33) rfl ?_); refine Kd.R_make (Kd.int .i64) _ 3 rfl (N := 33) rfl 29 _ _ rfl (l0_0.length : Int) rfl rfl Try.underlying29 (.int .i64 0) 8 info3 rfl (by decide) (by omega) 0 (ok := fun _ => True) (okp := fun _ => True) rfl (fun _ hk => hk) trivial (of_decide_eq_true (by first | (with_reducible assumption) | assumption)) (Nat.le_trans (Nat.mul_le_mul_right _ (of_decide_eq_true (by first | (with_reducible assumption) | assumption) : (l0_0.length : Int).toNat ≤ 35184372088832)) (by omega)) (Below.refl _ _) (Nat.le_refl _) ?_; intro v322 w40 ho41 hb hg_ hnew_; clear hg_ hnew_; (first | rw [← Ny321.out] at ho41 | (simp only [Int.reduceToNat] at ho41; rw [← Ny321.out] at ho41) | (simp only [Int.toNat_zero, List.replicate_zero] at ho41; rw [← Ny321.out] at ho41)); have n_ := hkA (Aside0.mk (Kd.R_lower ho41 (below_size (hkS HB)))) (hkA (hkBb BK308 hb) (hkA (hkBb BK309 hb) (hkA (hkBb BK310 hb) (hkA (hkBb BK311 hb) (hkU HB hb))))); clear BK308 BK309 BK310 BK311 HB; obtain ⟨HO323, BK308, BK309, BK310, BK311, HB⟩ := n_; clear hb ho41) | ((with_reducible refine gate_dst (N := 9) rfl ?_); refine hkBox (N := 9) (cs := #[.slice none 0 0]) (t := 38) ?_; intro gb324 hg w42 hbox hb; have n_ := hkA (hkRb HO323 hb) (hkA (hkBb BK308 hb) (hkA (hkBb BK309 hb) (hkA (hkBb BK310 hb) (hkA (hkBb BK311 hb) (hkA (hkU HB hb) (hkA (Aside0.mk (hbox)) (hkA (hkG hg (hkS HB)) (hkA (hkG hg (hkS HB)) (hkA (hkN hg BK308) (hkA (hkM hg BK308) (hkA (hkN hg BK309) (hkA (hkM hg BK309) (hkA (hkN hg BK310) (hkA (hkM hg BK310) (hkA (hkN hg BK311) (hkM hg BK311)))))))))))))))); clear HO323 BK308 BK309 BK310 BK311 HB; obtain ⟨HO323, BK308, BK309, BK310, BK311, HB, BK324, GW324, GE324, NB308_324, NB324_308, NB309_324, NB324_309, NB310_324, NB324_310, NB311_324, NB324_311⟩ := n_; clear hb hbox hg; have hnb43 := NB308_324.out; have hnc43 := NB324_308.out; obtain ⟨hcz44_0, hfz44_0⟩ := hkc1 BK308))
    go_loopg [10] k (fun kq v10 w' => ∃ (x8_1 : List Int) (x10_1 : Int) (x325000_1 : List Int) (u325000 : Value), v10 = .int .i64 x10_1 ∧ Aside0 (spec_l2div.l0 kq x8_1 x10_1 l0_0 l1_0 x325000_1 = some (r1, r2)) ∧ Aside0 (kq ≤ k) ∧ Aside0 (Kd.R (Kd.int .i64) 3 w' w.heap.size (fun k_ => some k_ ≠ (u325000 : Value).ownBlock) v322 x8_1) ∧ Aside0 (Kd.R (Kd.int .i64) 3 w' w.heap.size (fun k_ => some k_ ≠ (v322 : Value).ownBlock) u325000 x325000_1) ∧ Aside0 (w'.heap[gb308]? = some (.cells #[(.slice A0_0 l0_0.length c0_0)] 38 (0, 0))) ∧ Aside0 (w'.heap[gb309]? = some (.cells #[(.slice A1_0 l1_0.length c1_0)] 38 (0, 0))) ∧ Aside0 (w'.heap[gb310]? = some (.cells #[(.slice none 0 0)] 38 (0, 0))) ∧ Aside0 (w'.heap[gb311]? = some (.cells #[(.slice none 0 0)] 38 (0, 0))) ∧ Aside0 (w'.heap[gb324]? = some (.cells #[u325000] 38 (0, 0))) ∧ Aside0 (Below w.heap.size w w'))
    case atStart => exact ⟨(y321), (wrap64 ((l0_0.length : Int) - 1)), (([] : List Int)), (.slice none 0 0), (by first | rfl | (simp; done) | (simp [*]; done)), H', ⟨Nat.le_refl _⟩, ⟨by (with_reducible repeat (first | apply Kd.R_alloc | apply Kd.R_drewN | apply Kd.R_drew)); exact Kd.R_mono HO323.out (fun _ hk => (by simp [Value.ownBlock]))⟩, ⟨by first | exact Kd.R_nil _ _ _ _ _ | exact Kd.N_nil _ _ _ _ _ | exact Kd.V_nil _ _ _ _ _ | exact Kd.Q_nil _ _ _ _ _ | exact Kd.S_nil _ _ _ _ _⟩, ⟨by refine hkz ?_; exact BK308.out⟩, ⟨by refine hkz ?_; exact BK309.out⟩, ⟨by refine hkz ?_; exact BK310.out⟩, ⟨by refine hkz ?_; exact BK311.out⟩, ⟨by refine hkz ?_; exact BK324.out⟩, ⟨hkS HB⟩⟩
    case round =>
     clear H'
     try clear c1
     try clear c2
     try clear p2
     try clear c3
     try clear c3b0
     try clear c3b1
     try clear p3
     try clear q3
     try clear hx3
     try clear qi3
     try clear c4
     try clear c4b0
     try clear c4b1
     try clear c5
     try clear c6
     try clear p6
     try clear c11
     try clear c12
     try clear c13
     try clear c27
     try clear c27b0
     try clear c27b1
     try clear c28
     try clear c28b0
     try clear c28b1
     try clear p31
     try clear q31
     try clear hx31
     try clear qi31
     try clear c33
     try clear c34
     try clear c35
     try clear c37
     try clear c38
     try clear c43
     try clear hcz14_0 hcz36_0 hcz39_0 hcz44_0 hfz14_0 hfz36_0 hfz39_0 hfz44_0
     try clear hx312_0
     try clear p312
     try clear q312
     obtain ⟨x8_1, x10_1, x325000_1, u325000, rfl, HA, HK1, HO_8, HO_325000, BK308, BK309, BK310, BK311, BK324, HB⟩ := hrel
     cases gk with
     | zero => exact absurd HA.out (by simp [spec_l2div.l0])
     | succ k1 =>
      have H := HA.out
      clear HA
      simp only [spec_l2div.l0] at H
      by_cases c45 : x10_1 ≥ 0
      ·rw [if_pos c45] at H
       have c45b0 : decide (0 ≤ x10_1) = true := decide_eq_true c45
       clear c45
       by_cases c46 : 0 ≤ x10_1
       ·rw [if_pos c46] at H
        have c46b0 : decide (0 ≤ x10_1) = true := decide_eq_true c46
        clear c46
        by_cases c47 : x10_1 < (l0_0.length : Int)
        ·rw [if_pos c47] at H
         have c47b0 : decide (x10_1 < (l0_0.length : Int)) = true := decide_eq_true c47
         clear c47
         obtain ⟨y329, hy329⟩ : ∃ y_ : List Int, y_ = (([rd l0_0 x10_1] : List Int)) := ⟨_, rfl⟩
         replace H : (if y329.length + x325000_1.length < 17592186044416 then ((spec_l2norm.f k1 (y329 ++ x325000_1)).bind fun t335 => (spec_l2div.l1 k1 x8_1 x10_1 0 65536 l0_0 l1_0 t335)) else (none)) = some (r1, r2) := by first | (rw [hy329]; with_reducible exact H) | (have H2_ := (Option.bind_some _ _).symm.trans H; rw [hy329]; with_reducible exact H2_) | (have H2_ := (Option.bind_some _ _).symm.trans H; with_reducible exact H2_) | with_reducible exact H | (rw [hy329]; exact H) | exact H
         have Ny329 := Aside0.mk hy329
         clear hy329
         by_cases c48 : y329.length + x325000_1.length < 17592186044416
         ·rw [if_pos c48] at H
          have LMc48 := Aside0.mk c48
          clear c48
          obtain ⟨y332, hy332⟩ : ∃ y_ : List Int, y_ = (y329 ++ x325000_1) := ⟨_, rfl⟩
          replace H : ((spec_l2norm.f k1 y332).bind fun t335 => (spec_l2div.l1 k1 x8_1 x10_1 0 65536 l0_0 l1_0 t335)) = some (r1, r2) := by first | (rw [hy332]; with_reducible exact H) | (have H2_ := (Option.bind_some _ _).symm.trans H; rw [hy332]; with_reducible exact H2_) | (have H2_ := (Option.bind_some _ _).symm.trans H; with_reducible exact H2_) | with_reducible exact H | (rw [hy332]; exact H) | exact H
          have Ny332 := Aside0.mk hy332
          clear hy332
          replace H := hBi H
          obtain ⟨t335, A490, H⟩ := H
          replace H : (spec_l2div.l1 k1 x8_1 x10_1 0 65536 l0_0 l1_0 t335) = some (r1, r2) := H
          have A49 := Aside0.mk A490
          clear A490
          have H' := Aside0.mk H
          clear H
          try go_wp2
          have n_ := hkA (Aside0.mk (Kd.R_drew HO_8.out)) (hkA (Aside0.mk (Kd.R_drew HO_325000.out)) (hkA (Aside0.mk (blk_drew BK308.out)) (hkA (Aside0.mk (blk_drew BK309.out)) (hkA (Aside0.mk (blk_drew BK310.out)) (hkA (Aside0.mk (blk_drew BK311.out)) (hkA (Aside0.mk (blk_drew BK324.out)) (Aside0.mk (below_drew1 HB.out))))))))
          clear HO_8 HO_325000 BK308 BK309 BK310 BK311 BK324 HB
          obtain ⟨HO_8, HO_325000, BK308, BK309, BK310, BK311, BK324, HB⟩ := n_
          have p328 : 0 ≤ (x10_1 : Int) := of_decide_eq_true (by first | (with_reducible assumption) | assumption)
          have q328 : x10_1 < (l0_0.length : Int) := of_decide_eq_true (by first | (with_reducible assumption) | assumption)
          obtain ⟨ad328, e328, hx328_0⟩ := Kd.at_int HR0_0.out x10_1 p328 q328
          have hw328_0 := hx328_0
          cases e328
          replace hx328_0 := (HB.out.cell (World.block_lt_of_cell? w _ hx328_0)).trans hx328_0
          replace p328 := eq_true p328
          replace q328 := eq_true q328
          refine start_ (n := 11) (S := fun w' => w'.cell? ⟨gb308, 0, none⟩ = some (.slice (some ad328) l0_0.length c0_0) ∧ w'.cell? ⟨gb324, 0, none⟩ = some (u325000) ∧ w'.cell? (ad328.add (x10_1).toNat) = some (.int .i64 (rd l0_0 x10_1))) (ds := [10]) #[false, false, false, false, false, false, false, false, false, false, false] (by kernel_rfl) rfl rfl ⟨(blk_cell BK308.out 0).trans rfl, (blk_cell BK324.out 0).trans rfl, ((HB.out.cell (World.block_lt_of_cell? w _ hw328_0)).trans hw328_0)⟩ (fun hHeld => ?_); refine with_tabW spec_l2div.tab9 spec_l2div.bits9 (fun HT_ HW_ => ?_)
          generalize wr.drew = w50 at HO_8 HO_325000 BK308 BK309 BK310 BK311 BK324 HB hx328_0 hHeld ⊢
          refine hkPt (i := 0) (N := some 42) HT_ ?_
          refine hkPt (i := 2) (N := some 44) HT_ ?_
          refine hkPt (i := 6) (N := some 48) HT_ ?_
          refine hkTt (i := 1) (N := some 43) HT_ HW_ hHeld ?_ (hy := by rintro w' ⟨s0, s1, s2⟩; go_simp; with_reducible rfl)
          refine hkPt (i := 3) (N := some 45) HT_ ?_
          refine hkTt (i := 4) (N := some 46) HT_ HW_ hHeld ?_ (hy := by rintro w' ⟨s0, s1, s2⟩; go_simp; with_reducible rfl)
          refine hkTt (i := 7) (N := some 49) HT_ HW_ hHeld ?_ (hy := by rintro w' ⟨s0, s1, s2⟩; go_simp; with_reducible rfl)
          refine one_ (i := 5) (N := some 47) #[true, true, true, true, true, true, true, true, false, false, false] rfl rfl (one_of HT_.out (by kernel_rfl)) (by decide) (fun K hK => ?_)
          refine Kd.R_lit_step (Kd.int .i64) _ 3 ?hg (N := 47) ?hd (xs := ([rd l0_0 x10_1] : List Int)) (inner := [.int .i64 (rd l0_0 x10_1)]) (ok := fun _ => True) (okp := fun _ => True) ?hr ?hp (fun _ hk => hk) trivial (Below.refl _ _) (Nat.le_refl _) (by simp) ?_; (case hd => rfl); (case hg => rfl); (case hr => first | (go_simp; done) | (go_simp; rfl)); (case hp => exact (Reps.one (show Kd.M (Kd.int .i64) _ _ _ (rd l0_0 x10_1) [.int .i64 (rd l0_0 x10_1)] from rfl) (Reps.none _ _)))
          intro v330 w51 ho52 hb hg_ hnew_
          clear hg_ hnew_
          (first | rw [← Ny329.out] at ho52 | (simp only [Int.reduceToNat] at ho52; rw [← Ny329.out] at ho52) | (simp only [Int.toNat_zero, List.replicate_zero] at ho52; rw [← Ny329.out] at ho52))
          have n_ := hkA (Aside0.mk (Kd.R_elder' (hkR HO_8) (Kd.R_base ho52) hb)) (hkA (Aside0.mk (Kd.R_elder' (hkR HO_325000) (Kd.R_base ho52) hb)) (hkA (Aside0.mk (Kd.R_lower (Kd.R_new' (Kd.R_new' ho52 (Kd.R_lt (hkR HO_8))) (Kd.R_lt (hkR HO_325000))) (below_size (hkS HB)))) (hkA (hkBb BK308 hb) (hkA (hkBb BK309 hb) (hkA (hkBb BK310 hb) (hkA (hkBb BK311 hb) (hkA (hkBb BK324 hb) (hkU HB hb))))))))
          clear HO_8 HO_325000 BK308 BK309 BK310 BK311 BK324 HB
          obtain ⟨HO_8, HO_325000, HO331, BK308, BK309, BK310, BK311, BK324, HB⟩ := n_
          clear hb ho52
          obtain ⟨Ao54, co54, eo54⟩ := Kd.R_slice HO_325000.out
          (first | subst eo54 | (injection eo54 with f1_ f2_ f3_; have f4_ := f1_.symm; have f5_ := f3_.symm; clear f1_ f2_ f3_; subst f4_; subst f5_))
          refine hK.out _ _ ⟨(blk_cell BK308.out 0).trans rfl, (blk_cell BK324.out 0).trans rfl, ((HB.out.cell (World.block_lt_of_cell? w _ hw328_0)).trans hw328_0)⟩ (fun hHeld => ?_)
          clear hK K
          refine hkNo (N := some 47) ?_
          refine one_ (i := 8) (N := some 50) #[true, true, true, true, true, true, true, true, true, false, false] rfl rfl (one_of HT_.out (by kernel_rfl)) (by decide) (fun K hK => ?_)
          refine Kd.R_append_rows_step (Kd.int .i64) (w0 := w) w.heap.size (by rfl) (.tmp 47) (.tmp 49) 29 3 (.int .i64 0) 8 rfl Try.underlying29 info3 rfl (by decide) (by omega) v330 y329 x325000_1 _ _ _ (fun k_ => some k_ ≠ (v322 : Value).ownBlock ∧ some k_ ≠ (.slice Ao54 x325000_1.length co54 : Value).ownBlock) (fun _ => False) rfl rfl ?aO ?aR (fun _ _ h => h) (fun _ h => h.elim) ?aF ?aB ?aS ?aL ?_
          (case aR => exact hkC ((Kd.R_reads' HO_325000.out).2.2))
          (case aB => exact (hkS HB))
          (case aF => exact (fun k_ hk => ⟨Kd.fresh' (Kd.R_lt (hkR HO_8)) k_ hk, Kd.fresh' (Kd.R_lt (hkR HO_325000)) k_ hk⟩))
          (case aO => exact (by (with_reducible repeat (first | apply Kd.R_alloc | apply Kd.R_drewN | apply Kd.R_drew)); exact Kd.R_mono HO331.out (fun _ hk => ⟨hk.1.2, hk.2⟩)))
          (case aS => exact (below_size (hkS HB)))
          (case aL => have := LMc48.out; omega)
          intro v333 w53 ho hb hg hat
          rw [← Ny332.out] at ho
          have n_ := hkA (Aside0.mk (Kd.R_after (ok := (fun k_ => some k_ ≠ (.slice Ao54 x325000_1.length co54 : Value).ownBlock)) (hkR HO_8) hg hat)) (hkA (Aside0.mk (Kd.R_after (ok := (fun k_ => some k_ ≠ (v322 : Value).ownBlock)) (hkR HO_325000) hg hat)) (hkA (Aside0.mk (blk_grown (g := gb308) (o := .cells #[.slice (some ad328) l0_0.length c0_0] 38 (0, 0)) (hkB BK308) hg (Kd.R_ne HO331.out BK308.out (by decide)))) (hkA (Aside0.mk (blk_grown (g := gb309) (o := .cells #[.slice A1_0 l1_0.length c1_0] 38 (0, 0)) (hkB BK309) hg (Kd.R_ne HO331.out BK309.out (by decide)))) (hkA (Aside0.mk (blk_grown (g := gb310) (o := .cells #[.slice none 0 0] 38 (0, 0)) (hkB BK310) hg (Kd.R_ne HO331.out BK310.out (by decide)))) (hkA (Aside0.mk (blk_grown (g := gb311) (o := .cells #[.slice none 0 0] 38 (0, 0)) (hkB BK311) hg (Kd.R_ne HO331.out BK311.out (by decide)))) (hkA (Aside0.mk (blk_grown (g := gb324) (o := .cells #[.slice Ao54 x325000_1.length co54] 38 (0, 0)) (hkB BK324) hg (Kd.R_ne HO331.out BK324.out (by decide)))) (hkA (Aside0.mk (hb)) (Aside0.mk (ho)))))))))
          clear HO_8 HO_325000 BK308 BK309 BK310 BK311 BK324 HB HO331
          obtain ⟨HO_8, HO_325000, BK308, BK309, BK310, BK311, BK324, HB, HO334⟩ := n_
          clear ho hb hg hat
          obtain ⟨Ao55, co55, eo55⟩ := Kd.R_slice HO334.out
          (first | subst eo55 | (injection eo55 with f1_ f2_ f3_; have f4_ := f1_.symm; have f5_ := f3_.symm; clear f1_ f2_ f3_; subst f4_; subst f5_))
          refine hK.out _ _ ⟨(blk_cell BK308.out 0).trans rfl, (blk_cell BK324.out 0).trans rfl, ((HB.out.cell (World.block_lt_of_cell? w _ hw328_0)).trans hw328_0)⟩ (fun hHeld => ?_)
          clear hK K
          refine hkNo (N := some 50) ?_
          refine one_ (i := 9) (N := some 51) #[true, true, true, true, true, true, true, true, true, true, false] rfl rfl (one_of HT_.out (by kernel_rfl)) (by decide) (fun K hK => ?_)
          refine goes_ Try.func99 (by kernel_rfl) rfl #[.slice Ao55 y332.length co55] (by rfl) rfl rfl hkL ?_
          with_reducible refine (spec_l2norm.calls k1 _ _ y332 t335 _ ?side1 ?side2 A49.out).mono ?_
          (case side1 => exact hkC ((Kd.R_reads' HO334.out).2.2))
          (case side2 => exact (Kd.R_reads' HO334.out).2.1)
          rintro e w56 ⟨v336, rfl, ho0, hb⟩
          refine ⟨_, rfl, ?_⟩
          have n_ := hkA (Aside0.mk (Kd.R_elder' (hkR HO_8) (Kd.R_base ho0) hb)) (hkA (Aside0.mk (Kd.R_elder' (hkR HO_325000) (Kd.R_base ho0) hb)) (hkA (Aside0.mk (Kd.R_elder' (hkR HO334) (Kd.R_base ho0) hb)) (hkA (Aside0.mk (Kd.R_lower (Kd.R_new' (Kd.R_new' (Kd.R_new' ho0 (Kd.R_lt (hkR HO_8))) (Kd.R_lt (hkR HO_325000))) (Kd.R_lt (hkR HO334))) (below_size (hkS HB)))) (hkA (hkBb BK308 hb) (hkA (hkBb BK309 hb) (hkA (hkBb BK310 hb) (hkA (hkBb BK311 hb) (hkA (hkBb BK324 hb) (hkU HB hb)))))))))
          clear HO_8 HO_325000 HO334 BK308 BK309 BK310 BK311 BK324 HB
          obtain ⟨HO_8, HO_325000, HO334, HO337, BK308, BK309, BK310, BK311, BK324, HB⟩ := n_
          (try clear hb); (try clear ho0)
          obtain ⟨Ao57, co57, eo57⟩ := Kd.R_slice HO337.out
          (first | subst eo57 | (injection eo57 with f1_ f2_ f3_; have f4_ := f1_.symm; have f5_ := f3_.symm; clear f1_ f2_ f3_; subst f4_; subst f5_))
          refine hK.out _ _ ⟨(blk_cell BK308.out 0).trans rfl, (blk_cell BK324.out 0).trans rfl, ((HB.out.cell (World.block_lt_of_cell? w _ hw328_0)).trans hw328_0)⟩ (fun hHeld => ?_)
          clear hK K
          refine hkNo (N := some 51) ?_
          refine last_ (i := 10) (N := none) #[true, true, true, true, true, true, true, true, true, true, true] rfl rfl (one_of HT_.out (by kernel_rfl)) (by decide) (fun K hK => ?_)
          have hs58 : w56.cell? ⟨gb324, 0, none⟩ = some (.slice Ao54 x325000_1.length co54) := (blk_cell BK324.out 0).trans rfl
          have hfs58 := blk_frozen BK324.out 0
          have hns58_0 := NB308_324.out
          have hns58_1 := NB309_324.out
          have hns58_2 := NB310_324.out
          have hns58_3 := NB311_324.out
          have hms58_0 := NB324_308.out
          have hms58_1 := NB324_309.out
          have hms58_2 := NB324_310.out
          have hms58_3 := NB324_311.out
          refine skip_ (w1 := ?_) (by rfl) rfl ?_ ?_
          rotate_left
          ·go_simp
           rfl
          refine hK.out _ _ ?_
          clear hK K
          refine done_ (done_of HT_.out (by kernel_rfl)) ?_
          try go_wp2
          go_loopg [11, 12] k1 (fun kq v11 v12 w' => ∃ (x11_2 : Int) (x12_2 : Int), v11 = .int .i64 x11_2 ∧ v12 = .int .i64 x12_2 ∧ Aside0 (spec_l2div.l1 kq x8_1 x10_1 x11_2 x12_2 l0_0 l1_0 t335 = some (r1, r2)) ∧ Aside0 (kq ≤ k1) ∧ Aside0 (Kd.R (Kd.int .i64) 3 w' w.heap.size (fun k_ => some k_ ≠ ((.slice Ao57 t335.length co57) : Value).ownBlock) v322 x8_1) ∧ Aside0 (Kd.R (Kd.int .i64) 3 w' w.heap.size (fun k_ => some k_ ≠ (v322 : Value).ownBlock) (.slice Ao57 t335.length co57) t335) ∧ Aside0 (w'.heap[gb308]? = some (.cells #[(.slice (some ad328) l0_0.length c0_0)] 38 (0, 0))) ∧ Aside0 (w'.heap[gb309]? = some (.cells #[(.slice A1_0 l1_0.length c1_0)] 38 (0, 0))) ∧ Aside0 (w'.heap[gb310]? = some (.cells #[(.slice none 0 0)] 38 (0, 0))) ∧ Aside0 (w'.heap[gb311]? = some (.cells #[(.slice none 0 0)] 38 (0, 0))) ∧ Aside0 (w'.heap[gb324]? = some (.cells #[(.slice Ao57 t335.length co57)] 38 (0, 0))) ∧ Aside0 (Below w.heap.size w w'))
          case atStart => exact ⟨(0), (65536), (by first | rfl | (simp; done) | (simp [*]; done)), (by first | rfl | (simp; done) | (simp [*]; done)), H', ⟨Nat.le_refl _⟩, ⟨by (with_reducible repeat (first | apply Kd.R_alloc | apply Kd.R_drewN | apply Kd.R_drew)); exact Kd.R_mono (Kd.R_far (p := ⟨gb324, 0, none⟩) (Kd.R_types HO_8.out BK324.out (by decide)) (fun _ hk => hk.2) (.slice Ao57 t335.length co57)) (fun _ hk => hk.1.2)⟩, ⟨by (with_reducible repeat (first | apply Kd.R_alloc | apply Kd.R_drewN | apply Kd.R_drew)); exact Kd.R_mono (Kd.R_far (p := ⟨gb324, 0, none⟩) (Kd.R_types HO337.out BK324.out (by decide)) (fun _ hk => hk.2) (.slice Ao57 t335.length co57)) (fun _ hk => hk.1.1.1.2)⟩, ⟨by refine hkz ?_; refine blk_far ?_ NB308_324.out _; refine hkz ?_; exact BK308.out⟩, ⟨by refine hkz ?_; refine blk_far ?_ NB309_324.out _; refine hkz ?_; exact BK309.out⟩, ⟨by refine hkz ?_; refine blk_far ?_ NB310_324.out _; refine hkz ?_; exact BK310.out⟩, ⟨by refine hkz ?_; refine blk_far ?_ NB311_324.out _; refine hkz ?_; exact BK311.out⟩, ⟨by refine hkz ?_; refine blk_put (cs := #[.slice Ao54 x325000_1.length co54]) ?_ 0 _ rfl; refine hkz ?_; exact BK324.out⟩, ⟨hkS HB⟩⟩
          case round =>
           clear H'
           try clear c1
           try clear c2
           try clear p2
           try clear c3
           try clear c3b0
           try clear c3b1
           try clear p3
           try clear q3
           try clear hx3
           try clear qi3
           try clear c4
           try clear c4b0
           try clear c4b1
           try clear c5
           try clear c6
           try clear p6
           try clear c9
           try clear c11
           try clear c12
           try clear c13
           try clear c27
           try clear c27b0
           try clear c27b1
           try clear c28
           try clear c28b0
           try clear c28b1
           try clear p31
           try clear q31
           try clear hx31
           try clear qi31
           try clear p32
           try clear q32
           try clear hx32
           try clear c33
           try clear c34
           try clear c35
           try clear c37
           try clear c38
           try clear c43
           try clear c45
           try clear c45b0
           try clear c46
           try clear c46b0
           try clear c47
           try clear c47b0
           try clear c48
           try clear c56
           try clear hcz14_0 hcz36_0 hcz39_0 hcz44_0 hfz14_0 hfz36_0 hfz39_0 hfz44_0
           try clear hx312_0
           try clear hx328_0
           try clear p2
           try clear p3
           try clear p31
           try clear p312
           try clear p328
           try clear p6
           try clear q3
           try clear q31
           try clear q312
           try clear q328
           obtain ⟨x11_2, x12_2, rfl, rfl, HA, HK2, HO_8, HO_325000, BK308, BK309, BK310, BK311, BK324, HB⟩ := hrel
           cases gk with
           | zero => exact absurd HA.out (by simp [spec_l2div.l1])
           | succ k2 =>
            have H := HA.out
            clear HA
            simp only [spec_l2div.l1] at H
            by_cases c59 : (wrap64 (x12_2 - x11_2)) > 1
            ·rw [if_pos c59] at H
             have c59b0 : decide (1 < (wrap64 (x12_2 - x11_2))) = true := decide_eq_true c59
             clear c59
             replace H := hBi H
             obtain ⟨t348, A600, H⟩ := H
             replace H : ((spec_l2mul.f k2 l1_0 t348).bind fun t351 => ((spec_l2cmp.f k2 t351 t335).bind fun t354 => (if t354 ≤ 0 then (spec_l2div.l1 k2 x8_1 x10_1 (wrap64 (Int.tdiv (wrap64 (x11_2 + x12_2)) 2)) x12_2 l0_0 l1_0 t335) else (spec_l2div.l1 k2 x8_1 x10_1 x11_2 (wrap64 (Int.tdiv (wrap64 (x11_2 + x12_2)) 2)) l0_0 l1_0 t335)))) = some (r1, r2) := H
             have A60 := Aside0.mk A600
             clear A600
             replace H := hBi H
             obtain ⟨t351, A610, H⟩ := H
             replace H : ((spec_l2cmp.f k2 t351 t335).bind fun t354 => (if t354 ≤ 0 then (spec_l2div.l1 k2 x8_1 x10_1 (wrap64 (Int.tdiv (wrap64 (x11_2 + x12_2)) 2)) x12_2 l0_0 l1_0 t335) else (spec_l2div.l1 k2 x8_1 x10_1 x11_2 (wrap64 (Int.tdiv (wrap64 (x11_2 + x12_2)) 2)) l0_0 l1_0 t335))) = some (r1, r2) := H
             have A61 := Aside0.mk A610
             clear A610
             replace H := hBi H
             obtain ⟨t354, A620, H⟩ := H
             replace H : (if t354 ≤ 0 then (spec_l2div.l1 k2 x8_1 x10_1 (wrap64 (Int.tdiv (wrap64 (x11_2 + x12_2)) 2)) x12_2 l0_0 l1_0 t335) else (spec_l2div.l1 k2 x8_1 x10_1 x11_2 (wrap64 (Int.tdiv (wrap64 (x11_2 + x12_2)) 2)) l0_0 l1_0 t335)) = some (r1, r2) := H
             have A62 := Aside0.mk A620
             clear A620
             by_cases c63 : t354 ≤ 0
             ·rw [if_pos c63] at H
              have c63b0 : decide (t354 ≤ 0) = true := decide_eq_true c63
              clear c63
              have H' := Aside0.mk H
              clear H
              try go_wp2
              have n_ := hkA (Aside0.mk (Kd.R_drew HO_8.out)) (hkA (Aside0.mk (Kd.R_drew HO_325000.out)) (hkA (Aside0.mk (blk_drew BK308.out)) (hkA (Aside0.mk (blk_drew BK309.out)) (hkA (Aside0.mk (blk_drew BK310.out)) (hkA (Aside0.mk (blk_drew BK311.out)) (hkA (Aside0.mk (blk_drew BK324.out)) (Aside0.mk (below_drew1 HB.out))))))))
              clear HO_8 HO_325000 BK308 BK309 BK310 BK311 BK324 HB
              obtain ⟨HO_8, HO_325000, BK308, BK309, BK310, BK311, BK324, HB⟩ := n_
              refine start_ (n := 7) (S := fun w' => w'.cell? ⟨gb309, 0, none⟩ = some (.slice A1_0 l1_0.length c1_0) ∧ w'.cell? ⟨gb324, 0, none⟩ = some (.slice Ao57 t335.length co57)) (ds := []) #[false, false, false, false, false, false, false] (by kernel_rfl) rfl rfl ⟨(blk_cell BK309.out 0).trans rfl, (blk_cell BK324.out 0).trans rfl⟩ (fun hHeld => ?_)
              generalize wr.drew = w64 at HO_8 HO_325000 BK308 BK309 BK310 BK311 BK324 HB hHeld ⊢
              refine hkPu (i := 1) (N := some 61) ?_
              refine hkTk (i := 0) (N := some 60) hHeld ?_ (hy := by rintro w' ⟨s0, s1⟩; go_simp; with_reducible rfl)
              refine hkTk (i := 4) (N := some 64) hHeld ?_ (hy := by rintro w' ⟨s0, s1⟩; go_simp; with_reducible rfl)
              refine one_ (i := 2) (N := some 62) #[true, true, true, false, true, false, false] rfl rfl (by kernel_rfl) (by decide) (fun K hK => ?_)
              refine goes_ Try.func56 (by kernel_rfl) rfl #[.int .i64 (wrap64 (Int.tdiv (wrap64 (x11_2 + x12_2)) 2))] (by rfl) rfl rfl hkL ?_
              with_reducible refine (spec_l2of.calls k2 (wrap64 (Int.tdiv (wrap64 (x11_2 + x12_2)) 2)) t348 _ A60.out).mono ?_
              rintro e w65 ⟨v349, rfl, ho0, hb⟩
              refine ⟨_, rfl, ?_⟩
              have n_ := hkA (Aside0.mk (Kd.R_elder' (hkR HO_8) (Kd.R_base ho0) hb)) (hkA (Aside0.mk (Kd.R_elder' (hkR HO_325000) (Kd.R_base ho0) hb)) (hkA (Aside0.mk (Kd.R_lower (Kd.R_new' (Kd.R_new' ho0 (Kd.R_lt (hkR HO_8))) (Kd.R_lt (hkR HO_325000))) (below_size (hkS HB)))) (hkA (hkBb BK308 hb) (hkA (hkBb BK309 hb) (hkA (hkBb BK310 hb) (hkA (hkBb BK311 hb) (hkA (hkBb BK324 hb) (hkU HB hb))))))))
              clear HO_8 HO_325000 BK308 BK309 BK310 BK311 BK324 HB
              obtain ⟨HO_8, HO_325000, HO350, BK308, BK309, BK310, BK311, BK324, HB⟩ := n_
              (try clear hb); (try clear ho0)
              obtain ⟨Ao66, co66, eo66⟩ := Kd.R_slice HO350.out
              (first | subst eo66 | (injection eo66 with f1_ f2_ f3_; have f4_ := f1_.symm; have f5_ := f3_.symm; clear f1_ f2_ f3_; subst f4_; subst f5_))
              refine hK.out _ _ ⟨(blk_cell BK309.out 0).trans rfl, (blk_cell BK324.out 0).trans rfl⟩ (fun hHeld => ?_)
              clear hK K
              refine hkNo (N := some 62) ?_
              refine one_ (i := 3) (N := some 63) #[true, true, true, true, true, false, false] rfl rfl (by kernel_rfl) (by decide) (fun K hK => ?_)
              refine goes_ Try.func58 (by kernel_rfl) rfl #[.agg #[.slice A1_0 l1_0.length c1_0], .agg #[.slice Ao66 t348.length co66]] (by rfl) rfl rfl hkL ?_
              with_reducible refine (spec_l2mul.calls k2 _ _ l1_0 _ _ t348 t351 _ ?side1 ?side2 ?side3 ?side4 A61.out).mono ?_
              (case side1 => exact hkC ((Kd.C_below HR1_0.out HB.out)))
              (case side2 => exact HC1_0.out)
              (case side3 => exact hkC ((Kd.R_reads' HO350.out).2.2))
              (case side4 => exact (Kd.R_reads' HO350.out).2.1)
              rintro e w67 ⟨v352, rfl, ho0, hb⟩
              refine ⟨_, rfl, ?_⟩
              have n_ := hkA (Aside0.mk (Kd.R_elder' (hkR HO_8) (Kd.R_base ho0) hb)) (hkA (Aside0.mk (Kd.R_elder' (hkR HO_325000) (Kd.R_base ho0) hb)) (hkA (Aside0.mk (Kd.R_elder' (hkR HO350) (Kd.R_base ho0) hb)) (hkA (Aside0.mk (Kd.R_lower (Kd.R_new' (Kd.R_new' (Kd.R_new' ho0 (Kd.R_lt (hkR HO_8))) (Kd.R_lt (hkR HO_325000))) (Kd.R_lt (hkR HO350))) (below_size (hkS HB)))) (hkA (hkBb BK308 hb) (hkA (hkBb BK309 hb) (hkA (hkBb BK310 hb) (hkA (hkBb BK311 hb) (hkA (hkBb BK324 hb) (hkU HB hb)))))))))
              clear HO_8 HO_325000 HO350 BK308 BK309 BK310 BK311 BK324 HB
              obtain ⟨HO_8, HO_325000, HO350, HO353, BK308, BK309, BK310, BK311, BK324, HB⟩ := n_
              (try clear hb); (try clear ho0)
              obtain ⟨Ao68, co68, eo68⟩ := Kd.R_slice HO353.out
              (first | subst eo68 | (injection eo68 with f1_ f2_ f3_; have f4_ := f1_.symm; have f5_ := f3_.symm; clear f1_ f2_ f3_; subst f4_; subst f5_))
              refine hK.out _ _ ⟨(blk_cell BK309.out 0).trans rfl, (blk_cell BK324.out 0).trans rfl⟩ (fun hHeld => ?_)
              clear hK K
              refine hkNo (N := some 63) ?_
              refine one_ (i := 5) (N := some 65) #[true, true, true, true, true, true, false] rfl rfl (by kernel_rfl) (by decide) (fun K hK => ?_)
              refine goes_ Try.func112 (by kernel_rfl) rfl #[.agg #[.slice Ao68 t351.length co68], .agg #[.slice Ao57 t335.length co57]] (by rfl) rfl rfl hkL ?_
              with_reducible refine (spec_l2cmp.calls k2 _ _ t351 _ _ t335 t354 _ ?side1 ?side2 ?side3 ?side4 A62.out).mono ?_
              (case side1 => exact hkC ((Kd.R_reads' HO353.out).2.2))
              (case side2 => exact (Kd.R_reads' HO353.out).2.1)
              (case side3 => exact hkC ((Kd.R_reads' HO_325000.out).2.2))
              (case side4 => exact (Kd.R_reads' HO_325000.out).2.1)
              rintro e w69 ⟨rfl, hb⟩
              refine ⟨_, rfl, ?_⟩
              have n_ := hkA (hkRb HO_8 hb) (hkA (hkRb HO_325000 hb) (hkA (hkRb HO350 hb) (hkA (hkRb HO353 hb) (hkA (hkBb BK308 hb) (hkA (hkBb BK309 hb) (hkA (hkBb BK310 hb) (hkA (hkBb BK311 hb) (hkA (hkBb BK324 hb) (hkU HB hb)))))))))
              clear HO_8 HO_325000 HO350 HO353 BK308 BK309 BK310 BK311 BK324 HB
              obtain ⟨HO_8, HO_325000, HO350, HO353, BK308, BK309, BK310, BK311, BK324, HB⟩ := n_
              (try clear hb)
              refine hK.out _ _ ⟨(blk_cell BK309.out 0).trans rfl, (blk_cell BK324.out 0).trans rfl⟩ (fun hHeld => ?_)
              clear hK K
              refine hkNo (N := some 65) ?_
              refine hkPu (i := 6) (N := some 66) ?_
              refine done_ (by kernel_rfl) ?_
              try go_wp2
              go_roundg k2
              case measure => have := HK1.out; have := HK2.out; omega
              case rel => exact ⟨(wrap64 (Int.tdiv (wrap64 (x11_2 + x12_2)) 2)), (x12_2), (by first | rfl | (simp; done) | (simp [*]; done)), (by first | rfl | (simp; done) | (simp [*]; done)), H', ⟨by have := HK1.out; have := HK2.out; omega⟩, ⟨by (with_reducible repeat (first | apply Kd.R_alloc | apply Kd.R_drewN | apply Kd.R_drew)); exact Kd.R_mono HO_8.out (fun _ hk => hk.1.1)⟩, ⟨by (with_reducible repeat (first | apply Kd.R_alloc | apply Kd.R_drewN | apply Kd.R_drew)); exact Kd.R_mono HO_325000.out (fun _ hk => hk.1.1)⟩, ⟨by refine hkz ?_; exact BK308.out⟩, ⟨by refine hkz ?_; exact BK309.out⟩, ⟨by refine hkz ?_; exact BK310.out⟩, ⟨by refine hkz ?_; exact BK311.out⟩, ⟨by refine hkz ?_; exact BK324.out⟩, ⟨hkS HB⟩⟩
             ·rw [if_neg c63] at H
              have c63b0 : decide (t354 ≤ 0) = false := decide_eq_false c63
              clear c63
              have H' := Aside0.mk H
              clear H
              try go_wp2
              have n_ := hkA (Aside0.mk (Kd.R_drew HO_8.out)) (hkA (Aside0.mk (Kd.R_drew HO_325000.out)) (hkA (Aside0.mk (blk_drew BK308.out)) (hkA (Aside0.mk (blk_drew BK309.out)) (hkA (Aside0.mk (blk_drew BK310.out)) (hkA (Aside0.mk (blk_drew BK311.out)) (hkA (Aside0.mk (blk_drew BK324.out)) (Aside0.mk (below_drew1 HB.out))))))))
              clear HO_8 HO_325000 BK308 BK309 BK310 BK311 BK324 HB
              obtain ⟨HO_8, HO_325000, BK308, BK309, BK310, BK311, BK324, HB⟩ := n_
              refine start_ (n := 7) (S := fun w' => w'.cell? ⟨gb309, 0, none⟩ = some (.slice A1_0 l1_0.length c1_0) ∧ w'.cell? ⟨gb324, 0, none⟩ = some (.slice Ao57 t335.length co57)) (ds := []) #[false, false, false, false, false, false, false] (by kernel_rfl) rfl rfl ⟨(blk_cell BK309.out 0).trans rfl, (blk_cell BK324.out 0).trans rfl⟩ (fun hHeld => ?_)
              generalize wr.drew = w70 at HO_8 HO_325000 BK308 BK309 BK310 BK311 BK324 HB hHeld ⊢
              refine hkPu (i := 1) (N := some 61) ?_
              refine hkTk (i := 0) (N := some 60) hHeld ?_ (hy := by rintro w' ⟨s0, s1⟩; go_simp; with_reducible rfl)
              refine hkTk (i := 4) (N := some 64) hHeld ?_ (hy := by rintro w' ⟨s0, s1⟩; go_simp; with_reducible rfl)
              refine one_ (i := 2) (N := some 62) #[true, true, true, false, true, false, false] rfl rfl (by kernel_rfl) (by decide) (fun K hK => ?_)
              refine goes_ Try.func56 (by kernel_rfl) rfl #[.int .i64 (wrap64 (Int.tdiv (wrap64 (x11_2 + x12_2)) 2))] (by rfl) rfl rfl hkL ?_
              with_reducible refine (spec_l2of.calls k2 (wrap64 (Int.tdiv (wrap64 (x11_2 + x12_2)) 2)) t348 _ A60.out).mono ?_
              rintro e w71 ⟨v349, rfl, ho0, hb⟩
              refine ⟨_, rfl, ?_⟩
              have n_ := hkA (Aside0.mk (Kd.R_elder' (hkR HO_8) (Kd.R_base ho0) hb)) (hkA (Aside0.mk (Kd.R_elder' (hkR HO_325000) (Kd.R_base ho0) hb)) (hkA (Aside0.mk (Kd.R_lower (Kd.R_new' (Kd.R_new' ho0 (Kd.R_lt (hkR HO_8))) (Kd.R_lt (hkR HO_325000))) (below_size (hkS HB)))) (hkA (hkBb BK308 hb) (hkA (hkBb BK309 hb) (hkA (hkBb BK310 hb) (hkA (hkBb BK311 hb) (hkA (hkBb BK324 hb) (hkU HB hb))))))))
              clear HO_8 HO_325000 BK308 BK309 BK310 BK311 BK324 HB
              obtain ⟨HO_8, HO_325000, HO350, BK308, BK309, BK310, BK311, BK324, HB⟩ := n_
              (try clear hb); (try clear ho0)
              obtain ⟨Ao72, co72, eo72⟩ := Kd.R_slice HO350.out
              (first | subst eo72 | (injection eo72 with f1_ f2_ f3_; have f4_ := f1_.symm; have f5_ := f3_.symm; clear f1_ f2_ f3_; subst f4_; subst f5_))
              refine hK.out _ _ ⟨(blk_cell BK309.out 0).trans rfl, (blk_cell BK324.out 0).trans rfl⟩ (fun hHeld => ?_)
              clear hK K
              refine hkNo (N := some 62) ?_
              refine one_ (i := 3) (N := some 63) #[true, true, true, true, true, false, false] rfl rfl (by kernel_rfl) (by decide) (fun K hK => ?_)
              refine goes_ Try.func58 (by kernel_rfl) rfl #[.agg #[.slice A1_0 l1_0.length c1_0], .agg #[.slice Ao72 t348.length co72]] (by rfl) rfl rfl hkL ?_
              with_reducible refine (spec_l2mul.calls k2 _ _ l1_0 _ _ t348 t351 _ ?side1 ?side2 ?side3 ?side4 A61.out).mono ?_
              (case side1 => exact hkC ((Kd.C_below HR1_0.out HB.out)))
              (case side2 => exact HC1_0.out)
              (case side3 => exact hkC ((Kd.R_reads' HO350.out).2.2))
              (case side4 => exact (Kd.R_reads' HO350.out).2.1)
              rintro e w73 ⟨v352, rfl, ho0, hb⟩
              refine ⟨_, rfl, ?_⟩
              have n_ := hkA (Aside0.mk (Kd.R_elder' (hkR HO_8) (Kd.R_base ho0) hb)) (hkA (Aside0.mk (Kd.R_elder' (hkR HO_325000) (Kd.R_base ho0) hb)) (hkA (Aside0.mk (Kd.R_elder' (hkR HO350) (Kd.R_base ho0) hb)) (hkA (Aside0.mk (Kd.R_lower (Kd.R_new' (Kd.R_new' (Kd.R_new' ho0 (Kd.R_lt (hkR HO_8))) (Kd.R_lt (hkR HO_325000))) (Kd.R_lt (hkR HO350))) (below_size (hkS HB)))) (hkA (hkBb BK308 hb) (hkA (hkBb BK309 hb) (hkA (hkBb BK310 hb) (hkA (hkBb BK311 hb) (hkA (hkBb BK324 hb) (hkU HB hb)))))))))
              clear HO_8 HO_325000 HO350 BK308 BK309 BK310 BK311 BK324 HB
              obtain ⟨HO_8, HO_325000, HO350, HO353, BK308, BK309, BK310, BK311, BK324, HB⟩ := n_
              (try clear hb); (try clear ho0)
              obtain ⟨Ao74, co74, eo74⟩ := Kd.R_slice HO353.out
              (first | subst eo74 | (injection eo74 with f1_ f2_ f3_; have f4_ := f1_.symm; have f5_ := f3_.symm; clear f1_ f2_ f3_; subst f4_; subst f5_))
              refine hK.out _ _ ⟨(blk_cell BK309.out 0).trans rfl, (blk_cell BK324.out 0).trans rfl⟩ (fun hHeld => ?_)
              clear hK K
              refine hkNo (N := some 63) ?_
              refine one_ (i := 5) (N := some 65) #[true, true, true, true, true, true, false] rfl rfl (by kernel_rfl) (by decide) (fun K hK => ?_)
              refine goes_ Try.func112 (by kernel_rfl) rfl #[.agg #[.slice Ao74 t351.length co74], .agg #[.slice Ao57 t335.length co57]] (by rfl) rfl rfl hkL ?_
              with_reducible refine (spec_l2cmp.calls k2 _ _ t351 _ _ t335 t354 _ ?side1 ?side2 ?side3 ?side4 A62.out).mono ?_
              (case side1 => exact hkC ((Kd.R_reads' HO353.out).2.2))
              (case side2 => exact (Kd.R_reads' HO353.out).2.1)
              (case side3 => exact hkC ((Kd.R_reads' HO_325000.out).2.2))
              (case side4 => exact (Kd.R_reads' HO_325000.out).2.1)
              rintro e w75 ⟨rfl, hb⟩
              refine ⟨_, rfl, ?_⟩
              have n_ := hkA (hkRb HO_8 hb) (hkA (hkRb HO_325000 hb) (hkA (hkRb HO350 hb) (hkA (hkRb HO353 hb) (hkA (hkBb BK308 hb) (hkA (hkBb BK309 hb) (hkA (hkBb BK310 hb) (hkA (hkBb BK311 hb) (hkA (hkBb BK324 hb) (hkU HB hb)))))))))
              clear HO_8 HO_325000 HO350 HO353 BK308 BK309 BK310 BK311 BK324 HB
              obtain ⟨HO_8, HO_325000, HO350, HO353, BK308, BK309, BK310, BK311, BK324, HB⟩ := n_
              (try clear hb)
              refine hK.out _ _ ⟨(blk_cell BK309.out 0).trans rfl, (blk_cell BK324.out 0).trans rfl⟩ (fun hHeld => ?_)
              clear hK K
              refine hkNo (N := some 65) ?_
              refine hkPu (i := 6) (N := some 66) ?_
              refine done_ (by kernel_rfl) ?_
              try go_wp2
              go_roundg k2
              case measure => have := HK1.out; have := HK2.out; omega
              case rel => exact ⟨(x11_2), (wrap64 (Int.tdiv (wrap64 (x11_2 + x12_2)) 2)), (by first | rfl | (simp; done) | (simp [*]; done)), (by first | rfl | (simp; done) | (simp [*]; done)), H', ⟨by have := HK1.out; have := HK2.out; omega⟩, ⟨by (with_reducible repeat (first | apply Kd.R_alloc | apply Kd.R_drewN | apply Kd.R_drew)); exact Kd.R_mono HO_8.out (fun _ hk => hk.1.1)⟩, ⟨by (with_reducible repeat (first | apply Kd.R_alloc | apply Kd.R_drewN | apply Kd.R_drew)); exact Kd.R_mono HO_325000.out (fun _ hk => hk.1.1)⟩, ⟨by refine hkz ?_; exact BK308.out⟩, ⟨by refine hkz ?_; exact BK309.out⟩, ⟨by refine hkz ?_; exact BK310.out⟩, ⟨by refine hkz ?_; exact BK311.out⟩, ⟨by refine hkz ?_; exact BK324.out⟩, ⟨hkS HB⟩⟩
            ·rw [if_neg c59] at H
             have c59b0 : decide (1 < (wrap64 (x12_2 - x11_2))) = false := decide_eq_false c59
             clear c59
             by_cases c76 : 0 ≤ x10_1
             ·rw [if_pos c76] at H
              have c76b0 : decide (0 ≤ x10_1) = true := decide_eq_true c76
              clear c76
              by_cases c77 : x10_1 < (x8_1.length : Int)
              ·rw [if_pos c77] at H
               have c77b0 : decide (x10_1 < (x8_1.length : Int)) = true := decide_eq_true c77
               clear c77
               obtain ⟨y338, hy338⟩ : ∃ y_ : List Int, y_ = (x8_1.set (x10_1 : Int).toNat x11_2) := ⟨_, rfl⟩
               replace H : ((spec_l2of.f k2 x11_2).bind fun t339 => ((spec_l2mul.f k2 l1_0 t339).bind fun t342 => ((spec_l2sub.f k2 t335 t342).bind fun t345 => (spec_l2div.l0 k2 y338 (wrap64 (x10_1 - 1)) l0_0 l1_0 t345)))) = some (r1, r2) := by first | (rw [hy338]; with_reducible exact H) | (have H2_ := (Option.bind_some _ _).symm.trans H; rw [hy338]; with_reducible exact H2_) | (have H2_ := (Option.bind_some _ _).symm.trans H; with_reducible exact H2_) | with_reducible exact H | (rw [hy338]; exact H) | exact H
               have Ny338 := Aside0.mk hy338
               clear hy338
               replace H := hBi H
               obtain ⟨t339, A790, H⟩ := H
               replace H : ((spec_l2mul.f k2 l1_0 t339).bind fun t342 => ((spec_l2sub.f k2 t335 t342).bind fun t345 => (spec_l2div.l0 k2 y338 (wrap64 (x10_1 - 1)) l0_0 l1_0 t345))) = some (r1, r2) := H
               have A79 := Aside0.mk A790
               clear A790
               replace H := hBi H
               obtain ⟨t342, A800, H⟩ := H
               replace H : ((spec_l2sub.f k2 t335 t342).bind fun t345 => (spec_l2div.l0 k2 y338 (wrap64 (x10_1 - 1)) l0_0 l1_0 t345)) = some (r1, r2) := H
               have A80 := Aside0.mk A800
               clear A800
               replace H := hBi H
               obtain ⟨t345, A810, H⟩ := H
               replace H : (spec_l2div.l0 k2 y338 (wrap64 (x10_1 - 1)) l0_0 l1_0 t345) = some (r1, r2) := H
               have A81 := Aside0.mk A810
               clear A810
               have H' := Aside0.mk H
               clear H
               have p78 : 0 ≤ (x10_1 : Int) := of_decide_eq_true (by first | (with_reducible assumption) | assumption)
               have q78 : (x10_1 : Int) < ((x8_1.length : Int) : Int) := of_decide_eq_true (by first | (with_reducible assumption) | assumption)
               obtain ⟨go78, co78, eo78, gb78, gl78, cl78, HG78⟩ := Kd.R_form HO_8.out (by omega)
               (first | cases eo78 | (injection eo78 with ea_ en_ ec_; (first | subst ea_ | (injection ea_ with ea_; subst ea_)); subst ec_; clear en_))
               have GB78 := Aside0.mk gb78
               have GG78 := Aside0.mk HG78
               clear gb78 gl78 HG78
               obtain ⟨hx78_0, hf78_0⟩ := Kd.R_celln 0 HO_8.out (x10_1 : Int) p78 q78
               replace p78 := eq_true p78
               replace q78 := eq_true q78
               have HP82 := Kd.R_putg HO_8.out (x10_1 : Int) x11_2
               try go_wp2_with (first | ((with_reducible refine gate_store (t := 3) (p := 72) rfl ?_); refine store_event (t := 3) (p := 72) (v := ?vo_w83) (w1 := (wr.setCell ⟨go78, (x10_1 : Int).toNat, none⟩ (.int .i64 x11_2))) ?hg ?ho ?hn ?hr ?_; (case ho => rfl); (case hg => rfl); (case hn => rfl); (case hr => first | (go_simp; done) | (go_simp; rfl)); intro w83 hw; have hg : wr.grownBy w83 (some go78) := (by rw [hw]; exact HP82.2); have hp_ : Kd.R (Kd.int .i64) 3 w83 w.heap.size (fun k_ => some k_ ≠ (.slice Ao57 t335.length co57 : Value).ownBlock) (.slice (some ⟨go78, 0, none⟩) x8_1.length co78) y338 := (by rw [hw, Ny338.out]; exact HP82.1); clear HP82; have n_ := hkA (Aside0.mk (hp_)) (hkA (Aside0.mk (Kd.R_after (v := (.slice (some ⟨go78, 0, none⟩) x8_1.length co78)) (v1 := (.slice (some ⟨go78, 0, none⟩) x8_1.length co78)) (ok := (fun _ => True)) (by (with_reducible repeat (first | apply Kd.R_alloc | apply Kd.R_drewN | apply Kd.R_drew)); exact Kd.R_mono HO_325000.out (fun _ hk => ⟨trivial, hk⟩)) hg (.inl rfl))) (hkA (Aside0.mk (blk_grown (g := gb308) (o := .cells #[.slice (some ad328) l0_0.length c0_0] 38 (0, 0)) (hkB BK308) hg (Kd.R_ne HO_8.out BK308.out (by decide)))) (hkA (Aside0.mk (blk_grown (g := gb309) (o := .cells #[.slice A1_0 l1_0.length c1_0] 38 (0, 0)) (hkB BK309) hg (Kd.R_ne HO_8.out BK309.out (by decide)))) (hkA (Aside0.mk (blk_grown (g := gb310) (o := .cells #[.slice none 0 0] 38 (0, 0)) (hkB BK310) hg (Kd.R_ne HO_8.out BK310.out (by decide)))) (hkA (Aside0.mk (blk_grown (g := gb311) (o := .cells #[.slice none 0 0] 38 (0, 0)) (hkB BK311) hg (Kd.R_ne HO_8.out BK311.out (by decide)))) (hkA (Aside0.mk (blk_grown (g := gb324) (o := .cells #[.slice Ao57 t335.length co57] 38 (0, 0)) (hkB BK324) hg (Kd.R_ne HO_8.out BK324.out (by decide)))) (Aside0.mk ((by rw [hw]; exact below_set (HB.out) GB78.out : Below w.heap.size w w83))))))))); clear HO_8 HO_325000 BK308 BK309 BK310 BK311 BK324 HB; obtain ⟨HO_8, HO_325000, BK308, BK309, BK310, BK311, BK324, HB⟩ := n_; clear hg hw hp_))
               have n_ := hkA (Aside0.mk (Kd.R_drew HO_8.out)) (hkA (Aside0.mk (Kd.R_drew HO_325000.out)) (hkA (Aside0.mk (blk_drew BK308.out)) (hkA (Aside0.mk (blk_drew BK309.out)) (hkA (Aside0.mk (blk_drew BK310.out)) (hkA (Aside0.mk (blk_drew BK311.out)) (hkA (Aside0.mk (blk_drew BK324.out)) (Aside0.mk (below_drew1 HB.out))))))))
               clear HO_8 HO_325000 BK308 BK309 BK310 BK311 BK324 HB
               obtain ⟨HO_8, HO_325000, BK308, BK309, BK310, BK311, BK324, HB⟩ := n_
               refine start_ (n := 7) (S := fun w' => w'.cell? ⟨gb324, 0, none⟩ = some (.slice Ao57 t335.length co57) ∧ w'.cell? ⟨gb309, 0, none⟩ = some (.slice A1_0 l1_0.length c1_0)) (ds := [6]) #[false, false, false, false, false, false, false] (by kernel_rfl) rfl rfl ⟨(blk_cell BK324.out 0).trans rfl, (blk_cell BK309.out 0).trans rfl⟩ (fun hHeld => ?_)
               generalize w83.drew = w84 at HO_8 HO_325000 BK308 BK309 BK310 BK311 BK324 HB hHeld ⊢
               refine hkPu (i := 2) (N := some 75) ?_
               refine hkTk (i := 0) (N := some 73) hHeld ?_ (hy := by rintro w' ⟨s0, s1⟩; go_simp; with_reducible rfl)
               refine hkTk (i := 1) (N := some 74) hHeld ?_ (hy := by rintro w' ⟨s0, s1⟩; go_simp; with_reducible rfl)
               refine one_ (i := 3) (N := some 76) #[true, true, true, true, false, false, false] rfl rfl (by kernel_rfl) (by decide) (fun K hK => ?_)
               refine goes_ Try.func56 (by kernel_rfl) rfl #[.int .i64 x11_2] (by rfl) rfl rfl hkL ?_
               with_reducible refine (spec_l2of.calls k2 x11_2 t339 _ A79.out).mono ?_
               rintro e w85 ⟨v340, rfl, ho0, hb⟩
               refine ⟨_, rfl, ?_⟩
               have n_ := hkA (Aside0.mk (Kd.R_elder' (hkR HO_8) (Kd.R_base ho0) hb)) (hkA (Aside0.mk (Kd.R_elder' (hkR HO_325000) (Kd.R_base ho0) hb)) (hkA (Aside0.mk (Kd.R_lower (Kd.R_new' (Kd.R_new' ho0 (Kd.R_lt (hkR HO_8))) (Kd.R_lt (hkR HO_325000))) (below_size (hkS HB)))) (hkA (hkBb BK308 hb) (hkA (hkBb BK309 hb) (hkA (hkBb BK310 hb) (hkA (hkBb BK311 hb) (hkA (hkBb BK324 hb) (hkU HB hb))))))))
               clear HO_8 HO_325000 BK308 BK309 BK310 BK311 BK324 HB
               obtain ⟨HO_8, HO_325000, HO341, BK308, BK309, BK310, BK311, BK324, HB⟩ := n_
               (try clear hb); (try clear ho0)
               obtain ⟨Ao86, co86, eo86⟩ := Kd.R_slice HO341.out
               (first | subst eo86 | (injection eo86 with f1_ f2_ f3_; have f4_ := f1_.symm; have f5_ := f3_.symm; clear f1_ f2_ f3_; subst f4_; subst f5_))
               refine hK.out _ _ ⟨(blk_cell BK324.out 0).trans rfl, (blk_cell BK309.out 0).trans rfl⟩ (fun hHeld => ?_)
               clear hK K
               refine hkNo (N := some 76) ?_
               refine one_ (i := 4) (N := some 77) #[true, true, true, true, true, false, false] rfl rfl (by kernel_rfl) (by decide) (fun K hK => ?_)
               refine goes_ Try.func58 (by kernel_rfl) rfl #[.agg #[.slice A1_0 l1_0.length c1_0], .agg #[.slice Ao86 t339.length co86]] (by rfl) rfl rfl hkL ?_
               with_reducible refine (spec_l2mul.calls k2 _ _ l1_0 _ _ t339 t342 _ ?side1 ?side2 ?side3 ?side4 A80.out).mono ?_
               (case side1 => exact hkC ((Kd.C_below HR1_0.out HB.out)))
               (case side2 => exact HC1_0.out)
               (case side3 => exact hkC ((Kd.R_reads' HO341.out).2.2))
               (case side4 => exact (Kd.R_reads' HO341.out).2.1)
               rintro e w87 ⟨v343, rfl, ho0, hb⟩
               refine ⟨_, rfl, ?_⟩
               have n_ := hkA (Aside0.mk (Kd.R_elder' (hkR HO_8) (Kd.R_base ho0) hb)) (hkA (Aside0.mk (Kd.R_elder' (hkR HO_325000) (Kd.R_base ho0) hb)) (hkA (Aside0.mk (Kd.R_elder' (hkR HO341) (Kd.R_base ho0) hb)) (hkA (Aside0.mk (Kd.R_lower (Kd.R_new' (Kd.R_new' (Kd.R_new' ho0 (Kd.R_lt (hkR HO_8))) (Kd.R_lt (hkR HO_325000))) (Kd.R_lt (hkR HO341))) (below_size (hkS HB)))) (hkA (hkBb BK308 hb) (hkA (hkBb BK309 hb) (hkA (hkBb BK310 hb) (hkA (hkBb BK311 hb) (hkA (hkBb BK324 hb) (hkU HB hb)))))))))
               clear HO_8 HO_325000 HO341 BK308 BK309 BK310 BK311 BK324 HB
               obtain ⟨HO_8, HO_325000, HO341, HO344, BK308, BK309, BK310, BK311, BK324, HB⟩ := n_
               (try clear hb); (try clear ho0)
               obtain ⟨Ao88, co88, eo88⟩ := Kd.R_slice HO344.out
               (first | subst eo88 | (injection eo88 with f1_ f2_ f3_; have f4_ := f1_.symm; have f5_ := f3_.symm; clear f1_ f2_ f3_; subst f4_; subst f5_))
               refine hK.out _ _ ⟨(blk_cell BK324.out 0).trans rfl, (blk_cell BK309.out 0).trans rfl⟩ (fun hHeld => ?_)
               clear hK K
               refine hkNo (N := some 77) ?_
               refine one_ (i := 5) (N := some 78) #[true, true, true, true, true, true, false] rfl rfl (by kernel_rfl) (by decide) (fun K hK => ?_)
               refine goes_ Try.func113 (by kernel_rfl) rfl #[.agg #[.slice Ao57 t335.length co57], .agg #[.slice Ao88 t342.length co88]] (by rfl) rfl rfl hkL ?_
               with_reducible refine (spec_l2sub.calls k2 _ _ t335 _ _ t342 t345 _ ?side1 ?side2 ?side3 ?side4 A81.out).mono ?_
               (case side1 => exact hkC ((Kd.R_reads' HO_325000.out).2.2))
               (case side2 => exact (Kd.R_reads' HO_325000.out).2.1)
               (case side3 => exact hkC ((Kd.R_reads' HO344.out).2.2))
               (case side4 => exact (Kd.R_reads' HO344.out).2.1)
               rintro e w89 ⟨v346, rfl, ho0, hb⟩
               refine ⟨_, rfl, ?_⟩
               have n_ := hkA (Aside0.mk (Kd.R_elder' (hkR HO_8) (Kd.R_base ho0) hb)) (hkA (Aside0.mk (Kd.R_elder' (hkR HO_325000) (Kd.R_base ho0) hb)) (hkA (Aside0.mk (Kd.R_elder' (hkR HO341) (Kd.R_base ho0) hb)) (hkA (Aside0.mk (Kd.R_elder' (hkR HO344) (Kd.R_base ho0) hb)) (hkA (Aside0.mk (Kd.R_lower (Kd.R_new' (Kd.R_new' (Kd.R_new' (Kd.R_new' ho0 (Kd.R_lt (hkR HO_8))) (Kd.R_lt (hkR HO_325000))) (Kd.R_lt (hkR HO341))) (Kd.R_lt (hkR HO344))) (below_size (hkS HB)))) (hkA (hkBb BK308 hb) (hkA (hkBb BK309 hb) (hkA (hkBb BK310 hb) (hkA (hkBb BK311 hb) (hkA (hkBb BK324 hb) (hkU HB hb))))))))))
               clear HO_8 HO_325000 HO341 HO344 BK308 BK309 BK310 BK311 BK324 HB
               obtain ⟨HO_8, HO_325000, HO341, HO344, HO347, BK308, BK309, BK310, BK311, BK324, HB⟩ := n_
               (try clear hb); (try clear ho0)
               obtain ⟨Ao90, co90, eo90⟩ := Kd.R_slice HO347.out
               (first | subst eo90 | (injection eo90 with f1_ f2_ f3_; have f4_ := f1_.symm; have f5_ := f3_.symm; clear f1_ f2_ f3_; subst f4_; subst f5_))
               refine hK.out _ _ ⟨(blk_cell BK324.out 0).trans rfl, (blk_cell BK309.out 0).trans rfl⟩ (fun hHeld => ?_)
               clear hK K
               refine hkNo (N := some 78) ?_
               refine last_ (i := 6) (N := none) #[true, true, true, true, true, true, true] rfl rfl (by kernel_rfl) (by decide) (fun K hK => ?_)
               have hs91 : w89.cell? ⟨gb324, 0, none⟩ = some (.slice Ao57 t335.length co57) := (blk_cell BK324.out 0).trans rfl
               have hfs91 := blk_frozen BK324.out 0
               have hns91_0 := NB308_324.out
               have hns91_1 := NB309_324.out
               have hns91_2 := NB310_324.out
               have hns91_3 := NB311_324.out
               have hms91_0 := NB324_308.out
               have hms91_1 := NB324_309.out
               have hms91_2 := NB324_310.out
               have hms91_3 := NB324_311.out
               refine skip_ (w1 := ?_) (by rfl) rfl ?_ ?_
               rotate_left
               ·go_simp
                rfl
               refine hK.out _ _ ?_
               clear hK K
               refine done_ (by kernel_rfl) ?_
               try go_wp2
               go_roundg k2
               case measure => have := HK1.out; have := HK2.out; omega
               case rel => exact ⟨(y338), (wrap64 (x10_1 - 1)), (t345), (.slice Ao90 t345.length co90), (by first | rfl | (simp; done) | (simp [*]; done)), H', ⟨by have := HK1.out; have := HK2.out; omega⟩, ⟨by (with_reducible repeat (first | apply Kd.R_alloc | apply Kd.R_drewN | apply Kd.R_drew)); exact Kd.R_mono (Kd.R_far (p := ⟨gb324, 0, none⟩) (Kd.R_types HO_8.out BK324.out (by decide)) (fun _ hk => hk.2) (.slice Ao90 t345.length co90)) (fun _ hk => hk.1.2)⟩, ⟨by (with_reducible repeat (first | apply Kd.R_alloc | apply Kd.R_drewN | apply Kd.R_drew)); exact Kd.R_mono (Kd.R_far (p := ⟨gb324, 0, none⟩) (Kd.R_types HO347.out BK324.out (by decide)) (fun _ hk => hk.2) (.slice Ao90 t345.length co90)) (fun _ hk => hk.1.1.1.1.2)⟩, ⟨by refine hkz ?_; refine blk_far ?_ NB308_324.out _; refine hkz ?_; exact BK308.out⟩, ⟨by refine hkz ?_; refine blk_far ?_ NB309_324.out _; refine hkz ?_; exact BK309.out⟩, ⟨by refine hkz ?_; refine blk_far ?_ NB310_324.out _; refine hkz ?_; exact BK310.out⟩, ⟨by refine hkz ?_; refine blk_far ?_ NB311_324.out _; refine hkz ?_; exact BK311.out⟩, ⟨by refine hkz ?_; refine blk_put (cs := #[.slice Ao57 t335.length co57]) ?_ 0 _ rfl; refine hkz ?_; exact BK324.out⟩, ⟨hkS HB⟩⟩
              ·rw [if_neg c77] at H
               exact absurd H (by simp)
             ·rw [if_neg c76] at H
              exact absurd H (by simp)
         ·rw [if_neg c48] at H
          exact absurd H (by simp)
        ·rw [if_neg c47] at H
         exact absurd H (by simp)
       ·rw [if_neg c46] at H
        exact absurd H (by simp)
      ·rw [if_neg c45] at H
       have c45b0 : decide (0 ≤ x10_1) = false := decide_eq_false c45
       clear c45
       replace H := hBi H
       obtain ⟨t325, A920, H⟩ := H
       replace H : (some (t325, x325000_1)) = some (r1, r2) := H
       have A92 := Aside0.mk A920
       clear A920
       simp only [Option.some.injEq, Prod.mk.injEq] at H
       obtain ⟨rfl, rfl⟩ := H
       try go_wp2
       have n_ := hkA (Aside0.mk (Kd.R_drew HO_8.out)) (hkA (Aside0.mk (Kd.R_drew HO_325000.out)) (hkA (Aside0.mk (blk_drew BK308.out)) (hkA (Aside0.mk (blk_drew BK309.out)) (hkA (Aside0.mk (blk_drew BK310.out)) (hkA (Aside0.mk (blk_drew BK311.out)) (hkA (Aside0.mk (blk_drew BK324.out)) (Aside0.mk (below_drew1 HB.out))))))))
       clear HO_8 HO_325000 BK308 BK309 BK310 BK311 BK324 HB
       obtain ⟨HO_8, HO_325000, BK308, BK309, BK310, BK311, BK324, HB⟩ := n_
       obtain ⟨Ao94, co94, eo94⟩ := Kd.R_slice HO_8.out
       (first | subst eo94 | (injection eo94 with f1_ f2_ f3_; have f4_ := f1_.symm; have f5_ := f3_.symm; clear f1_ f2_ f3_; subst f4_; subst f5_))
       refine start_ (n := 5) (S := fun w' => w'.cell? ⟨gb324, 0, none⟩ = some (u325000)) (ds := []) #[false, false, false, false, false] (by kernel_rfl) rfl rfl ((blk_cell BK324.out 0).trans rfl) (fun hHeld => ?_)
       generalize wr.drew = w93 at HO_8 HO_325000 BK308 BK309 BK310 BK311 BK324 HB hHeld ⊢
       refine hkPu (i := 0) (N := some 79) ?_
       refine hkTk (i := 2) (N := some 81) hHeld ?_ (hy := by intro w' s0; go_simp; with_reducible rfl)
       refine one_ (i := 1) (N := some 80) #[true, true, true, false, false] rfl rfl (by kernel_rfl) (by decide) (fun K hK => ?_)
       refine goes_ Try.func99 (by kernel_rfl) rfl #[.slice Ao94 x8_1.length co94] (by rfl) rfl rfl hkL ?_
       with_reducible refine (spec_l2norm.calls k1 _ _ x8_1 t325 _ ?side1 ?side2 A92.out).mono ?_
       (case side1 => exact hkC ((Kd.R_reads' HO_8.out).2.2))
       (case side2 => exact (Kd.R_reads' HO_8.out).2.1)
       rintro e w95 ⟨v326, rfl, ho0, hb⟩
       refine ⟨_, rfl, ?_⟩
       have n_ := hkA (Aside0.mk (Kd.R_elder' (hkR HO_8) (Kd.R_base ho0) hb)) (hkA (Aside0.mk (Kd.R_elder' (hkR HO_325000) (Kd.R_base ho0) hb)) (hkA (Aside0.mk (Kd.R_lower (Kd.R_new' (Kd.R_new' ho0 (Kd.R_lt (hkR HO_8))) (Kd.R_lt (hkR HO_325000))) (below_size (hkS HB)))) (hkA (hkBb BK308 hb) (hkA (hkBb BK309 hb) (hkA (hkBb BK310 hb) (hkA (hkBb BK311 hb) (hkA (hkBb BK324 hb) (hkU HB hb))))))))
       clear HO_8 HO_325000 BK308 BK309 BK310 BK311 BK324 HB
       obtain ⟨HO_8, HO_325000, HO327, BK308, BK309, BK310, BK311, BK324, HB⟩ := n_
       (try clear hb); (try clear ho0)
       obtain ⟨Ao96, co96, eo96⟩ := Kd.R_slice HO327.out
       (first | subst eo96 | (injection eo96 with f1_ f2_ f3_; have f4_ := f1_.symm; have f5_ := f3_.symm; clear f1_ f2_ f3_; subst f4_; subst f5_))
       obtain ⟨Ao98, co98, eo98⟩ := Kd.R_slice HO_325000.out
       (first | subst eo98 | (injection eo98 with f1_ f2_ f3_; have f4_ := f1_.symm; have f5_ := f3_.symm; clear f1_ f2_ f3_; subst f4_; subst f5_))
       refine hK.out _ _ ((blk_cell BK324.out 0).trans rfl) (fun hHeld => ?_)
       clear hK K
       refine hkNo (N := some 80) ?_
       refine one_ (i := 3) (N := none) #[true, true, true, true, false] rfl rfl (by kernel_rfl) (by decide) (fun K hK => ?_)
       have hs97 : w95.cell? ⟨gb310, 0, none⟩ = some (.slice none 0 0) := (blk_cell BK310.out 0).trans rfl
       have hfs97 := blk_frozen BK310.out 0
       have hns97_0 := NB308_310.out
       have hns97_1 := NB309_310.out
       have hns97_3 := NB311_310.out
       have hns97_4 := NB324_310.out
       have hms97_0 := NB310_308.out
       have hms97_1 := NB310_309.out
       have hms97_3 := NB310_311.out
       have hms97_4 := NB310_324.out
       refine skip_ (w1 := ?_) (by rfl) rfl ?_ ?_
       rotate_left
       ·go_simp
        rfl
       refine hK.out _ _ (((cell_far (p := ⟨gb310, _, none⟩) NB324_310.out _).trans (hHeld))) (fun hHeld => ?_)
       clear hK K
       refine one_ (i := 4) (N := none) #[true, true, true, true, true] rfl rfl (by kernel_rfl) (by decide) (fun K hK => ?_)
       have hs99 : w95.cell? ⟨gb311, 0, none⟩ = some (.slice none 0 0) := (blk_cell BK311.out 0).trans rfl
       have hfs99 := blk_frozen BK311.out 0
       have hns99_0 := NB308_311.out
       have hns99_1 := NB309_311.out
       have hns99_2 := NB310_311.out
       have hns99_4 := NB324_311.out
       have hms99_0 := NB311_308.out
       have hms99_1 := NB311_309.out
       have hms99_2 := NB311_310.out
       have hms99_4 := NB311_324.out
       refine skip_ (w1 := ?_) (by rfl) rfl ?_ ?_
       rotate_left
       ·go_simp
        rfl
       refine hK.out _ _ (((cell_far (p := ⟨gb311, _, none⟩) NB324_311.out _).trans (hHeld))) (fun hHeld => ?_)
       clear hK K
       refine done_ (by kernel_rfl) ?_
       try go_wp2
       refine bodyPost_ret (results_cc rfl _ _ gb310 gb311 38 38 #[.slice Ao96 t325.length co96] #[.slice Ao98 x325000_1.length co98] (0, 0) (0, 0) _ _ rfl hkPp Try.underlying38 rfl (by kernel_rfl) rfl hkPp Try.underlying38 rfl (by kernel_rfl)) rfl ?_
       exact ⟨_, _, hkE, by (with_reducible repeat (first | apply Kd.R_alloc | apply Kd.R_drewN | apply Kd.R_drew)); exact Kd.R_mono (Kd.R_far (p := ⟨gb311, 0, none⟩) (Kd.R_far (p := ⟨gb310, 0, none⟩) (Kd.R_types (Kd.R_types HO327.out BK310.out (by decide)) BK311.out (by decide)) (fun _ hk => hk.1.2) (.slice Ao96 t325.length co96)) (fun _ hk => hk.2) (.slice Ao98 x325000_1.length co98)) (fun _ hk => hk.1.1.2), by (with_reducible repeat (first | apply Kd.R_alloc | apply Kd.R_drewN | apply Kd.R_drew)); exact Kd.R_mono (Kd.R_far (p := ⟨gb311, 0, none⟩) (Kd.R_far (p := ⟨gb310, 0, none⟩) (Kd.R_types (Kd.R_types HO_325000.out BK310.out (by decide)) BK311.out (by decide)) (fun _ hk => hk.1.2) (.slice Ao96 t325.length co96)) (fun _ hk => hk.2) (.slice Ao98 x325000_1.length co98)) (fun _ hk => hk.1.1.2), hkS HB⟩
   ·rw [if_neg c28] at H
    exact absurd H (by simp)
  ·rw [if_neg c27] at H
   exact absurd H (by simp)

end Go.Proofs.Ytgjpahofopoflaa.PFnExactNatDiv
