-- Written by our own driver (wip/hand/hprint.py) over the seat's translation.
import Derived.Test.YtgjpahofopoflaaDoorPFnFlOrderx0
import Derived.Test.YtgjpahofopoflaaDoorPFnFlOrderx14
import Derived.Test.YtgjpahofopoflaaDoorPFnFlOrderx16
import Derived.Test.YtgjpahofopoflaaDoorPFnFlOrderx17
import Derived.Test.YtgjpahofopoflaaDoorPFnFlOrderx19
import Derived.Test.YtgjpahofopoflaaDoorPFnFlOrderx20
namespace Go.Proofs.YtgjpahofopoflaaDoor.PFnFlOrder
open Go.RowKit Go.Proofs.YtgjpahofopoflaaDoorW.PrintWords Go.Proofs.YtgjpahofopoflaaDoorW.PrintLast Go.Proofs.YtgjpahofopoflaaDoorW.PrintMore
attribute [local go_sem] max2_int min2_int max_two min_two max_three min_three max_four min_four   -- for this text's walks alone
set_option linter.unusedVariables false
set_option linter.unusedSimpArgs false

/-! ### spec_l5round: function 132 -/
mutual
def spec_l5round.j0 : Nat → Int → Int → Bool → List Int → Int → Option (Int × Bool × Int × Int × Int)
 | 0, _, _, _, _, _ => none
 | k + 1, x1, x8, x385000, x385001, x385002 => (spec_l4round.f k x385000 x385001 x385002 x8 x1).bind fun bt387 => (if bt387.2.2.2 = true then (spec_l5round.j1 k x1 0 x385000 x385001 x385002 bt387.1 bt387.2.1 bt387.2.2.1) else ((spec_l4top.f k x385000 x385001 x385002).bind fun t394 => (if t394 < (-1021) then (spec_l5round.j1 k x1 (Go.bits .or .i64 1 4) x385000 x385001 x385002 bt387.1 bt387.2.1 bt387.2.2.1) else (spec_l5round.j1 k x1 1 x385000 x385001 x385002 bt387.1 bt387.2.1 bt387.2.2.1))))
def spec_l5round.j1 : Nat → Int → Int → Bool → List Int → Int → Bool → List Int → Int → Option (Int × Bool × Int × Int × Int)
 | 0, _, _, _, _, _, _, _, _ => none
 | k + 1, x1, x11, x385000, x385001, x385002, x394000, x394001, x394002 => if (x394001.length : Int) = 0 then (some (0, x385000, 0, 0, x11)) else ((spec_l4top.f k x394000 x394001 x394002).bind fun t395 => (if t395 > 1024 then (if x1 = 1 then ((spec_l5most.f x385000).bind fun bt396 => (some (bt396.1, bt396.2.1, bt396.2.2.1, bt396.2.2.2, 3))) else (if x1 = 2 then (if x385000 = true then ((spec_l5most.f x385000).bind fun bt400 => (some (bt400.1, bt400.2.1, bt400.2.2.1, bt400.2.2.2, 3))) else (if x1 = 3 then ((spec_l5most.f x385000).bind fun bt404 => (some (bt404.1, bt404.2.1, bt404.2.2.1, bt404.2.2.2, 3))) else (some (2, x385000, 0, 0, 3)))) else (if x1 = 3 then (if x385000 = true then (some (2, x385000, 0, 0, 3)) else ((spec_l5most.f x385000).bind fun bt408 => (some (bt408.1, bt408.2.1, bt408.2.2.1, bt408.2.2.2, 3)))) else (some (2, x385000, 0, 0, 3))))) else ((spec_l4top.f k x394000 x394001 x394002).bind fun t412 => (if (wrap64 (t412 - 53)) < (-1074) then ((spec_l2shl.f k x394001 (wrap64 (x394002 - (-1074)))).bind fun t413 => ((spec_l2int.f k t413).bind fun t416 => (some (1, x394000, t416, (-1074), x11)))) else ((spec_l2shl.f k x394001 (wrap64 (x394002 - (wrap64 (t412 - 53))))).bind fun t417 => ((spec_l2int.f k t417).bind fun t420 => (some (1, x394000, t420, wrap64 (t412 - 53), x11))))))))
end
def spec_l5round.f (k : Nat) (a0_0 : Bool) (l0_1 : List Int) (a0_2 : Int) (a1 : Int) (a2 : Bool) : Option (Int × Bool × Int × Int × Int) := if (l0_1.length : Int) = 0 then (some (0, a2, 0, 0, 0)) else ((spec_l4top.f k a0_0 l0_1 a0_2).bind fun t386 => (if (wrap64 (t386 - 53)) < (-1074) then (spec_l5round.j0 k a1 (-1074) a0_0 l0_1 a0_2) else (spec_l5round.j0 k a1 (wrap64 (t386 - 53)) a0_0 l0_1 a0_2)))
theorem spec_l5round.mono_l : ∀ k, (∀ y0 y1 y2 y3 y4, LeO (spec_l5round.j0 k y0 y1 y2 y3 y4) (spec_l5round.j0 (k + 1) y0 y1 y2 y3 y4)) ∧ (∀ y0 y1 y2 y3 y4 y5 y6 y7, LeO (spec_l5round.j1 k y0 y1 y2 y3 y4 y5 y6 y7) (spec_l5round.j1 (k + 1) y0 y1 y2 y3 y4 y5 y6 y7))
 | 0 => ⟨fun _ _ _ _ _ r h => by simp [spec_l5round.j0] at h, fun _ _ _ _ _ _ _ _ r h => by simp [spec_l5round.j1] at h⟩
 | k + 1 => by
  obtain ⟨ih0, ih1⟩ := spec_l5round.mono_l k
  refine ⟨?_, ?_⟩
  ·intro y0 y1 y2 y3 y4
   unfold spec_l5round.j0
   repeat' first
   | (with_reducible exact ih0 _ _ _ _ _)
   | (with_reducible exact ih1 _ _ _ _ _ _ _ _)
   | (with_reducible exact spec_l2int.mono _ _)
   | (with_reducible exact spec_l2shl.mono _ _ _)
   | (with_reducible exact spec_l4round.mono _ _ _ _ _ _)
   | (with_reducible exact spec_l4top.mono _ _ _ _)
   | (with_reducible exact LeO.refl _)
   | (with_reducible exact LeO.none _)
   | (with_reducible refine LeO.ite ?_ ?_)
   | (with_reducible refine LeO.bind ?_ (fun _ => ?_))
   | exact ih0 _ _ _ _ _
   | exact ih1 _ _ _ _ _ _ _ _
   | exact spec_l2int.mono _ _
   | exact spec_l2shl.mono _ _ _
   | exact spec_l4round.mono _ _ _ _ _ _
   | exact spec_l4top.mono _ _ _ _
   | exact LeO.none _
   | refine LeO.ite ?_ ?_
   | refine LeO.bind ?_ (fun _ => ?_)
  ·intro y0 y1 y2 y3 y4 y5 y6 y7
   unfold spec_l5round.j1
   repeat' first
   | (with_reducible exact ih0 _ _ _ _ _)
   | (with_reducible exact ih1 _ _ _ _ _ _ _ _)
   | (with_reducible exact spec_l2int.mono _ _)
   | (with_reducible exact spec_l2shl.mono _ _ _)
   | (with_reducible exact spec_l4round.mono _ _ _ _ _ _)
   | (with_reducible exact spec_l4top.mono _ _ _ _)
   | (with_reducible exact LeO.refl _)
   | (with_reducible exact LeO.none _)
   | (with_reducible refine LeO.ite ?_ ?_)
   | (with_reducible refine LeO.bind ?_ (fun _ => ?_))
   | exact ih0 _ _ _ _ _
   | exact ih1 _ _ _ _ _ _ _ _
   | exact spec_l2int.mono _ _
   | exact spec_l2shl.mono _ _ _
   | exact spec_l4round.mono _ _ _ _ _ _
   | exact spec_l4top.mono _ _ _ _
   | exact LeO.none _
   | refine LeO.ite ?_ ?_
   | refine LeO.bind ?_ (fun _ => ?_)
theorem spec_l5round.mono : ∀ a0 a1 a2 a3 a4 k, LeO (spec_l5round.f k a0 a1 a2 a3 a4) (spec_l5round.f (k + 1) a0 a1 a2 a3 a4) := by
 intro a0 a1 a2 a3 a4 k
 obtain ⟨ih0, ih1⟩ := spec_l5round.mono_l k
 unfold spec_l5round.f
 repeat' first
   | (with_reducible exact ih0 _ _ _ _ _)
   | (with_reducible exact ih1 _ _ _ _ _ _ _ _)
   | (with_reducible exact spec_l2int.mono _ _)
   | (with_reducible exact spec_l2shl.mono _ _ _)
   | (with_reducible exact spec_l4round.mono _ _ _ _ _ _)
   | (with_reducible exact spec_l4top.mono _ _ _ _)
   | (with_reducible exact LeO.refl _)
   | (with_reducible exact LeO.none _)
   | (with_reducible refine LeO.ite ?_ ?_)
   | (with_reducible refine LeO.bind ?_ (fun _ => ?_))
   | exact ih0 _ _ _ _ _
   | exact ih1 _ _ _ _ _ _ _ _
   | exact spec_l2int.mono _ _
   | exact spec_l2shl.mono _ _ _
   | exact spec_l4round.mono _ _ _ _ _ _
   | exact spec_l4top.mono _ _ _ _
   | exact LeO.none _
   | refine LeO.ite ?_ ?_
   | refine LeO.bind ?_ (fun _ => ?_)
def spec_l5round.T22 : Bool × List (List Nat × List Nat) := (true, [([], []), ([0], [0]), ([1], [1]), ([], []), ([3], [3]), ([4], [4]), ([], []), ([6], [6]), ([], []), ([7, 8], [7, 8]), ([5, 9], [5, 9]), ([10, 10], [10]), ([], []), ([2, 11, 12], [2, 11, 12]), ([], []), ([13, 11, 0, 1, 2, 3, 4, 5, 6, 7, 8, 9, 10, 11, 12, 13], [13]), ([14, 15, 0, 1, 2, 3, 4, 5, 6, 7, 8, 9, 10, 11, 12, 13, 14, 15], [14])])
def spec_l5round.B22 : List Nat := [0, 1, 3, 0, 8, 24, 0, 64, 0, 448, 1016, 2040, 0, 8191, 0, 16383, 65535]
theorem spec_l5round.tab22 : rtab .any (opsOf Tryd.f132 22) = spec_l5round.T22 := by kernel_rfl
theorem spec_l5round.bits22 : waitsOk spec_l5round.T22.2 spec_l5round.B22 = true := by kernel_rfl
set_option maxHeartbeats 8000000 in
set_option maxRecDepth 100000 in
theorem spec_l5round.calls (k : Nat) (a0_0 : Bool) (A0_1 : Option Addr) (c0_1 : Nat) (l0_1 : List Int) (a0_2 : Int) (a1 : Int) (a2 : Bool) (r1 : Int) (r2 : Bool) (r3 : Int) (r4 : Int) (r5 : Int) (w : World) (hr0_1 : Kd.C (Kd.int .i64) w A0_1 l0_1.length l0_1) (hc0_1 : l0_1.length ≤ c0_1) (h : spec_l5round.f k a0_0 l0_1 a0_2 a1 a2 = some (r1, r2, r3, r4, r5)) :
  Calls Tryd.prog 132 #[.agg #[.bool a0_0, .slice A0_1 l0_1.length c0_1, .int .i64 a0_2], .int .i64 a1, .bool a2] w fun e w' => e = .returned (.tuple #[.agg #[.int .i64 r1, .bool r2, .int .i64 r3, .int .i64 r4], .int .i64 r5]) ∧ Below w.heap.size w w' := by
 have hu30 := Tryd.underlying30
 have hu33 := Tryd.underlying33
 have hu26 := Tryd.underlying26
 have HR0_1 := Aside0.mk hr0_1
 have HC0_1 := Aside0.mk hc0_1
 clear hr0_1 hc0_1
 have HB := Aside0.mk (Below.refl w.heap.size w)
 have H : (if (l0_1.length : Int) = 0 then (some (0, a2, 0, 0, 0)) else ((spec_l4top.f k a0_0 l0_1 a0_2).bind fun t386 => (if (wrap64 (t386 - 53)) < (-1074) then (spec_l5round.j0 k a1 (-1074) a0_0 l0_1 a0_2) else (spec_l5round.j0 k a1 (wrap64 (t386 - 53)) a0_0 l0_1 a0_2)))) = some (r1, r2, r3, r4, r5) := h
 clear h
 by_cases c4 : (l0_1.length : Int) = 0
 ·rw [if_pos c4] at H
  have c4b0 : ((l0_1.length : Int) == 0) = true := beq_iff_eq.mpr c4
  have c4b1 : ((l0_1.length : Int) != 0) = false := bne_eq_false_iff_eq.mpr c4
  clear c4
  simp only [Option.some.injEq, Prod.mk.injEq] at H
  obtain ⟨rfl, rfl, rfl, rfl, rfl⟩ := H
  go_enter Tryd.func132, Tryd.ntmps132
  go_wp2_with (first | ((with_reducible refine gate_dst (N := 3) rfl ?_); refine hkBox (N := 3) (cs := #[.bool a0_0, .slice A0_1 l0_1.length c0_1, .int .i64 a0_2]) (t := 30) ?_; intro gb384 hg w5 hbox hb; have n_ := hkA (hkU HB hb) (hkA (Aside0.mk (hbox)) (hkA (hkG hg (hkS HB)) (hkG hg (hkS HB)))); clear HB; obtain ⟨HB, BK384, GW384, GE384⟩ := n_; clear hb hbox hg) | ((with_reducible refine gate_dst (N := 6) rfl ?_); refine hkBox (N := 6) (cs := #[.int .i64 0, .bool false, .int .i64 0, .int .i64 0]) (t := 33) ?_; intro gb385 hg w6 hbox hb; have n_ := hkA (hkBb BK384 hb) (hkA (hkU HB hb) (hkA (Aside0.mk (hbox)) (hkA (hkG hg (hkS HB)) (hkA (hkG hg (hkS HB)) (hkA (hkN hg BK384) (hkM hg BK384)))))); clear BK384 HB; obtain ⟨BK384, HB, BK385, GW385, GE385, NB384_385, NB385_384⟩ := n_; clear hb hbox hg; have hnb7 := NB384_385.out; have hnc7 := NB385_384.out; obtain ⟨hcz8_0, hfz8_0, hcz8_1, hfz8_1, hcz8_2, hfz8_2⟩ := hkc3 BK384; obtain ⟨hcz9_0, hfz9_0, hcz9_1, hfz9_1, hcz9_2, hfz9_2, hcz9_3, hfz9_3⟩ := hkc4 BK385))
  refine bodyPost_ret (results_ct rfl _ _ gb385 33 #[.int .i64 0, .bool a2, .int .i64 0, .int .i64 0] (0, 0) _ rfl hkPp Tryd.underlying33 rfl (by kernel_rfl)) rfl ?_
  exact ⟨hkE, hkS HB⟩
 ·rw [if_neg c4] at H
  have c4b0 : ((l0_1.length : Int) == 0) = false := beq_eq_false_iff_ne.mpr c4
  have c4b1 : ((l0_1.length : Int) != 0) = true := bne_iff_ne.mpr c4
  have c4b2 : ¬ (l0_1 = []) := fun h_ => c4 (by rw [h_]; rfl)
  replace H := hBi H
  obtain ⟨t386, A100, H⟩ := H
  replace H : (if (wrap64 (t386 - 53)) < (-1074) then (spec_l5round.j0 k a1 (-1074) a0_0 l0_1 a0_2) else (spec_l5round.j0 k a1 (wrap64 (t386 - 53)) a0_0 l0_1 a0_2)) = some (r1, r2, r3, r4, r5) := H
  have A10 := Aside0.mk A100
  clear A100
  have HC11 := Aside0.mk H
  clear H
  go_enter Tryd.func132, Tryd.ntmps132
  go_upto_if 25 with (first | ((with_reducible refine gate_dst (N := 3) rfl ?_); refine hkBox (N := 3) (cs := #[.bool a0_0, .slice A0_1 l0_1.length c0_1, .int .i64 a0_2]) (t := 30) ?_; intro gb384 hg w12 hbox hb; have n_ := hkA (hkU HB hb) (hkA (Aside0.mk (hbox)) (hkA (hkG hg (hkS HB)) (hkG hg (hkS HB)))); clear HB; obtain ⟨HB, BK384, GW384, GE384⟩ := n_; clear hb hbox hg) | ((with_reducible refine gate_dst (N := 6) rfl ?_); refine hkBox (N := 6) (cs := #[.int .i64 0, .bool false, .int .i64 0, .int .i64 0]) (t := 33) ?_; intro gb385 hg w13 hbox hb; have n_ := hkA (hkBb BK384 hb) (hkA (hkU HB hb) (hkA (Aside0.mk (hbox)) (hkA (hkG hg (hkS HB)) (hkA (hkG hg (hkS HB)) (hkA (hkN hg BK384) (hkM hg BK384)))))); clear BK384 HB; obtain ⟨BK384, HB, BK385, GW385, GE385, NB384_385, NB385_384⟩ := n_; clear hb hbox hg; have hnb14 := NB384_385.out; have hnc14 := NB385_384.out; obtain ⟨hcz15_0, hfz15_0, hcz15_1, hfz15_1, hcz15_2, hfz15_2⟩ := hkc3 BK384) | ((with_reducible refine gate_callee (f := 143) rfl ?_); refine hkGo (N := some 22) Tryd.func143 #[.agg #[.bool a0_0, .slice A0_1 l0_1.length c0_1, .int .i64 a0_2]] ?_; (with_reducible refine (spec_l4top.calls k a0_0 _ _ l0_1 a0_2 t386 _ ?side1 ?side2 A10.out).mono ?_); (case side1 => exact hkC ((Kd.C_below HR0_1.out HB.out))); (case side2 => exact HC0_1.out); rintro e w16 ⟨rfl, hb⟩; refine ⟨_, rfl, ?_⟩; have n_ := hkA (hkBb BK384 hb) (hkA (hkBb BK385 hb) (hkU HB hb)); clear BK384 BK385 HB; obtain ⟨BK384, BK385, HB⟩ := n_; (try clear hb)))
  (try simp only [Act.put, List.setIfInBounds_toArray, List.set_cons_zero, List.set_cons_succ])
  go_cut [8] (fun v8 wc => ∃ (kq : Nat) (x8_10 : Int), v8 = .int .i64 x8_10 ∧ Aside0 (spec_l5round.j0 kq a1 x8_10 a0_0 l0_1 a0_2 = some (r1, r2, r3, r4, r5)) ∧ Aside0 (kq ≤ k) ∧ Aside0 (wc.heap[gb384]? = some (.cells #[.bool a0_0, (.slice A0_1 l0_1.length c0_1), .int .i64 a0_2] 30 (0, 0))) ∧ Aside0 (wc.heap[gb385]? = some (.cells #[.int .i64 0, .bool false, .int .i64 0, .int .i64 0] 33 (0, 0))) ∧ Aside0 (Below w.heap.size w wc))
  case first =>
   have H := HC11.out
   clear HC11
   by_cases c17 : (wrap64 (t386 - 53)) < (-1074)
   ·rw [if_pos c17] at H
    have c17b0 : decide ((wrap64 (t386 - 53)) < (-1074)) = true := decide_eq_true c17
    clear c17
    (first | rw [c17b0] | (simp only [i64_w, i32_w]; rw [c17b0]) | skip)
    have H' := Aside0.mk H
    clear H
    go_wp2
    go_meet
    case rel => exact ⟨_, ((-1074)), (by first | rfl | (simp; done) | (simp [*]; done)), H', ⟨by first | omega | exact Nat.le_refl _⟩, ⟨by refine hkz ?_; exact BK384.out⟩, ⟨by refine hkz ?_; exact BK385.out⟩, ⟨hkS HB⟩⟩
   ·rw [if_neg c17] at H
    have c17b0 : decide ((wrap64 (t386 - 53)) < (-1074)) = false := decide_eq_false c17
    clear c17
    (first | rw [c17b0] | (simp only [i64_w, i32_w]; rw [c17b0]) | skip)
    have H' := Aside0.mk H
    clear H
    go_wp2
    go_meet
    case rel => exact ⟨_, (wrap64 (t386 - 53)), (by first | rfl | (simp; done) | (simp [*]; done)), H', ⟨by first | omega | exact Nat.le_refl _⟩, ⟨by refine hkz ?_; exact BK384.out⟩, ⟨by refine hkz ?_; exact BK385.out⟩, ⟨hkS HB⟩⟩
  case rest =>
   clear HC11
   try clear c1
   try clear p2
   try clear c4
   try clear c4b0
   try clear c4b1
   try clear c4b2
   try clear p6
   try clear c7
   try clear c13
   try clear c14
   try clear c17
   try clear c17b0
   try clear hcz15_0 hcz15_1 hcz15_2 hcz8_0 hcz8_1 hcz8_2 hcz9_0 hcz9_1 hcz9_2 hcz9_3 hfz15_0 hfz15_1 hfz15_2 hfz8_0 hfz8_1 hfz8_2 hfz9_0 hfz9_1 hfz9_2 hfz9_3
   obtain ⟨kq, x8_10, rfl, HA, HJ10, BK384, BK385, HB⟩ := hcut
   cases kq with
   | zero => exact absurd HA.out (by simp [spec_l5round.j0])
   | succ kj10 =>
    have H := HA.out
    clear HA
    simp only [spec_l5round.j0] at H
    replace H := hBi H
    obtain ⟨⟨t387, t388, t391, t392⟩, A180, H⟩ := H
    replace H : (if t392 = true then (spec_l5round.j1 kj10 a1 0 a0_0 l0_1 a0_2 t387 t388 t391) else ((spec_l4top.f kj10 a0_0 l0_1 a0_2).bind fun t394 => (if t394 < (-1021) then (spec_l5round.j1 kj10 a1 (Go.bits .or .i64 1 4) a0_0 l0_1 a0_2 t387 t388 t391) else (spec_l5round.j1 kj10 a1 1 a0_0 l0_1 a0_2 t387 t388 t391)))) = some (r1, r2, r3, r4, r5) := H
    have A18 := Aside0.mk A180
    clear A180
    have HC19 := Aside0.mk H
    clear H
    have hnb20 := NB384_385.out
    have hnc20 := NB385_384.out
    obtain ⟨hcz21_0, hfz21_0, hcz21_1, hfz21_1, hcz21_2, hfz21_2⟩ := hkc3 BK384
    go_upto_if 34 with (first | ((with_reducible refine gate_callee (f := 144) rfl ?_); refine hkGo (N := some 30) Tryd.func144 #[.agg #[.bool a0_0, .slice A0_1 l0_1.length c0_1, .int .i64 a0_2], .int .i64 x8_10, .int .i64 a1] ?_; (with_reducible refine (spec_l4round.calls kj10 a0_0 (fun k_ => k_ < w.heap.size) _ _ l0_1 a0_2 x8_10 a1 t387 t388 t391 t392 _ ?side1 A18.out).mono ?_); (case side1 => exact Kd.V_mk HC0_1.out (Kd.F_below (Kd.C_F (Kd.heap_int .i64) HR0_1.out) (hkS HB))); rintro e w22 ⟨v389, rfl, ho0, hb⟩; refine ⟨_, rfl, ?_⟩; have n_ := hkA (Aside0.mk (Kd.V_lower (Kd.V_mono (ok' := fun k_ => k_ ≠ gb384 ∧ k_ ≠ gb385) ho0 (fun k_ hk_ => ⟨Or.elim hk_ (fun hs_ => fun e_ => Nat.not_le.2 hs_ (by rw [e_]; exact GW384.out)) (fun hn_ => (Kd.freshB (g := gb384) (o := .cells #[.bool a0_0, .slice A0_1 l0_1.length c0_1, .int .i64 a0_2] 30 (0, 0)) (hkB BK384) k_ hn_)), Or.elim hk_ (fun hs_ => fun e_ => Nat.not_le.2 hs_ (by rw [e_]; exact GW385.out)) (fun hn_ => (Kd.freshB (g := gb385) (o := .cells #[.int .i64 0, .bool false, .int .i64 0, .int .i64 0] 33 (0, 0)) (hkB BK385) k_ hn_))⟩)) (below_size (hkS HB)))) (hkA (hkBb BK384 hb) (hkA (hkBb BK385 hb) (hkU HB hb))); clear BK384 BK385 HB; obtain ⟨HO390, BK384, BK385, HB⟩ := n_; (try clear hb); (try clear ho0)) | ((with_reducible refine gate_dst (N := 9) rfl ?_); refine hkBox (N := 9) (cs := #[.bool false, .slice none 0 0, .int .i64 0]) (t := 30) ?_; intro gb393 hg w23 hbox hb; have n_ := hkA (Aside0.mk (Kd.V_below (Kd.V_elderB (by (with_reducible repeat (first | apply Kd.V_alloc | apply Kd.V_drewN | apply Kd.V_drew)); exact HO390.out) gb393 (Nat.le_of_eq hg.symm)) hb)) (hkA (hkBb BK384 hb) (hkA (hkBb BK385 hb) (hkA (hkU HB hb) (hkA (Aside0.mk (hbox)) (hkA (hkG hg (hkS HB)) (hkA (hkG hg (hkS HB)) (hkA (hkN hg BK384) (hkA (hkM hg BK384) (hkA (hkN hg BK385) (hkM hg BK385)))))))))); clear HO390 BK384 BK385 HB; obtain ⟨HO390, BK384, BK385, HB, BK393, GW393, GE393, NB384_393, NB393_384, NB385_393, NB393_385⟩ := n_; clear hb hbox hg; have hnb24 := NB393_384.out; have hnc24 := NB384_393.out; have hnb25 := NB393_385.out; have hnc25 := NB385_393.out; obtain ⟨hcz26_0, hfz26_0, hcz26_1, hfz26_1, hcz26_2, hfz26_2⟩ := hkc3 BK393; obtain ⟨Ao27, co27, eo27⟩ := Kd.V_slice HO390.out; subst eo27))
    (try simp only [Act.put, List.setIfInBounds_toArray, List.set_cons_zero, List.set_cons_succ])
    go_cut [11] (fun v11 wc => ∃ (kq : Nat) (x11_18 : Int), v11 = .int .i64 x11_18 ∧ Aside0 (spec_l5round.j1 kq a1 x11_18 a0_0 l0_1 a0_2 t387 t388 t391 = some (r1, r2, r3, r4, r5)) ∧ Aside0 (kq ≤ kj10) ∧ Aside0 (Kd.V (Kd.int .i64) 3 wc w.heap.size (fun k_ => k_ ≠ gb384 ∧ k_ ≠ gb385 ∧ k_ ≠ gb393) (.slice Ao27 t388.length co27) t388) ∧ Aside0 (wc.heap[gb384]? = some (.cells #[.bool a0_0, (.slice A0_1 l0_1.length c0_1), .int .i64 a0_2] 30 (0, 0))) ∧ Aside0 (wc.heap[gb385]? = some (.cells #[.int .i64 0, .bool false, .int .i64 0, .int .i64 0] 33 (0, 0))) ∧ Aside0 (wc.heap[gb393]? = some (.cells #[.bool t387, (.slice Ao27 t388.length co27), .int .i64 t391] 30 (0, 0))) ∧ Aside0 (Below w.heap.size w wc))
    case first =>
     have H := HC19.out
     clear HC19
     by_cases c28 : t392 = true
     ·subst c28
      have H1 : (spec_l5round.j1 kj10 a1 0 a0_0 l0_1 a0_2 t387 t388 t391) = some (r1, r2, r3, r4, r5) := by rw [if_pos rfl] at H; exact H
      clear H
      have H := H1
      clear H1
      have H' := Aside0.mk H
      clear H
      go_wp2
      go_meet
      case rel => exact ⟨_, (0), (by first | rfl | (simp; done) | (simp [*]; done)), H', ⟨by have := HJ10.out; first | omega | exact Nat.le_refl _⟩, ⟨by (with_reducible repeat (first | apply Kd.V_alloc | apply Kd.V_drewN | apply Kd.V_drew)); exact Kd.V_mono (Kd.V_far (p := ⟨gb393, 2, none⟩) (Kd.V_far (p := ⟨gb393, 1, none⟩) (Kd.V_far (p := ⟨gb393, 0, none⟩) (Kd.V_mono HO390.out (fun k_ hk => (⟨hk, hk.2⟩ : _ ∧ k_ ≠ gb393))) (fun _ hk => hk.2) (.bool t387)) (fun _ hk => hk.2) (.slice Ao27 t388.length co27)) (fun _ hk => hk.2) (.int .i64 t391)) (fun _ hk => ⟨hk.1.1.1, ⟨hk.1.1.2, hk.1.2⟩⟩)⟩, ⟨by refine hkz ?_; refine blk_far ?_ NB384_393.out _; refine hkz ?_; refine blk_far ?_ NB384_393.out _; refine hkz ?_; refine blk_far ?_ NB384_393.out _; refine hkz ?_; exact BK384.out⟩, ⟨by refine hkz ?_; refine blk_far ?_ NB385_393.out _; refine hkz ?_; refine blk_far ?_ NB385_393.out _; refine hkz ?_; refine blk_far ?_ NB385_393.out _; refine hkz ?_; exact BK385.out⟩, ⟨by refine hkz ?_; refine blk_put (cs := #[.bool t387, .slice Ao27 t388.length co27, .int .i64 0]) ?_ 2 _ rfl; refine hkz ?_; refine blk_put (cs := #[.bool t387, .slice none 0 0, .int .i64 0]) ?_ 1 _ rfl; refine hkz ?_; refine blk_put (cs := #[.bool false, .slice none 0 0, .int .i64 0]) ?_ 0 _ rfl; refine hkz ?_; exact BK393.out⟩, ⟨hkS HB⟩⟩
     ·replace c28 := Bool.eq_false_iff.mpr c28
      subst c28
      have H1 : ((spec_l4top.f kj10 a0_0 l0_1 a0_2).bind fun t394 => (if t394 < (-1021) then (spec_l5round.j1 kj10 a1 (Go.bits .or .i64 1 4) a0_0 l0_1 a0_2 t387 t388 t391) else (spec_l5round.j1 kj10 a1 1 a0_0 l0_1 a0_2 t387 t388 t391))) = some (r1, r2, r3, r4, r5) := by rw [if_neg (show ¬ (false = true) by decide)] at H; exact H
      clear H
      have H := H1
      clear H1
      replace H := hBi H
      obtain ⟨t394, A290, H⟩ := H
      replace H : (if t394 < (-1021) then (spec_l5round.j1 kj10 a1 (Go.bits .or .i64 1 4) a0_0 l0_1 a0_2 t387 t388 t391) else (spec_l5round.j1 kj10 a1 1 a0_0 l0_1 a0_2 t387 t388 t391)) = some (r1, r2, r3, r4, r5) := H
      have A29 := Aside0.mk A290
      clear A290
      by_cases c30 : t394 < (-1021)
      ·rw [if_pos c30] at H
       have c30b0 : decide (t394 < (-1021)) = true := decide_eq_true c30
       clear c30
       (first | rw [c30b0] | (simp only [i64_w, i32_w]; rw [c30b0]) | skip)
       have H' := Aside0.mk H
       clear H
       have hnb31 := NB384_385.out
       have hnc31 := NB385_384.out
       have hnb32 := NB384_393.out
       have hnc32 := NB393_384.out
       obtain ⟨hcz33_0, hfz33_0, hcz33_1, hfz33_1, hcz33_2, hfz33_2⟩ := hkc3 BK384
       go_wp2_with (first | ((with_reducible refine gate_callee (f := 143) rfl ?_); refine hkGo (N := some 36) Tryd.func143 #[.agg #[.bool a0_0, .slice A0_1 l0_1.length c0_1, .int .i64 a0_2]] ?_; (with_reducible refine (spec_l4top.calls kj10 a0_0 _ _ l0_1 a0_2 t394 _ ?side1 ?side2 A29.out).mono ?_); (case side1 => exact Kd.C_below HR0_1.out (hkS HB)); (case side2 => exact HC0_1.out); rintro e w34 ⟨rfl, hb⟩; refine ⟨_, rfl, ?_⟩; have n_ := hkA (Aside0.mk (Kd.V_below (by (with_reducible repeat (first | apply Kd.V_alloc | apply Kd.V_drewN | apply Kd.V_drew)); exact (Kd.V_mono (Kd.V_far (p := ⟨gb393, 2, none⟩) (Kd.V_far (p := ⟨gb393, 1, none⟩) (Kd.V_far (p := ⟨gb393, 0, none⟩) (Kd.V_mono HO390.out (fun k_ hk => (⟨hk, hk.2⟩ : _ ∧ k_ ≠ gb393))) (fun _ hk => hk.2) (.bool t387)) (fun _ hk => hk.2) (.slice Ao27 t388.length co27)) (fun _ hk => hk.2) (.int .i64 t391)) (fun _ h_ => h_.1))) hb)) (hkA (Aside0.mk (blk_below (g := gb384) (o := .cells #[.bool a0_0, .slice A0_1 l0_1.length c0_1, .int .i64 a0_2] 30 (0, 0)) hkPp hb)) (hkA (Aside0.mk (blk_below (g := gb385) (o := .cells #[.int .i64 0, .bool false, .int .i64 0, .int .i64 0] 33 (0, 0)) hkPp hb)) (hkA (Aside0.mk (blk_below (g := gb393) (o := .cells #[.bool t387, .slice Ao27 t388.length co27, .int .i64 t391] 30 (0, 0)) hkPp hb)) (hkU HB hb)))); clear HO390 BK384 BK385 BK393 HB; obtain ⟨HO390, BK384, BK385, BK393, HB⟩ := n_; (try clear hb); (try clear hk)))
       go_meet
       case rel => exact ⟨_, (Go.bits .or .i64 1 4), (by first | rfl | (simp; done) | (simp [*]; done)), H', ⟨by have := HJ10.out; first | omega | exact Nat.le_refl _⟩, ⟨by (with_reducible repeat (first | apply Kd.V_alloc | apply Kd.V_drewN | apply Kd.V_drew)); exact Kd.V_mono HO390.out (fun _ hk => ⟨hk.1.1, ⟨hk.1.2, hk.2⟩⟩)⟩, ⟨by refine hkz ?_; exact BK384.out⟩, ⟨by refine hkz ?_; exact BK385.out⟩, ⟨by refine hkz ?_; exact BK393.out⟩, ⟨hkS HB⟩⟩
      ·rw [if_neg c30] at H
       have c30b0 : decide (t394 < (-1021)) = false := decide_eq_false c30
       clear c30
       (first | rw [c30b0] | (simp only [i64_w, i32_w]; rw [c30b0]) | skip)
       have H' := Aside0.mk H
       clear H
       have hnb35 := NB384_385.out
       have hnc35 := NB385_384.out
       have hnb36 := NB384_393.out
       have hnc36 := NB393_384.out
       obtain ⟨hcz37_0, hfz37_0, hcz37_1, hfz37_1, hcz37_2, hfz37_2⟩ := hkc3 BK384
       go_wp2_with (first | ((with_reducible refine gate_callee (f := 143) rfl ?_); refine hkGo (N := some 36) Tryd.func143 #[.agg #[.bool a0_0, .slice A0_1 l0_1.length c0_1, .int .i64 a0_2]] ?_; (with_reducible refine (spec_l4top.calls kj10 a0_0 _ _ l0_1 a0_2 t394 _ ?side1 ?side2 A29.out).mono ?_); (case side1 => exact Kd.C_below HR0_1.out (hkS HB)); (case side2 => exact HC0_1.out); rintro e w38 ⟨rfl, hb⟩; refine ⟨_, rfl, ?_⟩; have n_ := hkA (Aside0.mk (Kd.V_below (by (with_reducible repeat (first | apply Kd.V_alloc | apply Kd.V_drewN | apply Kd.V_drew)); exact (Kd.V_mono (Kd.V_far (p := ⟨gb393, 2, none⟩) (Kd.V_far (p := ⟨gb393, 1, none⟩) (Kd.V_far (p := ⟨gb393, 0, none⟩) (Kd.V_mono HO390.out (fun k_ hk => (⟨hk, hk.2⟩ : _ ∧ k_ ≠ gb393))) (fun _ hk => hk.2) (.bool t387)) (fun _ hk => hk.2) (.slice Ao27 t388.length co27)) (fun _ hk => hk.2) (.int .i64 t391)) (fun _ h_ => h_.1))) hb)) (hkA (Aside0.mk (blk_below (g := gb384) (o := .cells #[.bool a0_0, .slice A0_1 l0_1.length c0_1, .int .i64 a0_2] 30 (0, 0)) hkPp hb)) (hkA (Aside0.mk (blk_below (g := gb385) (o := .cells #[.int .i64 0, .bool false, .int .i64 0, .int .i64 0] 33 (0, 0)) hkPp hb)) (hkA (Aside0.mk (blk_below (g := gb393) (o := .cells #[.bool t387, .slice Ao27 t388.length co27, .int .i64 t391] 30 (0, 0)) hkPp hb)) (hkU HB hb)))); clear HO390 BK384 BK385 BK393 HB; obtain ⟨HO390, BK384, BK385, BK393, HB⟩ := n_; (try clear hb); (try clear hk)))
       go_meet
       case rel => exact ⟨_, (1), (by first | rfl | (simp; done) | (simp [*]; done)), H', ⟨by have := HJ10.out; first | omega | exact Nat.le_refl _⟩, ⟨by (with_reducible repeat (first | apply Kd.V_alloc | apply Kd.V_drewN | apply Kd.V_drew)); exact Kd.V_mono HO390.out (fun _ hk => ⟨hk.1.1, ⟨hk.1.2, hk.2⟩⟩)⟩, ⟨by refine hkz ?_; exact BK384.out⟩, ⟨by refine hkz ?_; exact BK385.out⟩, ⟨by refine hkz ?_; exact BK393.out⟩, ⟨hkS HB⟩⟩
    case rest =>
     clear HC19
     try clear c1
     try clear c2
     try clear p2
     try clear c3
     try clear c4
     try clear c4b0
     try clear c4b1
     try clear c4b2
     try clear p6
     try clear c7
     try clear c13
     try clear c14
     try clear c17
     try clear c17b0
     try clear c20
     try clear c24
     try clear c25
     try clear c28
     try clear c30
     try clear c30b0
     try clear c31
     try clear c32
     try clear c35
     try clear c36
     try clear hcz15_0 hcz15_1 hcz15_2 hcz21_0 hcz21_1 hcz21_2 hcz26_0 hcz26_1 hcz26_2 hcz33_0 hcz33_1 hcz33_2 hcz37_0 hcz37_1 hcz37_2 hcz8_0 hcz8_1 hcz8_2 hcz9_0 hcz9_1 hcz9_2 hcz9_3 hfz15_0 hfz15_1 hfz15_2 hfz21_0 hfz21_1 hfz21_2 hfz26_0 hfz26_1 hfz26_2 hfz33_0 hfz33_1 hfz33_2 hfz37_0 hfz37_1 hfz37_2 hfz8_0 hfz8_1 hfz8_2 hfz9_0 hfz9_1 hfz9_2 hfz9_3
     try clear p2
     try clear p6
     obtain ⟨kq, x11_18, rfl, HA, HJ18, HO_394001, BK384, BK385, BK393, HB⟩ := hcut
     cases kq with
     | zero => exact absurd HA.out (by simp [spec_l5round.j1])
     | succ kj18 =>
      have H := HA.out
      clear HA
      simp only [spec_l5round.j1] at H
      by_cases c39 : (t388.length : Int) = 0
      ·rw [if_pos c39] at H
       have c39b0 : ((t388.length : Int) == 0) = true := beq_iff_eq.mpr c39
       have c39b1 : ((t388.length : Int) != 0) = false := bne_eq_false_iff_eq.mpr c39
       clear c39
       simp only [Option.some.injEq, Prod.mk.injEq] at H
       obtain ⟨rfl, rfl, rfl, rfl, rfl⟩ := H
       have hnb40 := NB393_384.out
       have hnc40 := NB384_393.out
       have hnb41 := NB393_385.out
       have hnc41 := NB385_393.out
       obtain ⟨hcz42_0, hfz42_0, hcz42_1, hfz42_1, hcz42_2, hfz42_2⟩ := hkc3 BK393
       have hnb43 := NB384_385.out
       have hnc43 := NB385_384.out
       obtain ⟨hcz44_0, hfz44_0, hcz44_1, hfz44_1, hcz44_2, hfz44_2⟩ := hkc3 BK384
       obtain ⟨hcz45_0, hfz45_0, hcz45_1, hfz45_1, hcz45_2, hfz45_2, hcz45_3, hfz45_3⟩ := hkc4 BK385
       go_wp2
       refine bodyPost_ret (results_ct rfl _ _ gb385 33 #[.int .i64 0, .bool a0_0, .int .i64 0, .int .i64 0] (0, 0) _ rfl hkPp Tryd.underlying33 rfl (by kernel_rfl)) rfl ?_
       exact ⟨hkE, hkS HB⟩
      ·rw [if_neg c39] at H
       have c39b0 : ((t388.length : Int) == 0) = false := beq_eq_false_iff_ne.mpr c39
       have c39b1 : ((t388.length : Int) != 0) = true := bne_iff_ne.mpr c39
       have c39b2 : ¬ (t388 = []) := fun h_ => c39 (by rw [h_]; rfl)
       replace H := hBi H
       obtain ⟨t395, A460, H⟩ := H
       replace H : (if t395 > 1024 then (if a1 = 1 then ((spec_l5most.f a0_0).bind fun bt396 => (some (bt396.1, bt396.2.1, bt396.2.2.1, bt396.2.2.2, 3))) else (if a1 = 2 then (if a0_0 = true then ((spec_l5most.f a0_0).bind fun bt400 => (some (bt400.1, bt400.2.1, bt400.2.2.1, bt400.2.2.2, 3))) else (if a1 = 3 then ((spec_l5most.f a0_0).bind fun bt404 => (some (bt404.1, bt404.2.1, bt404.2.2.1, bt404.2.2.2, 3))) else (some (2, a0_0, 0, 0, 3)))) else (if a1 = 3 then (if a0_0 = true then (some (2, a0_0, 0, 0, 3)) else ((spec_l5most.f a0_0).bind fun bt408 => (some (bt408.1, bt408.2.1, bt408.2.2.1, bt408.2.2.2, 3)))) else (some (2, a0_0, 0, 0, 3))))) else ((spec_l4top.f kj18 t387 t388 t391).bind fun t412 => (if (wrap64 (t412 - 53)) < (-1074) then ((spec_l2shl.f kj18 t388 (wrap64 (t391 - (-1074)))).bind fun t413 => ((spec_l2int.f kj18 t413).bind fun t416 => (some (1, t387, t416, (-1074), x11_18)))) else ((spec_l2shl.f kj18 t388 (wrap64 (t391 - (wrap64 (t412 - 53))))).bind fun t417 => ((spec_l2int.f kj18 t417).bind fun t420 => (some (1, t387, t420, wrap64 (t412 - 53), x11_18))))))) = some (r1, r2, r3, r4, r5) := H
       have A46 := Aside0.mk A460
       clear A460
       by_cases c47 : t395 > 1024
       ·rw [if_pos c47] at H
        have c47b0 : decide (1024 < t395) = true := decide_eq_true c47
        clear c47
        by_cases c48 : a1 = 1
        ·rw [if_pos c48] at H
         have c48b0 : (a1 == 1) = true := beq_iff_eq.mpr c48
         have c48b1 : (a1 != 1) = false := bne_eq_false_iff_eq.mpr c48
         clear c48
         replace H := hBi H
         obtain ⟨⟨t396, t397, t398, t399⟩, A490, H⟩ := H
         replace H : (some (t396, t397, t398, t399, 3)) = some (r1, r2, r3, r4, r5) := H
         have A49 := Aside0.mk A490
         clear A490
         simp only [Option.some.injEq, Prod.mk.injEq] at H
         obtain ⟨rfl, rfl, rfl, rfl, rfl⟩ := H
         have hnb50 := NB393_384.out
         have hnc50 := NB384_393.out
         have hnb51 := NB393_385.out
         have hnc51 := NB385_393.out
         obtain ⟨hcz52_0, hfz52_0, hcz52_1, hfz52_1, hcz52_2, hfz52_2⟩ := hkc3 BK393
         go_wp2_with (first | ((with_reducible refine gate_callee (f := 143) rfl ?_); refine hkGo (N := some 52) Tryd.func143 #[.agg #[.bool t387, .slice Ao27 t388.length co27, .int .i64 t391]] ?_; (with_reducible refine (spec_l4top.calls kj18 t387 _ _ t388 t391 t395 _ ?side1 ?side2 A46.out).mono ?_); (case side1 => exact hkC ((Kd.V_reads' HO_394001.out).2.2)); (case side2 => exact (Kd.V_reads' HO_394001.out).2.1); rintro e w53 ⟨rfl, hb⟩; refine ⟨_, rfl, ?_⟩; have n_ := hkA (Aside0.mk (Kd.V_below (by (with_reducible repeat (first | apply Kd.V_alloc | apply Kd.V_drewN | apply Kd.V_drew)); exact HO_394001.out) hb)) (hkA (hkBb BK384 hb) (hkA (hkBb BK385 hb) (hkA (hkBb BK393 hb) (hkU HB hb)))); clear HO_394001 BK384 BK385 BK393 HB; obtain ⟨HO_394001, BK384, BK385, BK393, HB⟩ := n_; (try clear hb); have hnb54 := NB384_385.out; have hnc54 := NB385_384.out; obtain ⟨hcz55_0, hfz55_0, hcz55_1, hfz55_1, hcz55_2, hfz55_2⟩ := hkc3 BK384) | ((with_reducible refine gate_callee (f := 118) rfl ?_); refine hkGo (N := some 78) Tryd.func118 #[.bool a0_0] ?_; (with_reducible refine (spec_l5most.calls a0_0 t396 t397 t398 t399 _ A49.out).mono ?_); rintro e w56 ⟨rfl, hb⟩; refine ⟨_, rfl, ?_⟩; have n_ := hkA (Aside0.mk (Kd.V_below (by (with_reducible repeat (first | apply Kd.V_alloc | apply Kd.V_drewN | apply Kd.V_drew)); exact HO_394001.out) hb)) (hkA (hkBb BK384 hb) (hkA (hkBb BK385 hb) (hkA (hkBb BK393 hb) (hkU HB hb)))); clear HO_394001 BK384 BK385 BK393 HB; obtain ⟨HO_394001, BK384, BK385, BK393, HB⟩ := n_; (try clear hb); obtain ⟨hcz57_0, hfz57_0, hcz57_1, hfz57_1, hcz57_2, hfz57_2, hcz57_3, hfz57_3⟩ := hkc4 BK385))
         refine bodyPost_ret (results_ct rfl _ _ gb385 33 #[.int .i64 t396, .bool t397, .int .i64 t398, .int .i64 t399] (0, 0) _ rfl hkPp Tryd.underlying33 rfl (by kernel_rfl)) rfl ?_
         exact ⟨hkE, hkS HB⟩
        ·rw [if_neg c48] at H
         have c48b0 : (a1 == 1) = false := beq_eq_false_iff_ne.mpr c48
         have c48b1 : (a1 != 1) = true := bne_iff_ne.mpr c48
         by_cases c58 : a1 = 2
         ·rw [if_pos c58] at H
          have c58b0 : (a1 == 2) = true := beq_iff_eq.mpr c58
          have c58b1 : (a1 != 2) = false := bne_eq_false_iff_eq.mpr c58
          clear c58
          by_cases c59 : a0_0 = true
          ·subst c59
           have H1 : ((spec_l5most.f true).bind fun bt400 => (some (bt400.1, bt400.2.1, bt400.2.2.1, bt400.2.2.2, 3))) = some (r1, r2, r3, r4, r5) := by rw [if_pos rfl] at H; exact H
           clear H
           have H := H1
           clear H1
           replace H := hBi H
           obtain ⟨⟨t400, t401, t402, t403⟩, A600, H⟩ := H
           replace H : (some (t400, t401, t402, t403, 3)) = some (r1, r2, r3, r4, r5) := H
           have A60 := Aside0.mk A600
           clear A600
           simp only [Option.some.injEq, Prod.mk.injEq] at H
           obtain ⟨rfl, rfl, rfl, rfl, rfl⟩ := H
           have hnb61 := NB393_384.out
           have hnc61 := NB384_393.out
           have hnb62 := NB393_385.out
           have hnc62 := NB385_393.out
           obtain ⟨hcz63_0, hfz63_0, hcz63_1, hfz63_1, hcz63_2, hfz63_2⟩ := hkc3 BK393
           go_wp2_with (first | ((with_reducible refine gate_callee (f := 143) rfl ?_); refine hkGo (N := some 52) Tryd.func143 #[.agg #[.bool t387, .slice Ao27 t388.length co27, .int .i64 t391]] ?_; (with_reducible refine (spec_l4top.calls kj18 t387 _ _ t388 t391 t395 _ ?side1 ?side2 A46.out).mono ?_); (case side1 => exact hkC ((Kd.V_reads' HO_394001.out).2.2)); (case side2 => exact (Kd.V_reads' HO_394001.out).2.1); rintro e w64 ⟨rfl, hb⟩; refine ⟨_, rfl, ?_⟩; have n_ := hkA (Aside0.mk (Kd.V_below (by (with_reducible repeat (first | apply Kd.V_alloc | apply Kd.V_drewN | apply Kd.V_drew)); exact HO_394001.out) hb)) (hkA (hkBb BK384 hb) (hkA (hkBb BK385 hb) (hkA (hkBb BK393 hb) (hkU HB hb)))); clear HO_394001 BK384 BK385 BK393 HB; obtain ⟨HO_394001, BK384, BK385, BK393, HB⟩ := n_; (try clear hb); have hnb65 := NB384_385.out; have hnc65 := NB385_384.out; obtain ⟨hcz66_0, hfz66_0, hcz66_1, hfz66_1, hcz66_2, hfz66_2⟩ := hkc3 BK384) | ((with_reducible refine gate_callee (f := 118) rfl ?_); refine hkGo (N := some 78) Tryd.func118 #[.bool true] ?_; (with_reducible refine (spec_l5most.calls true t400 t401 t402 t403 _ A60.out).mono ?_); rintro e w67 ⟨rfl, hb⟩; refine ⟨_, rfl, ?_⟩; have n_ := hkA (Aside0.mk (Kd.V_below (by (with_reducible repeat (first | apply Kd.V_alloc | apply Kd.V_drewN | apply Kd.V_drew)); exact HO_394001.out) hb)) (hkA (hkBb BK384 hb) (hkA (hkBb BK385 hb) (hkA (hkBb BK393 hb) (hkU HB hb)))); clear HO_394001 BK384 BK385 BK393 HB; obtain ⟨HO_394001, BK384, BK385, BK393, HB⟩ := n_; (try clear hb); obtain ⟨hcz68_0, hfz68_0, hcz68_1, hfz68_1, hcz68_2, hfz68_2, hcz68_3, hfz68_3⟩ := hkc4 BK385))
           refine bodyPost_ret (results_ct rfl _ _ gb385 33 #[.int .i64 t400, .bool t401, .int .i64 t402, .int .i64 t403] (0, 0) _ rfl hkPp Tryd.underlying33 rfl (by kernel_rfl)) rfl ?_
           exact ⟨hkE, hkS HB⟩
          ·replace c59 := Bool.eq_false_iff.mpr c59
           subst c59
           have H1 : (if a1 = 3 then ((spec_l5most.f false).bind fun bt404 => (some (bt404.1, bt404.2.1, bt404.2.2.1, bt404.2.2.2, 3))) else (some (2, false, 0, 0, 3))) = some (r1, r2, r3, r4, r5) := by rw [if_neg (show ¬ (false = true) by decide)] at H; exact H
           clear H
           have H := H1
           clear H1
           by_cases c69 : a1 = 3
           ·rw [if_pos c69] at H
            have c69b0 : (a1 == 3) = true := beq_iff_eq.mpr c69
            have c69b1 : (a1 != 3) = false := bne_eq_false_iff_eq.mpr c69
            clear c69
            replace H := hBi H
            obtain ⟨⟨t404, t405, t406, t407⟩, A700, H⟩ := H
            replace H : (some (t404, t405, t406, t407, 3)) = some (r1, r2, r3, r4, r5) := H
            have A70 := Aside0.mk A700
            clear A700
            simp only [Option.some.injEq, Prod.mk.injEq] at H
            obtain ⟨rfl, rfl, rfl, rfl, rfl⟩ := H
            have hnb71 := NB393_384.out
            have hnc71 := NB384_393.out
            have hnb72 := NB393_385.out
            have hnc72 := NB385_393.out
            obtain ⟨hcz73_0, hfz73_0, hcz73_1, hfz73_1, hcz73_2, hfz73_2⟩ := hkc3 BK393
            go_wp2_with (first | ((with_reducible refine gate_callee (f := 143) rfl ?_); refine hkGo (N := some 52) Tryd.func143 #[.agg #[.bool t387, .slice Ao27 t388.length co27, .int .i64 t391]] ?_; (with_reducible refine (spec_l4top.calls kj18 t387 _ _ t388 t391 t395 _ ?side1 ?side2 A46.out).mono ?_); (case side1 => exact hkC ((Kd.V_reads' HO_394001.out).2.2)); (case side2 => exact (Kd.V_reads' HO_394001.out).2.1); rintro e w74 ⟨rfl, hb⟩; refine ⟨_, rfl, ?_⟩; have n_ := hkA (Aside0.mk (Kd.V_below (by (with_reducible repeat (first | apply Kd.V_alloc | apply Kd.V_drewN | apply Kd.V_drew)); exact HO_394001.out) hb)) (hkA (hkBb BK384 hb) (hkA (hkBb BK385 hb) (hkA (hkBb BK393 hb) (hkU HB hb)))); clear HO_394001 BK384 BK385 BK393 HB; obtain ⟨HO_394001, BK384, BK385, BK393, HB⟩ := n_; (try clear hb); have hnb75 := NB384_385.out; have hnc75 := NB385_384.out; obtain ⟨hcz76_0, hfz76_0, hcz76_1, hfz76_1, hcz76_2, hfz76_2⟩ := hkc3 BK384) | ((with_reducible refine gate_callee (f := 118) rfl ?_); refine hkGo (N := some 78) Tryd.func118 #[.bool false] ?_; (with_reducible refine (spec_l5most.calls false t404 t405 t406 t407 _ A70.out).mono ?_); rintro e w77 ⟨rfl, hb⟩; refine ⟨_, rfl, ?_⟩; have n_ := hkA (Aside0.mk (Kd.V_below (by (with_reducible repeat (first | apply Kd.V_alloc | apply Kd.V_drewN | apply Kd.V_drew)); exact HO_394001.out) hb)) (hkA (hkBb BK384 hb) (hkA (hkBb BK385 hb) (hkA (hkBb BK393 hb) (hkU HB hb)))); clear HO_394001 BK384 BK385 BK393 HB; obtain ⟨HO_394001, BK384, BK385, BK393, HB⟩ := n_; (try clear hb); obtain ⟨hcz78_0, hfz78_0, hcz78_1, hfz78_1, hcz78_2, hfz78_2, hcz78_3, hfz78_3⟩ := hkc4 BK385))
            refine bodyPost_ret (results_ct rfl _ _ gb385 33 #[.int .i64 t404, .bool t405, .int .i64 t406, .int .i64 t407] (0, 0) _ rfl hkPp Tryd.underlying33 rfl (by kernel_rfl)) rfl ?_
            exact ⟨hkE, hkS HB⟩
           ·rw [if_neg c69] at H
            have c69b0 : (a1 == 3) = false := beq_eq_false_iff_ne.mpr c69
            have c69b1 : (a1 != 3) = true := bne_iff_ne.mpr c69
            simp only [Option.some.injEq, Prod.mk.injEq] at H
            obtain ⟨rfl, rfl, rfl, rfl, rfl⟩ := H
            have hnb79 := NB393_384.out
            have hnc79 := NB384_393.out
            have hnb80 := NB393_385.out
            have hnc80 := NB385_393.out
            obtain ⟨hcz81_0, hfz81_0, hcz81_1, hfz81_1, hcz81_2, hfz81_2⟩ := hkc3 BK393
            go_wp2_with (first | ((with_reducible refine gate_callee (f := 143) rfl ?_); refine hkGo (N := some 52) Tryd.func143 #[.agg #[.bool t387, .slice Ao27 t388.length co27, .int .i64 t391]] ?_; (with_reducible refine (spec_l4top.calls kj18 t387 _ _ t388 t391 t395 _ ?side1 ?side2 A46.out).mono ?_); (case side1 => exact hkC ((Kd.V_reads' HO_394001.out).2.2)); (case side2 => exact (Kd.V_reads' HO_394001.out).2.1); rintro e w82 ⟨rfl, hb⟩; refine ⟨_, rfl, ?_⟩; have n_ := hkA (Aside0.mk (Kd.V_below (by (with_reducible repeat (first | apply Kd.V_alloc | apply Kd.V_drewN | apply Kd.V_drew)); exact HO_394001.out) hb)) (hkA (hkBb BK384 hb) (hkA (hkBb BK385 hb) (hkA (hkBb BK393 hb) (hkU HB hb)))); clear HO_394001 BK384 BK385 BK393 HB; obtain ⟨HO_394001, BK384, BK385, BK393, HB⟩ := n_; (try clear hb); have hnb83 := NB384_385.out; have hnc83 := NB385_384.out; obtain ⟨hcz84_0, hfz84_0, hcz84_1, hfz84_1, hcz84_2, hfz84_2⟩ := hkc3 BK384; obtain ⟨hcz85_0, hfz85_0, hcz85_1, hfz85_1, hcz85_2, hfz85_2, hcz85_3, hfz85_3⟩ := hkc4 BK385))
            refine bodyPost_ret (results_ct rfl _ _ gb385 33 #[.int .i64 2, .bool false, .int .i64 0, .int .i64 0] (0, 0) _ rfl hkPp Tryd.underlying33 rfl (by kernel_rfl)) rfl ?_
            exact ⟨hkE, hkS HB⟩
         ·rw [if_neg c58] at H
          have c58b0 : (a1 == 2) = false := beq_eq_false_iff_ne.mpr c58
          have c58b1 : (a1 != 2) = true := bne_iff_ne.mpr c58
          by_cases c86 : a1 = 3
          ·rw [if_pos c86] at H
           have c86b0 : (a1 == 3) = true := beq_iff_eq.mpr c86
           have c86b1 : (a1 != 3) = false := bne_eq_false_iff_eq.mpr c86
           clear c86
           by_cases c87 : a0_0 = true
           ·subst c87
            have H1 : (some (2, true, 0, 0, 3)) = some (r1, r2, r3, r4, r5) := by rw [if_pos rfl] at H; exact H
            clear H
            have H := H1
            clear H1
            simp only [Option.some.injEq, Prod.mk.injEq] at H
            obtain ⟨rfl, rfl, rfl, rfl, rfl⟩ := H
            have hnb88 := NB393_384.out
            have hnc88 := NB384_393.out
            have hnb89 := NB393_385.out
            have hnc89 := NB385_393.out
            obtain ⟨hcz90_0, hfz90_0, hcz90_1, hfz90_1, hcz90_2, hfz90_2⟩ := hkc3 BK393
            go_wp2_with (first | ((with_reducible refine gate_callee (f := 143) rfl ?_); refine hkGo (N := some 52) Tryd.func143 #[.agg #[.bool t387, .slice Ao27 t388.length co27, .int .i64 t391]] ?_; (with_reducible refine (spec_l4top.calls kj18 t387 _ _ t388 t391 t395 _ ?side1 ?side2 A46.out).mono ?_); (case side1 => exact hkC ((Kd.V_reads' HO_394001.out).2.2)); (case side2 => exact (Kd.V_reads' HO_394001.out).2.1); rintro e w91 ⟨rfl, hb⟩; refine ⟨_, rfl, ?_⟩; have n_ := hkA (Aside0.mk (Kd.V_below (by (with_reducible repeat (first | apply Kd.V_alloc | apply Kd.V_drewN | apply Kd.V_drew)); exact HO_394001.out) hb)) (hkA (hkBb BK384 hb) (hkA (hkBb BK385 hb) (hkA (hkBb BK393 hb) (hkU HB hb)))); clear HO_394001 BK384 BK385 BK393 HB; obtain ⟨HO_394001, BK384, BK385, BK393, HB⟩ := n_; (try clear hb); have hnb92 := NB384_385.out; have hnc92 := NB385_384.out; obtain ⟨hcz93_0, hfz93_0, hcz93_1, hfz93_1, hcz93_2, hfz93_2⟩ := hkc3 BK384; obtain ⟨hcz94_0, hfz94_0, hcz94_1, hfz94_1, hcz94_2, hfz94_2, hcz94_3, hfz94_3⟩ := hkc4 BK385))
            refine bodyPost_ret (results_ct rfl _ _ gb385 33 #[.int .i64 2, .bool true, .int .i64 0, .int .i64 0] (0, 0) _ rfl hkPp Tryd.underlying33 rfl (by kernel_rfl)) rfl ?_
            exact ⟨hkE, hkS HB⟩
           ·replace c87 := Bool.eq_false_iff.mpr c87
            subst c87
            have H1 : ((spec_l5most.f false).bind fun bt408 => (some (bt408.1, bt408.2.1, bt408.2.2.1, bt408.2.2.2, 3))) = some (r1, r2, r3, r4, r5) := by rw [if_neg (show ¬ (false = true) by decide)] at H; exact H
            clear H
            have H := H1
            clear H1
            replace H := hBi H
            obtain ⟨⟨t408, t409, t410, t411⟩, A950, H⟩ := H
            replace H : (some (t408, t409, t410, t411, 3)) = some (r1, r2, r3, r4, r5) := H
            have A95 := Aside0.mk A950
            clear A950
            simp only [Option.some.injEq, Prod.mk.injEq] at H
            obtain ⟨rfl, rfl, rfl, rfl, rfl⟩ := H
            have hnb96 := NB393_384.out
            have hnc96 := NB384_393.out
            have hnb97 := NB393_385.out
            have hnc97 := NB385_393.out
            obtain ⟨hcz98_0, hfz98_0, hcz98_1, hfz98_1, hcz98_2, hfz98_2⟩ := hkc3 BK393
            go_wp2_with (first | ((with_reducible refine gate_callee (f := 143) rfl ?_); refine hkGo (N := some 52) Tryd.func143 #[.agg #[.bool t387, .slice Ao27 t388.length co27, .int .i64 t391]] ?_; (with_reducible refine (spec_l4top.calls kj18 t387 _ _ t388 t391 t395 _ ?side1 ?side2 A46.out).mono ?_); (case side1 => exact hkC ((Kd.V_reads' HO_394001.out).2.2)); (case side2 => exact (Kd.V_reads' HO_394001.out).2.1); rintro e w99 ⟨rfl, hb⟩; refine ⟨_, rfl, ?_⟩; have n_ := hkA (Aside0.mk (Kd.V_below (by (with_reducible repeat (first | apply Kd.V_alloc | apply Kd.V_drewN | apply Kd.V_drew)); exact HO_394001.out) hb)) (hkA (hkBb BK384 hb) (hkA (hkBb BK385 hb) (hkA (hkBb BK393 hb) (hkU HB hb)))); clear HO_394001 BK384 BK385 BK393 HB; obtain ⟨HO_394001, BK384, BK385, BK393, HB⟩ := n_; (try clear hb); have hnb100 := NB384_385.out; have hnc100 := NB385_384.out; obtain ⟨hcz101_0, hfz101_0, hcz101_1, hfz101_1, hcz101_2, hfz101_2⟩ := hkc3 BK384) | ((with_reducible refine gate_callee (f := 118) rfl ?_); refine hkGo (N := some 78) Tryd.func118 #[.bool false] ?_; (with_reducible refine (spec_l5most.calls false t408 t409 t410 t411 _ A95.out).mono ?_); rintro e w102 ⟨rfl, hb⟩; refine ⟨_, rfl, ?_⟩; have n_ := hkA (Aside0.mk (Kd.V_below (by (with_reducible repeat (first | apply Kd.V_alloc | apply Kd.V_drewN | apply Kd.V_drew)); exact HO_394001.out) hb)) (hkA (hkBb BK384 hb) (hkA (hkBb BK385 hb) (hkA (hkBb BK393 hb) (hkU HB hb)))); clear HO_394001 BK384 BK385 BK393 HB; obtain ⟨HO_394001, BK384, BK385, BK393, HB⟩ := n_; (try clear hb); obtain ⟨hcz103_0, hfz103_0, hcz103_1, hfz103_1, hcz103_2, hfz103_2, hcz103_3, hfz103_3⟩ := hkc4 BK385))
            refine bodyPost_ret (results_ct rfl _ _ gb385 33 #[.int .i64 t408, .bool t409, .int .i64 t410, .int .i64 t411] (0, 0) _ rfl hkPp Tryd.underlying33 rfl (by kernel_rfl)) rfl ?_
            exact ⟨hkE, hkS HB⟩
          ·rw [if_neg c86] at H
           have c86b0 : (a1 == 3) = false := beq_eq_false_iff_ne.mpr c86
           have c86b1 : (a1 != 3) = true := bne_iff_ne.mpr c86
           simp only [Option.some.injEq, Prod.mk.injEq] at H
           obtain ⟨rfl, rfl, rfl, rfl, rfl⟩ := H
           have hnb104 := NB393_384.out
           have hnc104 := NB384_393.out
           have hnb105 := NB393_385.out
           have hnc105 := NB385_393.out
           obtain ⟨hcz106_0, hfz106_0, hcz106_1, hfz106_1, hcz106_2, hfz106_2⟩ := hkc3 BK393
           go_wp2_with (first | ((with_reducible refine gate_callee (f := 143) rfl ?_); refine hkGo (N := some 52) Tryd.func143 #[.agg #[.bool t387, .slice Ao27 t388.length co27, .int .i64 t391]] ?_; (with_reducible refine (spec_l4top.calls kj18 t387 _ _ t388 t391 t395 _ ?side1 ?side2 A46.out).mono ?_); (case side1 => exact hkC ((Kd.V_reads' HO_394001.out).2.2)); (case side2 => exact (Kd.V_reads' HO_394001.out).2.1); rintro e w107 ⟨rfl, hb⟩; refine ⟨_, rfl, ?_⟩; have n_ := hkA (Aside0.mk (Kd.V_below (by (with_reducible repeat (first | apply Kd.V_alloc | apply Kd.V_drewN | apply Kd.V_drew)); exact HO_394001.out) hb)) (hkA (hkBb BK384 hb) (hkA (hkBb BK385 hb) (hkA (hkBb BK393 hb) (hkU HB hb)))); clear HO_394001 BK384 BK385 BK393 HB; obtain ⟨HO_394001, BK384, BK385, BK393, HB⟩ := n_; (try clear hb); have hnb108 := NB384_385.out; have hnc108 := NB385_384.out; obtain ⟨hcz109_0, hfz109_0, hcz109_1, hfz109_1, hcz109_2, hfz109_2⟩ := hkc3 BK384; obtain ⟨hcz110_0, hfz110_0, hcz110_1, hfz110_1, hcz110_2, hfz110_2, hcz110_3, hfz110_3⟩ := hkc4 BK385))
           refine bodyPost_ret (results_ct rfl _ _ gb385 33 #[.int .i64 2, .bool a0_0, .int .i64 0, .int .i64 0] (0, 0) _ rfl hkPp Tryd.underlying33 rfl (by kernel_rfl)) rfl ?_
           exact ⟨hkE, hkS HB⟩
       ·rw [if_neg c47] at H
        have c47b0 : decide (1024 < t395) = false := decide_eq_false c47
        clear c47
        replace H := hBi H
        obtain ⟨t412, A1110, H⟩ := H
        replace H : (if (wrap64 (t412 - 53)) < (-1074) then ((spec_l2shl.f kj18 t388 (wrap64 (t391 - (-1074)))).bind fun t413 => ((spec_l2int.f kj18 t413).bind fun t416 => (some (1, t387, t416, (-1074), x11_18)))) else ((spec_l2shl.f kj18 t388 (wrap64 (t391 - (wrap64 (t412 - 53))))).bind fun t417 => ((spec_l2int.f kj18 t417).bind fun t420 => (some (1, t387, t420, wrap64 (t412 - 53), x11_18))))) = some (r1, r2, r3, r4, r5) := H
        have A111 := Aside0.mk A1110
        clear A1110
        by_cases c112 : (wrap64 (t412 - 53)) < (-1074)
        ·rw [if_pos c112] at H
         have c112b0 : decide ((wrap64 (t412 - 53)) < (-1074)) = true := decide_eq_true c112
         clear c112
         replace H := hBi H
         obtain ⟨t413, A1130, H⟩ := H
         replace H : ((spec_l2int.f kj18 t413).bind fun t416 => (some (1, t387, t416, (-1074), x11_18))) = some (r1, r2, r3, r4, r5) := H
         have A113 := Aside0.mk A1130
         clear A1130
         replace H := hBi H
         obtain ⟨t416, A1140, H⟩ := H
         replace H : (some (1, t387, t416, (-1074), x11_18)) = some (r1, r2, r3, r4, r5) := H
         have A114 := Aside0.mk A1140
         clear A1140
         simp only [Option.some.injEq, Prod.mk.injEq] at H
         obtain ⟨rfl, rfl, rfl, rfl, rfl⟩ := H
         have hnb115 := NB393_384.out
         have hnc115 := NB384_393.out
         have hnb116 := NB393_385.out
         have hnc116 := NB385_393.out
         obtain ⟨hcz117_0, hfz117_0, hcz117_1, hfz117_1, hcz117_2, hfz117_2⟩ := hkc3 BK393
         try go_wp2_with (first | ((with_reducible refine gate_callee (f := 143) rfl ?_); refine hkGo (N := some 52) Tryd.func143 #[.agg #[.bool t387, .slice Ao27 t388.length co27, .int .i64 t391]] ?_; (with_reducible refine (spec_l4top.calls kj18 t387 _ _ t388 t391 t395 _ ?side1 ?side2 A46.out).mono ?_); (case side1 => exact hkC ((Kd.V_reads' HO_394001.out).2.2)); (case side2 => exact (Kd.V_reads' HO_394001.out).2.1); rintro e w118 ⟨rfl, hb⟩; refine ⟨_, rfl, ?_⟩; have n_ := hkA (Aside0.mk (Kd.V_below (by (with_reducible repeat (first | apply Kd.V_alloc | apply Kd.V_drewN | apply Kd.V_drew)); exact HO_394001.out) hb)) (hkA (hkBb BK384 hb) (hkA (hkBb BK385 hb) (hkA (hkBb BK393 hb) (hkU HB hb)))); clear HO_394001 BK384 BK385 BK393 HB; obtain ⟨HO_394001, BK384, BK385, BK393, HB⟩ := n_; (try clear hb); obtain ⟨hcz119_0, hfz119_0, hcz119_1, hfz119_1, hcz119_2, hfz119_2⟩ := hkc3 BK393) | ((with_reducible refine gate_callee (f := 143) rfl ?_); refine hkGo (N := some 86) Tryd.func143 #[.agg #[.bool t387, .slice Ao27 t388.length co27, .int .i64 t391]] ?_; (with_reducible refine (spec_l4top.calls kj18 t387 _ _ t388 t391 t412 _ ?side1 ?side2 A111.out).mono ?_); (case side1 => exact hkC ((Kd.V_reads' HO_394001.out).2.2)); (case side2 => exact (Kd.V_reads' HO_394001.out).2.1); rintro e w120 ⟨rfl, hb⟩; refine ⟨_, rfl, ?_⟩; have n_ := hkA (Aside0.mk (Kd.V_below (by (with_reducible repeat (first | apply Kd.V_alloc | apply Kd.V_drewN | apply Kd.V_drew)); exact HO_394001.out) hb)) (hkA (hkBb BK384 hb) (hkA (hkBb BK385 hb) (hkA (hkBb BK393 hb) (hkU HB hb)))); clear HO_394001 BK384 BK385 BK393 HB; obtain ⟨HO_394001, BK384, BK385, BK393, HB⟩ := n_; (try clear hb)))
         have n_ := hkA (Aside0.mk (Kd.V_drew HO_394001.out)) (hkA (Aside0.mk (blk_drew BK384.out)) (hkA (Aside0.mk (blk_drew BK385.out)) (hkA (Aside0.mk (blk_drew BK393.out)) (Aside0.mk (below_drew1 HB.out)))))
         clear HO_394001 BK384 BK385 BK393 HB
         obtain ⟨HO_394001, BK384, BK385, BK393, HB⟩ := n_
         refine start_ (n := 17) (S := fun w' => w'.cell? ⟨gb393, 0, none⟩ = some (.bool t387) ∧ w'.cell? ⟨gb393, 1, none⟩ = some (.slice Ao27 t388.length co27) ∧ w'.cell? ⟨gb393, 2, none⟩ = some (.int .i64 t391)) (ds := []) #[false, false, false, false, false, false, false, false, false, false, false, false, false, false, false, false, false] (by kernel_rfl) rfl rfl ⟨(blk_cell BK393.out 0).trans rfl, (blk_cell BK393.out 1).trans rfl, (blk_cell BK393.out 2).trans rfl⟩ (fun hHeld => ?_); refine with_tabW spec_l5round.tab22 spec_l5round.bits22 (fun HT_ HW_ => ?_)
         generalize w120.drew = w121 at HO_394001 BK384 BK385 BK393 HB hHeld ⊢
         refine hkPt (i := 0) (N := some 90) HT_ ?_
         refine hkPt (i := 1) (N := some 91) HT_ ?_
         refine hkPt (i := 3) (N := some 93) HT_ ?_
         refine hkPt (i := 4) (N := some 94) HT_ ?_
         refine hkPt (i := 6) (N := some 96) HT_ ?_
         refine hkPt (i := 8) (N := some 98) HT_ ?_
         refine hkPt (i := 12) (N := some 102) HT_ ?_
         refine hkPt (i := 14) (N := some 104) HT_ ?_
         refine hkTt (i := 2) (N := some 92) HT_ HW_ hHeld ?_ (hy := by rintro w' ⟨s0, s1, s2⟩; go_simp; with_reducible rfl)
         refine hkTt (i := 5) (N := some 95) HT_ HW_ hHeld ?_ (hy := by rintro w' ⟨s0, s1, s2⟩; go_simp; with_reducible rfl)
         refine hkTt (i := 7) (N := some 97) HT_ HW_ hHeld ?_ (hy := by rintro w' ⟨s0, s1, s2⟩; go_simp; with_reducible rfl)
         refine hkPt (i := 9) (N := some 99) HT_ ?_
         refine one_ (i := 10) (N := some 100) #[true, true, true, true, true, true, true, true, true, true, true, false, true, false, true, false, false] rfl rfl (one_of HT_.out (by kernel_rfl)) (by decide) (fun K hK => ?_)
         refine goes_ Tryd.func123 (by kernel_rfl) rfl #[.agg #[.slice Ao27 t388.length co27], .int .i64 (wrap64 (t391 - (-1074)))] (by rfl) rfl rfl hkL ?_
         with_reducible refine (spec_l2shl.calls kj18 _ _ t388 (wrap64 (t391 - (-1074))) t413 _ ?side1 ?side2 A113.out).mono ?_
         (case side1 => exact hkC ((Kd.V_reads' HO_394001.out).2.2))
         (case side2 => exact (Kd.V_reads' HO_394001.out).2.1)
         rintro e w122 ⟨v414, rfl, ho0, hb⟩
         refine ⟨_, rfl, ?_⟩
         have n_ := hkA (Aside0.mk (Kd.V_elder' (by (with_reducible repeat (first | apply Kd.V_alloc | apply Kd.V_drewN | apply Kd.V_drew)); exact HO_394001.out) (Kd.R_base ho0) hb)) (hkA (Aside0.mk (Kd.R_lower ho0 (below_size (hkS HB)))) (hkA (hkBb BK384 hb) (hkA (hkBb BK385 hb) (hkA (hkBb BK393 hb) (hkU HB hb)))))
         clear HO_394001 BK384 BK385 BK393 HB
         obtain ⟨HO_394001, HO415, BK384, BK385, BK393, HB⟩ := n_
         (try clear hb); (try clear ho0)
         obtain ⟨Ao123, co123, eo123⟩ := Kd.R_slice HO415.out
         (first | subst eo123 | (injection eo123 with f1_ f2_ f3_; have f4_ := f1_.symm; have f5_ := f3_.symm; clear f1_ f2_ f3_; subst f4_; subst f5_))
         refine hK.out _ _ ⟨(blk_cell BK393.out 0).trans rfl, (blk_cell BK393.out 1).trans rfl, (blk_cell BK393.out 2).trans rfl⟩ (fun hHeld => ?_)
         clear hK K
         refine hkNo (N := some 100) ?_
         refine one_ (i := 11) (N := some 101) #[true, true, true, true, true, true, true, true, true, true, true, true, true, false, true, false, false] rfl rfl (one_of HT_.out (by kernel_rfl)) (by decide) (fun K hK => ?_)
         refine goes_ Tryd.func145 (by kernel_rfl) rfl #[.agg #[.slice Ao123 t413.length co123]] (by rfl) rfl rfl hkL ?_
         with_reducible refine (spec_l2int.calls kj18 _ _ t413 t416 _ ?side1 ?side2 A114.out).mono ?_
         (case side1 => exact hkC ((Kd.R_reads' HO415.out).2.2))
         (case side2 => exact (Kd.R_reads' HO415.out).2.1)
         rintro e w124 ⟨rfl, hb⟩
         refine ⟨_, rfl, ?_⟩
         have n_ := hkA (Aside0.mk (Kd.V_below (by (with_reducible repeat (first | apply Kd.V_alloc | apply Kd.V_drewN | apply Kd.V_drew)); exact HO_394001.out) hb)) (hkA (hkRb HO415 hb) (hkA (hkBb BK384 hb) (hkA (hkBb BK385 hb) (hkA (hkBb BK393 hb) (hkU HB hb)))))
         clear HO_394001 HO415 BK384 BK385 BK393 HB
         obtain ⟨HO_394001, HO415, BK384, BK385, BK393, HB⟩ := n_
         (try clear hb)
         refine hK.out _ _ ⟨(blk_cell BK393.out 0).trans rfl, (blk_cell BK393.out 1).trans rfl, (blk_cell BK393.out 2).trans rfl⟩ (fun hHeld => ?_)
         clear hK K
         refine hkNo (N := some 101) ?_
         refine hkPt (i := 13) (N := some 103) HT_ ?_
         refine one_ (i := 15) (N := none) #[true, true, true, true, true, true, true, true, true, true, true, true, true, true, true, true, false] rfl rfl (one_of HT_.out (by kernel_rfl)) (by decide) (fun K hK => ?_)
         have hs125 : w124.cell? ⟨gb385, 0, none⟩ = some (.int .i64 0) := (blk_cell BK385.out 0).trans rfl
         have hfs125 := blk_frozen BK385.out 0
         have hns125_0 := NB384_385.out
         have hns125_2 := NB393_385.out
         have hms125_0 := NB385_384.out
         have hms125_2 := NB385_393.out
         have hs126 : w124.cell? ⟨gb385, 1, none⟩ = some (.bool false) := (blk_cell BK385.out 1).trans rfl
         have hfs126 := blk_frozen BK385.out 1
         have hns126_0 := NB384_385.out
         have hns126_2 := NB393_385.out
         have hms126_0 := NB385_384.out
         have hms126_2 := NB385_393.out
         have hs127 : w124.cell? ⟨gb385, 2, none⟩ = some (.int .i64 0) := (blk_cell BK385.out 2).trans rfl
         have hfs127 := blk_frozen BK385.out 2
         have hns127_0 := NB384_385.out
         have hns127_2 := NB393_385.out
         have hms127_0 := NB385_384.out
         have hms127_2 := NB385_393.out
         have hs128 : w124.cell? ⟨gb385, 3, none⟩ = some (.int .i64 0) := (blk_cell BK385.out 3).trans rfl
         have hfs128 := blk_frozen BK385.out 3
         have hns128_0 := NB384_385.out
         have hns128_2 := NB393_385.out
         have hms128_0 := NB385_384.out
         have hms128_2 := NB385_393.out
         refine skip_ (w1 := ?_) (by rfl) rfl ?_ ?_
         rotate_left
         ·go_simp
          rfl
         refine hK.out _ _ ⟨((cell_far (p := ⟨gb385, _, none⟩) NB393_385.out _).trans (((cell_far (p := ⟨gb385, _, none⟩) NB393_385.out _).trans (((cell_far (p := ⟨gb385, _, none⟩) NB393_385.out _).trans (((cell_far (p := ⟨gb385, _, none⟩) NB393_385.out _).trans (hHeld.1)))))))), ((cell_far (p := ⟨gb385, _, none⟩) NB393_385.out _).trans (((cell_far (p := ⟨gb385, _, none⟩) NB393_385.out _).trans (((cell_far (p := ⟨gb385, _, none⟩) NB393_385.out _).trans (((cell_far (p := ⟨gb385, _, none⟩) NB393_385.out _).trans (hHeld.2.1)))))))), ((cell_far (p := ⟨gb385, _, none⟩) NB393_385.out _).trans (((cell_far (p := ⟨gb385, _, none⟩) NB393_385.out _).trans (((cell_far (p := ⟨gb385, _, none⟩) NB393_385.out _).trans (((cell_far (p := ⟨gb385, _, none⟩) NB393_385.out _).trans (hHeld.2.2))))))))⟩ (fun hHeld => ?_)
         clear hK K
         refine hkPt (i := 16) (N := some 7) HT_ ?_
         refine done_ (done_of HT_.out (by kernel_rfl)) ?_
         try go_wp2
         refine bodyPost_ret (results_ct rfl _ _ gb385 33 #[.int .i64 1, .bool t387, .int .i64 t416, .int .i64 (-1074)] (0, 0) _ rfl hkPp Tryd.underlying33 rfl (by kernel_rfl)) rfl ?_
         exact ⟨hkE, hkS HB⟩
        ·rw [if_neg c112] at H
         have c112b0 : decide ((wrap64 (t412 - 53)) < (-1074)) = false := decide_eq_false c112
         clear c112
         replace H := hBi H
         obtain ⟨t417, A1290, H⟩ := H
         replace H : ((spec_l2int.f kj18 t417).bind fun t420 => (some (1, t387, t420, wrap64 (t412 - 53), x11_18))) = some (r1, r2, r3, r4, r5) := H
         have A129 := Aside0.mk A1290
         clear A1290
         replace H := hBi H
         obtain ⟨t420, A1300, H⟩ := H
         replace H : (some (1, t387, t420, wrap64 (t412 - 53), x11_18)) = some (r1, r2, r3, r4, r5) := H
         have A130 := Aside0.mk A1300
         clear A1300
         simp only [Option.some.injEq, Prod.mk.injEq] at H
         obtain ⟨rfl, rfl, rfl, rfl, rfl⟩ := H
         have hnb131 := NB393_384.out
         have hnc131 := NB384_393.out
         have hnb132 := NB393_385.out
         have hnc132 := NB385_393.out
         obtain ⟨hcz133_0, hfz133_0, hcz133_1, hfz133_1, hcz133_2, hfz133_2⟩ := hkc3 BK393
         try go_wp2_with (first | ((with_reducible refine gate_callee (f := 143) rfl ?_); refine hkGo (N := some 52) Tryd.func143 #[.agg #[.bool t387, .slice Ao27 t388.length co27, .int .i64 t391]] ?_; (with_reducible refine (spec_l4top.calls kj18 t387 _ _ t388 t391 t395 _ ?side1 ?side2 A46.out).mono ?_); (case side1 => exact hkC ((Kd.V_reads' HO_394001.out).2.2)); (case side2 => exact (Kd.V_reads' HO_394001.out).2.1); rintro e w134 ⟨rfl, hb⟩; refine ⟨_, rfl, ?_⟩; have n_ := hkA (Aside0.mk (Kd.V_below (by (with_reducible repeat (first | apply Kd.V_alloc | apply Kd.V_drewN | apply Kd.V_drew)); exact HO_394001.out) hb)) (hkA (hkBb BK384 hb) (hkA (hkBb BK385 hb) (hkA (hkBb BK393 hb) (hkU HB hb)))); clear HO_394001 BK384 BK385 BK393 HB; obtain ⟨HO_394001, BK384, BK385, BK393, HB⟩ := n_; (try clear hb); obtain ⟨hcz135_0, hfz135_0, hcz135_1, hfz135_1, hcz135_2, hfz135_2⟩ := hkc3 BK393) | ((with_reducible refine gate_callee (f := 143) rfl ?_); refine hkGo (N := some 86) Tryd.func143 #[.agg #[.bool t387, .slice Ao27 t388.length co27, .int .i64 t391]] ?_; (with_reducible refine (spec_l4top.calls kj18 t387 _ _ t388 t391 t412 _ ?side1 ?side2 A111.out).mono ?_); (case side1 => exact hkC ((Kd.V_reads' HO_394001.out).2.2)); (case side2 => exact (Kd.V_reads' HO_394001.out).2.1); rintro e w136 ⟨rfl, hb⟩; refine ⟨_, rfl, ?_⟩; have n_ := hkA (Aside0.mk (Kd.V_below (by (with_reducible repeat (first | apply Kd.V_alloc | apply Kd.V_drewN | apply Kd.V_drew)); exact HO_394001.out) hb)) (hkA (hkBb BK384 hb) (hkA (hkBb BK385 hb) (hkA (hkBb BK393 hb) (hkU HB hb)))); clear HO_394001 BK384 BK385 BK393 HB; obtain ⟨HO_394001, BK384, BK385, BK393, HB⟩ := n_; (try clear hb)))
         have n_ := hkA (Aside0.mk (Kd.V_drew HO_394001.out)) (hkA (Aside0.mk (blk_drew BK384.out)) (hkA (Aside0.mk (blk_drew BK385.out)) (hkA (Aside0.mk (blk_drew BK393.out)) (Aside0.mk (below_drew1 HB.out)))))
         clear HO_394001 BK384 BK385 BK393 HB
         obtain ⟨HO_394001, BK384, BK385, BK393, HB⟩ := n_
         refine start_ (n := 17) (S := fun w' => w'.cell? ⟨gb393, 0, none⟩ = some (.bool t387) ∧ w'.cell? ⟨gb393, 1, none⟩ = some (.slice Ao27 t388.length co27) ∧ w'.cell? ⟨gb393, 2, none⟩ = some (.int .i64 t391)) (ds := []) #[false, false, false, false, false, false, false, false, false, false, false, false, false, false, false, false, false] (by kernel_rfl) rfl rfl ⟨(blk_cell BK393.out 0).trans rfl, (blk_cell BK393.out 1).trans rfl, (blk_cell BK393.out 2).trans rfl⟩ (fun hHeld => ?_); refine with_tabW spec_l5round.tab22 spec_l5round.bits22 (fun HT_ HW_ => ?_)
         generalize w136.drew = w137 at HO_394001 BK384 BK385 BK393 HB hHeld ⊢
         refine hkPt (i := 0) (N := some 90) HT_ ?_
         refine hkPt (i := 1) (N := some 91) HT_ ?_
         refine hkPt (i := 3) (N := some 93) HT_ ?_
         refine hkPt (i := 4) (N := some 94) HT_ ?_
         refine hkPt (i := 6) (N := some 96) HT_ ?_
         refine hkPt (i := 8) (N := some 98) HT_ ?_
         refine hkPt (i := 12) (N := some 102) HT_ ?_
         refine hkPt (i := 14) (N := some 104) HT_ ?_
         refine hkTt (i := 2) (N := some 92) HT_ HW_ hHeld ?_ (hy := by rintro w' ⟨s0, s1, s2⟩; go_simp; with_reducible rfl)
         refine hkTt (i := 5) (N := some 95) HT_ HW_ hHeld ?_ (hy := by rintro w' ⟨s0, s1, s2⟩; go_simp; with_reducible rfl)
         refine hkTt (i := 7) (N := some 97) HT_ HW_ hHeld ?_ (hy := by rintro w' ⟨s0, s1, s2⟩; go_simp; with_reducible rfl)
         refine hkPt (i := 9) (N := some 99) HT_ ?_
         refine one_ (i := 10) (N := some 100) #[true, true, true, true, true, true, true, true, true, true, true, false, true, false, true, false, false] rfl rfl (one_of HT_.out (by kernel_rfl)) (by decide) (fun K hK => ?_)
         refine goes_ Tryd.func123 (by kernel_rfl) rfl #[.agg #[.slice Ao27 t388.length co27], .int .i64 (wrap64 (t391 - (wrap64 (t412 - 53))))] (by rfl) rfl rfl hkL ?_
         with_reducible refine (spec_l2shl.calls kj18 _ _ t388 (wrap64 (t391 - (wrap64 (t412 - 53)))) t417 _ ?side1 ?side2 A129.out).mono ?_
         (case side1 => exact hkC ((Kd.V_reads' HO_394001.out).2.2))
         (case side2 => exact (Kd.V_reads' HO_394001.out).2.1)
         rintro e w138 ⟨v418, rfl, ho0, hb⟩
         refine ⟨_, rfl, ?_⟩
         have n_ := hkA (Aside0.mk (Kd.V_elder' (by (with_reducible repeat (first | apply Kd.V_alloc | apply Kd.V_drewN | apply Kd.V_drew)); exact HO_394001.out) (Kd.R_base ho0) hb)) (hkA (Aside0.mk (Kd.R_lower ho0 (below_size (hkS HB)))) (hkA (hkBb BK384 hb) (hkA (hkBb BK385 hb) (hkA (hkBb BK393 hb) (hkU HB hb)))))
         clear HO_394001 BK384 BK385 BK393 HB
         obtain ⟨HO_394001, HO419, BK384, BK385, BK393, HB⟩ := n_
         (try clear hb); (try clear ho0)
         obtain ⟨Ao139, co139, eo139⟩ := Kd.R_slice HO419.out
         (first | subst eo139 | (injection eo139 with f1_ f2_ f3_; have f4_ := f1_.symm; have f5_ := f3_.symm; clear f1_ f2_ f3_; subst f4_; subst f5_))
         refine hK.out _ _ ⟨(blk_cell BK393.out 0).trans rfl, (blk_cell BK393.out 1).trans rfl, (blk_cell BK393.out 2).trans rfl⟩ (fun hHeld => ?_)
         clear hK K
         refine hkNo (N := some 100) ?_
         refine one_ (i := 11) (N := some 101) #[true, true, true, true, true, true, true, true, true, true, true, true, true, false, true, false, false] rfl rfl (one_of HT_.out (by kernel_rfl)) (by decide) (fun K hK => ?_)
         refine goes_ Tryd.func145 (by kernel_rfl) rfl #[.agg #[.slice Ao139 t417.length co139]] (by rfl) rfl rfl hkL ?_
         with_reducible refine (spec_l2int.calls kj18 _ _ t417 t420 _ ?side1 ?side2 A130.out).mono ?_
         (case side1 => exact hkC ((Kd.R_reads' HO419.out).2.2))
         (case side2 => exact (Kd.R_reads' HO419.out).2.1)
         rintro e w140 ⟨rfl, hb⟩
         refine ⟨_, rfl, ?_⟩
         have n_ := hkA (Aside0.mk (Kd.V_below (by (with_reducible repeat (first | apply Kd.V_alloc | apply Kd.V_drewN | apply Kd.V_drew)); exact HO_394001.out) hb)) (hkA (hkRb HO419 hb) (hkA (hkBb BK384 hb) (hkA (hkBb BK385 hb) (hkA (hkBb BK393 hb) (hkU HB hb)))))
         clear HO_394001 HO419 BK384 BK385 BK393 HB
         obtain ⟨HO_394001, HO419, BK384, BK385, BK393, HB⟩ := n_
         (try clear hb)
         refine hK.out _ _ ⟨(blk_cell BK393.out 0).trans rfl, (blk_cell BK393.out 1).trans rfl, (blk_cell BK393.out 2).trans rfl⟩ (fun hHeld => ?_)
         clear hK K
         refine hkNo (N := some 101) ?_
         refine hkPt (i := 13) (N := some 103) HT_ ?_
         refine one_ (i := 15) (N := none) #[true, true, true, true, true, true, true, true, true, true, true, true, true, true, true, true, false] rfl rfl (one_of HT_.out (by kernel_rfl)) (by decide) (fun K hK => ?_)
         have hs141 : w140.cell? ⟨gb385, 0, none⟩ = some (.int .i64 0) := (blk_cell BK385.out 0).trans rfl
         have hfs141 := blk_frozen BK385.out 0
         have hns141_0 := NB384_385.out
         have hns141_2 := NB393_385.out
         have hms141_0 := NB385_384.out
         have hms141_2 := NB385_393.out
         have hs142 : w140.cell? ⟨gb385, 1, none⟩ = some (.bool false) := (blk_cell BK385.out 1).trans rfl
         have hfs142 := blk_frozen BK385.out 1
         have hns142_0 := NB384_385.out
         have hns142_2 := NB393_385.out
         have hms142_0 := NB385_384.out
         have hms142_2 := NB385_393.out
         have hs143 : w140.cell? ⟨gb385, 2, none⟩ = some (.int .i64 0) := (blk_cell BK385.out 2).trans rfl
         have hfs143 := blk_frozen BK385.out 2
         have hns143_0 := NB384_385.out
         have hns143_2 := NB393_385.out
         have hms143_0 := NB385_384.out
         have hms143_2 := NB385_393.out
         have hs144 : w140.cell? ⟨gb385, 3, none⟩ = some (.int .i64 0) := (blk_cell BK385.out 3).trans rfl
         have hfs144 := blk_frozen BK385.out 3
         have hns144_0 := NB384_385.out
         have hns144_2 := NB393_385.out
         have hms144_0 := NB385_384.out
         have hms144_2 := NB385_393.out
         refine skip_ (w1 := ?_) (by rfl) rfl ?_ ?_
         rotate_left
         ·go_simp
          rfl
         refine hK.out _ _ ⟨((cell_far (p := ⟨gb385, _, none⟩) NB393_385.out _).trans (((cell_far (p := ⟨gb385, _, none⟩) NB393_385.out _).trans (((cell_far (p := ⟨gb385, _, none⟩) NB393_385.out _).trans (((cell_far (p := ⟨gb385, _, none⟩) NB393_385.out _).trans (hHeld.1)))))))), ((cell_far (p := ⟨gb385, _, none⟩) NB393_385.out _).trans (((cell_far (p := ⟨gb385, _, none⟩) NB393_385.out _).trans (((cell_far (p := ⟨gb385, _, none⟩) NB393_385.out _).trans (((cell_far (p := ⟨gb385, _, none⟩) NB393_385.out _).trans (hHeld.2.1)))))))), ((cell_far (p := ⟨gb385, _, none⟩) NB393_385.out _).trans (((cell_far (p := ⟨gb385, _, none⟩) NB393_385.out _).trans (((cell_far (p := ⟨gb385, _, none⟩) NB393_385.out _).trans (((cell_far (p := ⟨gb385, _, none⟩) NB393_385.out _).trans (hHeld.2.2))))))))⟩ (fun hHeld => ?_)
         clear hK K
         refine hkPt (i := 16) (N := some 7) HT_ ?_
         refine done_ (done_of HT_.out (by kernel_rfl)) ?_
         try go_wp2
         refine bodyPost_ret (results_ct rfl _ _ gb385 33 #[.int .i64 1, .bool t387, .int .i64 t420, .int .i64 (wrap64 (t412 - 53))] (0, 0) _ rfl hkPp Tryd.underlying33 rfl (by kernel_rfl)) rfl ?_
         exact ⟨hkE, hkS HB⟩

end Go.Proofs.YtgjpahofopoflaaDoor.PFnFlOrder
