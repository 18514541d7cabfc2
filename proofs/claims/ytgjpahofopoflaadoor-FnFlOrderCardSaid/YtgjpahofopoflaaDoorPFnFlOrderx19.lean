-- Written by our own driver (wip/hand/hprint.py) over the seat's translation.
import Derived.Test.YtgjpahofopoflaaDoorPFnFlOrderx0
import Derived.Test.YtgjpahofopoflaaDoorPFnFlOrderx9
import Derived.Test.YtgjpahofopoflaaDoorPFnFlOrderx11
import Derived.Test.YtgjpahofopoflaaDoorPFnFlOrderx12
import Derived.Test.YtgjpahofopoflaaDoorPFnFlOrderx13
import Derived.Test.YtgjpahofopoflaaDoorPFnFlOrderx18
namespace Go.Proofs.YtgjpahofopoflaaDoor.PFnFlOrder
open Go.RowKit Go.Proofs.YtgjpahofopoflaaDoorW.PrintWords Go.Proofs.YtgjpahofopoflaaDoorW.PrintLast Go.Proofs.YtgjpahofopoflaaDoorW.PrintMore
attribute [local go_sem] max2_int min2_int max_two min_two max_three min_three max_four min_four   -- for this text's walks alone
set_option linter.unusedVariables false
set_option linter.unusedSimpArgs false

/-! ### spec_l4round: function 144 -/
def spec_l4round.j0 : Nat → Int → Int → Bool → Bool → List Int → Int → Option (Bool × List Int × Int × Bool)
 | 0, _, _, _, _, _, _ => none
 | k + 1, x1, x2, x21, x352000, x352001, x352002 => if x21 = true then (some (x352000, x352001, x352002, true)) else ((spec_l2shr.f k x352001 (wrap64 (x1 - x352002))).bind fun t353 => ((spec_l4ups.f k x352000 x352001 (wrap64 (x1 - x352002)) x2).bind fun t357 => (if t357 = true then ((spec_l2of.f k 1).bind fun t358 => ((spec_l2add.f k t353 t358).bind fun t361 => ((spec_l3make.f k x352000 t361).bind fun bt364 => ((spec_l4make.f k bt364.1 bt364.2 x1).bind fun bt368 => (some (bt368.1, bt368.2.1, bt368.2.2, false)))))) else ((spec_l3make.f k x352000 t353).bind fun bt373 => ((spec_l4make.f k bt373.1 bt373.2 x1).bind fun bt377 => (some (bt377.1, bt377.2.1, bt377.2.2, false)))))))
def spec_l4round.f (k : Nat) (a0_0 : Bool) (l0_1 : List Int) (a0_2 : Int) (a1 : Int) (a2 : Int) : Option (Bool × List Int × Int × Bool) := if (l0_1.length : Int) = 0 then (spec_l4round.j0 k a1 a2 true a0_0 l0_1 a0_2) else (spec_l4round.j0 k a1 a2 (decide (a0_2 ≥ a1)) a0_0 l0_1 a0_2)
theorem spec_l4round.mono_l : ∀ k, (∀ y0 y1 y2 y3 y4 y5, LeO (spec_l4round.j0 k y0 y1 y2 y3 y4 y5) (spec_l4round.j0 (k + 1) y0 y1 y2 y3 y4 y5))
 | 0 => fun _ _ _ _ _ _ r h => by simp [spec_l4round.j0] at h
 | k + 1 => by
  have ih0 := spec_l4round.mono_l k
  ·intro y0 y1 y2 y3 y4 y5
   unfold spec_l4round.j0
   repeat' first
   | (with_reducible exact ih0 _ _ _ _ _ _)
   | (with_reducible exact spec_l2add.mono _ _ _)
   | (with_reducible exact spec_l2of.mono _ _)
   | (with_reducible exact spec_l2shr.mono _ _ _)
   | (with_reducible exact spec_l3make.mono _ _ _)
   | (with_reducible exact spec_l4make.mono _ _ _ _)
   | (with_reducible exact spec_l4ups.mono _ _ _ _ _)
   | (with_reducible exact LeO.refl _)
   | (with_reducible exact LeO.none _)
   | (with_reducible refine LeO.ite ?_ ?_)
   | (with_reducible refine LeO.bind ?_ (fun _ => ?_))
   | exact ih0 _ _ _ _ _ _
   | exact spec_l2add.mono _ _ _
   | exact spec_l2of.mono _ _
   | exact spec_l2shr.mono _ _ _
   | exact spec_l3make.mono _ _ _
   | exact spec_l4make.mono _ _ _ _
   | exact spec_l4ups.mono _ _ _ _ _
   | exact LeO.none _
   | refine LeO.ite ?_ ?_
   | refine LeO.bind ?_ (fun _ => ?_)
theorem spec_l4round.mono : ∀ a0 a1 a2 a3 a4 k, LeO (spec_l4round.f k a0 a1 a2 a3 a4) (spec_l4round.f (k + 1) a0 a1 a2 a3 a4) := by
 intro a0 a1 a2 a3 a4 k
 have ih0 := spec_l4round.mono_l k
 unfold spec_l4round.f
 repeat' first
   | (with_reducible exact ih0 _ _ _ _ _ _)
   | (with_reducible exact spec_l2add.mono _ _ _)
   | (with_reducible exact spec_l2of.mono _ _)
   | (with_reducible exact spec_l2shr.mono _ _ _)
   | (with_reducible exact spec_l3make.mono _ _ _)
   | (with_reducible exact spec_l4make.mono _ _ _ _)
   | (with_reducible exact spec_l4ups.mono _ _ _ _ _)
   | (with_reducible exact LeO.refl _)
   | (with_reducible exact LeO.none _)
   | (with_reducible refine LeO.ite ?_ ?_)
   | (with_reducible refine LeO.bind ?_ (fun _ => ?_))
   | exact ih0 _ _ _ _ _ _
   | exact spec_l2add.mono _ _ _
   | exact spec_l2of.mono _ _
   | exact spec_l2shr.mono _ _ _
   | exact spec_l3make.mono _ _ _
   | exact spec_l4make.mono _ _ _ _
   | exact spec_l4ups.mono _ _ _ _ _
   | exact LeO.none _
   | refine LeO.ite ?_ ?_
   | refine LeO.bind ?_ (fun _ => ?_)
set_option maxHeartbeats 8000000 in
set_option maxRecDepth 100000 in
theorem spec_l4round.calls (k : Nat) (a0_0 : Bool) (P0_1_ : Nat → Prop) (A0_1 : Option Addr) (c0_1 : Nat) (l0_1 : List Int) (a0_2 : Int) (a1 : Int) (a2 : Int) (r1 : Bool) (r2 : List Int) (r3 : Int) (r4 : Bool) (w : World) (hs0_1 : Kd.V (Kd.int .i64) 3 w w.heap.size (fun k_ => P0_1_ k_) (.slice A0_1 l0_1.length c0_1) l0_1) (h : spec_l4round.f k a0_0 l0_1 a0_2 a1 a2 = some (r1, r2, r3, r4)) :
  Calls Tryd.prog 144 #[.agg #[.bool a0_0, .slice A0_1 l0_1.length c0_1, .int .i64 a0_2], .int .i64 a1, .int .i64 a2] w fun e w' => ∃ v1_ : Value, e = .returned (.tuple #[.agg #[.bool r1, v1_, .int .i64 r3], .bool r4]) ∧ Kd.V (Kd.int .i64) 3 w' w.heap.size (fun k_ => (P0_1_ k_ ∨ w.heap.size ≤ k_)) v1_ r2 ∧ Below w.heap.size w w' := by
 have hu30 := Tryd.underlying30
 have hu26 := Tryd.underlying26
 have HO0_1 := Aside0.mk (show Kd.V (Kd.int .i64) 3 w w.heap.size (fun k_ => (P0_1_ k_ ∨ w.heap.size ≤ k_)) (.slice A0_1 l0_1.length c0_1) l0_1 from Kd.V_mono hs0_1 (fun k_ hk => .inl hk))
 have HB := Aside0.mk (Below.refl w.heap.size w)
 have H : (if (l0_1.length : Int) = 0 then (spec_l4round.j0 k a1 a2 true a0_0 l0_1 a0_2) else (spec_l4round.j0 k a1 a2 (decide (a0_2 ≥ a1)) a0_0 l0_1 a0_2)) = some (r1, r2, r3, r4) := h
 clear h
 have HC4 := Aside0.mk H
 clear H
 go_enter Tryd.func144, Tryd.ntmps144
 go_upto_region 1 with (first | ((with_reducible refine gate_dst (N := 3) rfl ?_); refine hkBox (N := 3) (cs := #[.bool a0_0, .slice A0_1 l0_1.length c0_1, .int .i64 a0_2]) (t := 30) ?_; intro gb351 hg w5 hbox hb; have n_ := hkA (Aside0.mk (Kd.V_below (Kd.V_elderB (by (with_reducible repeat (first | apply Kd.V_alloc | apply Kd.V_drewN | apply Kd.V_drew)); exact HO0_1.out) gb351 (Nat.le_of_eq hg.symm)) hb)) (hkA (hkU HB hb) (hkA (Aside0.mk (hbox)) (hkA (hkG hg (hkS HB)) (hkG hg (hkS HB))))); clear HO0_1 HB; obtain ⟨HO0_1, HB, BK351, GW351, GE351⟩ := n_; clear hb hbox hg) | ((with_reducible refine gate_dst (N := 6) rfl ?_); refine hkBox (N := 6) (cs := #[.bool false, .slice none 0 0, .int .i64 0]) (t := 30) ?_; intro gb352 hg w6 hbox hb; have n_ := hkA (Aside0.mk (Kd.V_below (Kd.V_elderB (by (with_reducible repeat (first | apply Kd.V_alloc | apply Kd.V_drewN | apply Kd.V_drew)); exact HO0_1.out) gb352 (Nat.le_of_eq hg.symm)) hb)) (hkA (hkBb BK351 hb) (hkA (hkU HB hb) (hkA (Aside0.mk (hbox)) (hkA (hkG hg (hkS HB)) (hkA (hkG hg (hkS HB)) (hkA (hkN hg BK351) (hkM hg BK351))))))); clear HO0_1 BK351 HB; obtain ⟨HO0_1, BK351, HB, BK352, GW352, GE352, NB351_352, NB352_351⟩ := n_; clear hb hbox hg))
 (try simp only [Act.put, List.setIfInBounds_toArray, List.set_cons_zero, List.set_cons_succ])
 go_cut [21] (fun v21 wc => ∃ (kq : Nat) (x21_3 : Bool), v21 = .bool x21_3 ∧ Aside0 (spec_l4round.j0 kq a1 a2 x21_3 a0_0 l0_1 a0_2 = some (r1, r2, r3, r4)) ∧ Aside0 (kq ≤ k) ∧ Aside0 (Kd.V (Kd.int .i64) 3 wc w.heap.size (fun k_ => (P0_1_ k_ ∨ w.heap.size ≤ k_) ∧ k_ ≠ gb351 ∧ k_ ≠ gb352) (.slice A0_1 l0_1.length c0_1) l0_1) ∧ Aside0 (wc.heap[gb351]? = some (.cells #[.bool a0_0, (.slice A0_1 l0_1.length c0_1), .int .i64 a0_2] 30 (0, 0))) ∧ Aside0 (wc.heap[gb352]? = some (.cells #[.bool false, (.slice none 0 0), .int .i64 0] 30 (0, 0))) ∧ Aside0 (Below w.heap.size w wc))
 case first =>
  have H := HC4.out
  clear HC4
  by_cases c7 : (l0_1.length : Int) = 0
  ·rw [if_pos c7] at H
   have c7b0 : ((l0_1.length : Int) == 0) = true := beq_iff_eq.mpr c7
   have c7b1 : ((l0_1.length : Int) != 0) = false := bne_eq_false_iff_eq.mpr c7
   clear c7
   (first | rw [c7b0] | (simp only [i64_w, i32_w]; rw [c7b0]) | skip)
   have H' := Aside0.mk H
   clear H
   have hnb8 := NB351_352.out
   have hnc8 := NB352_351.out
   obtain ⟨hcz9_0, hfz9_0, hcz9_1, hfz9_1, hcz9_2, hfz9_2⟩ := hkc3 BK351
   go_wp2
   go_meet
   case rel => exact ⟨_, (true), (by first | rfl | (simp; done) | (simp [*]; done)), H', ⟨by first | omega | exact Nat.le_refl _⟩, ⟨by (with_reducible repeat (first | apply Kd.V_alloc | apply Kd.V_drewN | apply Kd.V_drew)); exact Kd.V_mono HO0_1.out (fun _ hk => ⟨hk.1.1, ⟨hk.1.2, hk.2⟩⟩)⟩, ⟨by refine hkz ?_; exact BK351.out⟩, ⟨by refine hkz ?_; exact BK352.out⟩, ⟨hkS HB⟩⟩
  ·rw [if_neg c7] at H
   have c7b0 : ((l0_1.length : Int) == 0) = false := beq_eq_false_iff_ne.mpr c7
   have c7b1 : ((l0_1.length : Int) != 0) = true := bne_iff_ne.mpr c7
   have c7b2 : ¬ (l0_1 = []) := fun h_ => c7 (by rw [h_]; rfl)
   (first | rw [c7b0] | (simp only [i64_w, i32_w]; rw [c7b0]) | skip)
   have H' := Aside0.mk H
   clear H
   have hnb10 := NB351_352.out
   have hnc10 := NB352_351.out
   obtain ⟨hcz11_0, hfz11_0, hcz11_1, hfz11_1, hcz11_2, hfz11_2⟩ := hkc3 BK351
   go_wp2
   go_meet
   case rel => exact ⟨_, (decide (a0_2 ≥ a1)), (by first | rfl | (simp; done) | (simp [*]; done)), H', ⟨by first | omega | exact Nat.le_refl _⟩, ⟨by (with_reducible repeat (first | apply Kd.V_alloc | apply Kd.V_drewN | apply Kd.V_drew)); exact Kd.V_mono HO0_1.out (fun _ hk => ⟨hk.1.1, ⟨hk.1.2, hk.2⟩⟩)⟩, ⟨by refine hkz ?_; exact BK351.out⟩, ⟨by refine hkz ?_; exact BK352.out⟩, ⟨hkS HB⟩⟩
 case rest =>
  clear HC4
  try clear c1
  try clear p2
  try clear c7
  try clear c7b0
  try clear c7b1
  try clear c7b2
  try clear c8
  try clear c10
  try clear hcz11_0 hcz11_1 hcz11_2 hcz9_0 hcz9_1 hcz9_2 hfz11_0 hfz11_1 hfz11_2 hfz9_0 hfz9_1 hfz9_2
  obtain ⟨kq, x21_3, rfl, HA, HJ3, HO_352001, BK351, BK352, HB⟩ := hcut
  cases kq with
  | zero => exact absurd HA.out (by simp [spec_l4round.j0])
  | succ kj3 =>
   have H := HA.out
   clear HA
   simp only [spec_l4round.j0] at H
   by_cases c12 : x21_3 = true
   ·subst c12
    have H1 : (some (a0_0, l0_1, a0_2, true)) = some (r1, r2, r3, r4) := by rw [if_pos rfl] at H; exact H
    clear H
    have H := H1
    clear H1
    simp only [Option.some.injEq, Prod.mk.injEq] at H
    obtain ⟨rfl, rfl, rfl, rfl⟩ := H
    have hnb13 := NB351_352.out
    have hnc13 := NB352_351.out
    obtain ⟨hcz14_0, hfz14_0, hcz14_1, hfz14_1, hcz14_2, hfz14_2⟩ := hkc3 BK351
    obtain ⟨hcz15_0, hfz15_0, hcz15_1, hfz15_1, hcz15_2, hfz15_2⟩ := hkc3 BK352
    go_wp2
    refine bodyPost_ret (results_ct rfl _ _ gb352 30 #[.bool a0_0, .slice A0_1 l0_1.length c0_1, .int .i64 a0_2] (0, 0) _ rfl hkPp Tryd.underlying30 rfl (by kernel_rfl)) rfl ?_
    exact ⟨_, hkE, by (with_reducible repeat (first | apply Kd.V_alloc | apply Kd.V_drewN | apply Kd.V_drew)); exact Kd.V_mono (Kd.V_far (p := ⟨gb352, 2, none⟩) (Kd.V_far (p := ⟨gb352, 1, none⟩) (Kd.V_far (p := ⟨gb352, 0, none⟩) (Kd.V_mono HO_352001.out (fun k_ hk => (⟨hk, hk.2.2⟩ : _ ∧ k_ ≠ gb352))) (fun _ hk => hk.2) (.bool a0_0)) (fun _ hk => hk.2) (.slice A0_1 l0_1.length c0_1)) (fun _ hk => hk.2) (.int .i64 a0_2)) (fun _ hk => hk.1.1), hkS HB⟩
   ·replace c12 := Bool.eq_false_iff.mpr c12
    subst c12
    have H1 : ((spec_l2shr.f kj3 l0_1 (wrap64 (a1 - a0_2))).bind fun t353 => ((spec_l4ups.f kj3 a0_0 l0_1 (wrap64 (a1 - a0_2)) a2).bind fun t357 => (if t357 = true then ((spec_l2of.f kj3 1).bind fun t358 => ((spec_l2add.f kj3 t353 t358).bind fun t361 => ((spec_l3make.f kj3 a0_0 t361).bind fun bt364 => ((spec_l4make.f kj3 bt364.1 bt364.2 a1).bind fun bt368 => (some (bt368.1, bt368.2.1, bt368.2.2, false)))))) else ((spec_l3make.f kj3 a0_0 t353).bind fun bt373 => ((spec_l4make.f kj3 bt373.1 bt373.2 a1).bind fun bt377 => (some (bt377.1, bt377.2.1, bt377.2.2, false))))))) = some (r1, r2, r3, r4) := by rw [if_neg (show ¬ (false = true) by decide)] at H; exact H
    clear H
    have H := H1
    clear H1
    replace H := hBi H
    obtain ⟨t353, A160, H⟩ := H
    replace H : ((spec_l4ups.f kj3 a0_0 l0_1 (wrap64 (a1 - a0_2)) a2).bind fun t357 => (if t357 = true then ((spec_l2of.f kj3 1).bind fun t358 => ((spec_l2add.f kj3 t353 t358).bind fun t361 => ((spec_l3make.f kj3 a0_0 t361).bind fun bt364 => ((spec_l4make.f kj3 bt364.1 bt364.2 a1).bind fun bt368 => (some (bt368.1, bt368.2.1, bt368.2.2, false)))))) else ((spec_l3make.f kj3 a0_0 t353).bind fun bt373 => ((spec_l4make.f kj3 bt373.1 bt373.2 a1).bind fun bt377 => (some (bt377.1, bt377.2.1, bt377.2.2, false)))))) = some (r1, r2, r3, r4) := H
    have A16 := Aside0.mk A160
    clear A160
    replace H := hBi H
    obtain ⟨t357, A170, H⟩ := H
    replace H : (if t357 = true then ((spec_l2of.f kj3 1).bind fun t358 => ((spec_l2add.f kj3 t353 t358).bind fun t361 => ((spec_l3make.f kj3 a0_0 t361).bind fun bt364 => ((spec_l4make.f kj3 bt364.1 bt364.2 a1).bind fun bt368 => (some (bt368.1, bt368.2.1, bt368.2.2, false)))))) else ((spec_l3make.f kj3 a0_0 t353).bind fun bt373 => ((spec_l4make.f kj3 bt373.1 bt373.2 a1).bind fun bt377 => (some (bt377.1, bt377.2.1, bt377.2.2, false))))) = some (r1, r2, r3, r4) := H
    have A17 := Aside0.mk A170
    clear A170
    by_cases c18 : t357 = true
    ·subst c18
     have H1 : ((spec_l2of.f kj3 1).bind fun t358 => ((spec_l2add.f kj3 t353 t358).bind fun t361 => ((spec_l3make.f kj3 a0_0 t361).bind fun bt364 => ((spec_l4make.f kj3 bt364.1 bt364.2 a1).bind fun bt368 => (some (bt368.1, bt368.2.1, bt368.2.2, false)))))) = some (r1, r2, r3, r4) := by rw [if_pos rfl] at H; exact H
     clear H
     have H := H1
     clear H1
     replace H := hBi H
     obtain ⟨t358, A190, H⟩ := H
     replace H : ((spec_l2add.f kj3 t353 t358).bind fun t361 => ((spec_l3make.f kj3 a0_0 t361).bind fun bt364 => ((spec_l4make.f kj3 bt364.1 bt364.2 a1).bind fun bt368 => (some (bt368.1, bt368.2.1, bt368.2.2, false))))) = some (r1, r2, r3, r4) := H
     have A19 := Aside0.mk A190
     clear A190
     replace H := hBi H
     obtain ⟨t361, A200, H⟩ := H
     replace H : ((spec_l3make.f kj3 a0_0 t361).bind fun bt364 => ((spec_l4make.f kj3 bt364.1 bt364.2 a1).bind fun bt368 => (some (bt368.1, bt368.2.1, bt368.2.2, false)))) = some (r1, r2, r3, r4) := H
     have A20 := Aside0.mk A200
     clear A200
     replace H := hBi H
     obtain ⟨⟨t364, t365⟩, A210, H⟩ := H
     replace H : ((spec_l4make.f kj3 t364 t365 a1).bind fun bt368 => (some (bt368.1, bt368.2.1, bt368.2.2, false))) = some (r1, r2, r3, r4) := H
     have A21 := Aside0.mk A210
     clear A210
     replace H := hBi H
     obtain ⟨⟨t368, t369, t372⟩, A220, H⟩ := H
     replace H : (some (t368, t369, t372, false)) = some (r1, r2, r3, r4) := H
     have A22 := Aside0.mk A220
     clear A220
     simp only [Option.some.injEq, Prod.mk.injEq] at H
     obtain ⟨rfl, rfl, rfl, rfl⟩ := H
     have hnb23 := NB351_352.out
     have hnc23 := NB352_351.out
     obtain ⟨hcz24_0, hfz24_0, hcz24_1, hfz24_1, hcz24_2, hfz24_2⟩ := hkc3 BK351
     try go_wp2_with (first | ((with_reducible refine gate_callee (f := 79) rfl ?_); refine hkGo (N := some 31) Tryd.func79 #[.agg #[.slice A0_1 l0_1.length c0_1], .int .i64 (wrap64 (a1 - a0_2))] ?_; (with_reducible refine (spec_l2shr.calls kj3 _ _ l0_1 (wrap64 (a1 - a0_2)) t353 _ ?side1 ?side2 A16.out).mono ?_); (case side1 => exact hkC ((Kd.V_reads' HO_352001.out).2.2)); (case side2 => exact (Kd.V_reads' HO_352001.out).2.1); rintro e w25 ⟨v354, rfl, ho0, hb⟩; refine ⟨_, rfl, ?_⟩; have n_ := hkA (Aside0.mk (Kd.V_elder' (by (with_reducible repeat (first | apply Kd.V_alloc | apply Kd.V_drewN | apply Kd.V_drew)); exact HO_352001.out) (Kd.R_base ho0) hb)) (hkA (Aside0.mk (Kd.R_lower (Kd.R_newM (M := fun k_ => (w.heap.size ≤ k_)) ho0 (below_size (hkS HB)) (fun k_ h_ => h_)) (below_size (hkS HB)))) (hkA (hkBb BK351 hb) (hkA (hkBb BK352 hb) (hkU HB hb)))); clear HO_352001 BK351 BK352 HB; obtain ⟨HO_352001, HO355, BK351, BK352, HB⟩ := n_; (try clear hb); (try clear hk); (try clear ho0)) | ((with_reducible refine gate_dst (N := 9) rfl ?_); refine hkBox (N := 9) (cs := #[.slice none 0 0]) (t := 26) ?_; intro gb356 hg w26 hbox hb; have n_ := hkA (Aside0.mk (Kd.V_below (Kd.V_elderB (by (with_reducible repeat (first | apply Kd.V_alloc | apply Kd.V_drewN | apply Kd.V_drew)); exact HO_352001.out) gb356 (Nat.le_of_eq hg.symm)) hb)) (hkA (hkRb HO355 hb) (hkA (hkBb BK351 hb) (hkA (hkBb BK352 hb) (hkA (hkU HB hb) (hkA (Aside0.mk (hbox)) (hkA (hkG hg (hkS HB)) (hkA (hkG hg (hkS HB)) (hkA (hkN hg BK351) (hkA (hkM hg BK351) (hkA (hkN hg BK352) (hkM hg BK352))))))))))); clear HO_352001 HO355 BK351 BK352 HB; obtain ⟨HO_352001, HO355, BK351, BK352, HB, BK356, GW356, GE356, NB351_356, NB356_351, NB352_356, NB356_352⟩ := n_; clear hb hbox hg; obtain ⟨Ao27, co27, eo27⟩ := Kd.R_slice HO355.out; subst eo27; have hnb28 := NB356_351.out; have hnc28 := NB351_356.out; have hnb29 := NB356_352.out; have hnc29 := NB352_356.out; obtain ⟨hcz30_0, hfz30_0⟩ := hkc1 BK356; obtain ⟨hcz31_0, hfz31_0, hcz31_1, hfz31_1, hcz31_2, hfz31_2⟩ := hkc3 BK351) | ((with_reducible refine gate_callee (f := 151) rfl ?_); refine hkGo (N := some 40) Tryd.func151 #[.bool a0_0, .agg #[.slice A0_1 l0_1.length c0_1], .int .i64 (wrap64 (a1 - a0_2)), .int .i64 a2] ?_; (with_reducible refine (spec_l4ups.calls kj3 a0_0 _ _ l0_1 (wrap64 (a1 - a0_2)) a2 true _ ?side1 ?side2 A17.out).mono ?_); (case side1 => apply hkVr (e := 3) (base := w.heap.size) (n := l0_1.length) (c := c0_1); exact (by (with_reducible repeat (first | apply Kd.V_alloc | apply Kd.V_drewN | apply Kd.V_drew)); exact (Kd.V_mono (Kd.V_far (p := ⟨gb356, 0, none⟩) (Kd.V_mono HO_352001.out (fun k_ hk => (⟨hk, hk.2⟩ : _ ∧ k_ ≠ gb356))) (fun _ hk => hk.2) (.slice Ao27 t353.length co27)) (fun _ h_ => h_.1)))); (case side2 => exact (Kd.V_reads' HO_352001.out).2.1); rintro e w32 ⟨rfl, hb⟩; refine ⟨_, rfl, ?_⟩; have n_ := hkA (Aside0.mk (Kd.V_below (by (with_reducible repeat (first | apply Kd.V_alloc | apply Kd.V_drewN | apply Kd.V_drew)); exact (Kd.V_mono (Kd.V_far (p := ⟨gb356, 0, none⟩) (Kd.V_mono HO_352001.out (fun k_ hk => (⟨hk, hk.2⟩ : _ ∧ k_ ≠ gb356))) (fun _ hk => hk.2) (.slice Ao27 t353.length co27)) (fun _ h_ => h_.1))) hb)) (hkA (Aside0.mk (Kd.R_below (by (with_reducible repeat (first | apply Kd.R_alloc | apply Kd.R_drewN | apply Kd.R_drew)); exact (Kd.R_mono (Kd.R_far (p := ⟨gb356, 0, none⟩) (Kd.R_types HO355.out BK356.out (by decide)) (fun _ hk => hk.2) (.slice Ao27 t353.length co27)) (fun _ h_ => h_.1))) hb)) (hkA (Aside0.mk (blk_below (g := gb351) (o := .cells #[.bool a0_0, .slice A0_1 l0_1.length c0_1, .int .i64 a0_2] 30 (0, 0)) hkPp hb)) (hkA (Aside0.mk (blk_below (g := gb352) (o := .cells #[.bool false, .slice none 0 0, .int .i64 0] 30 (0, 0)) hkPp hb)) (hkA (Aside0.mk (blk_below (g := gb356) (o := .cells #[.slice Ao27 t353.length co27] 26 (0, 0)) hkPp hb)) (hkU HB hb))))); clear HO_352001 HO355 BK351 BK352 BK356 HB; obtain ⟨HO_352001, HO355, BK351, BK352, BK356, HB⟩ := n_; (try clear hb); (try clear hk)))
     have n_ := hkA (Aside0.mk (Kd.V_drew HO_352001.out)) (hkA (Aside0.mk (Kd.R_drew HO355.out)) (hkA (Aside0.mk (blk_drew BK351.out)) (hkA (Aside0.mk (blk_drew BK352.out)) (hkA (Aside0.mk (blk_drew BK356.out)) (Aside0.mk (below_drew1 HB.out))))))
     clear HO_352001 HO355 BK351 BK352 BK356 HB
     obtain ⟨HO_352001, HO355, BK351, BK352, BK356, HB⟩ := n_
     refine start_ (n := 4) (S := fun w' => w'.cell? ⟨gb356, 0, none⟩ = some (.slice Ao27 t353.length co27)) (ds := [3]) #[false, false, false, false] (by kernel_rfl) rfl rfl ((blk_cell BK356.out 0).trans rfl) (fun hHeld => ?_)
     generalize w32.drew = w33 at HO_352001 HO355 BK351 BK352 BK356 HB hHeld ⊢
     refine hkTk (i := 0) (N := some 41) hHeld ?_ (hy := by intro w' s0; go_simp; with_reducible rfl)
     refine one_ (i := 1) (N := some 42) #[true, true, false, false] rfl rfl (by kernel_rfl) (by decide) (fun K hK => ?_)
     refine goes_ Tryd.func68 (by kernel_rfl) rfl #[.int .i64 1] (by rfl) rfl rfl hkL ?_
     with_reducible refine (spec_l2of.calls kj3 1 t358 _ A19.out).mono ?_
     rintro e w34 ⟨v359, rfl, ho0, hb⟩
     refine ⟨_, rfl, ?_⟩
     have n_ := hkA (Aside0.mk (Kd.V_elder' (by (with_reducible repeat (first | apply Kd.V_alloc | apply Kd.V_drewN | apply Kd.V_drew)); exact HO_352001.out) (Kd.R_base ho0) hb)) (hkA (Aside0.mk (Kd.R_elder' (hkR HO355) (Kd.R_base ho0) hb)) (hkA (Aside0.mk (Kd.R_lower (Kd.R_new' (Kd.R_newM (M := fun k_ => (w.heap.size ≤ k_)) ho0 (below_size (hkS HB)) (fun k_ h_ => h_)) (Kd.R_lt (hkR HO355))) (below_size (hkS HB)))) (hkA (hkBb BK351 hb) (hkA (hkBb BK352 hb) (hkA (hkBb BK356 hb) (hkU HB hb))))))
     clear HO_352001 HO355 BK351 BK352 BK356 HB
     obtain ⟨HO_352001, HO355, HO360, BK351, BK352, BK356, HB⟩ := n_
     (try clear hb); (try clear ho0)
     obtain ⟨Ao35, co35, eo35⟩ := Kd.R_slice HO360.out
     (first | subst eo35 | (injection eo35 with f1_ f2_ f3_; have f4_ := f1_.symm; have f5_ := f3_.symm; clear f1_ f2_ f3_; subst f4_; subst f5_))
     refine hK.out _ _ ((blk_cell BK356.out 0).trans rfl) (fun hHeld => ?_)
     clear hK K
     refine hkNo (N := some 42) ?_
     refine one_ (i := 2) (N := some 43) #[true, true, true, false] rfl rfl (by kernel_rfl) (by decide) (fun K hK => ?_)
     refine goes_ Tryd.func109 (by kernel_rfl) rfl #[.agg #[.slice Ao27 t353.length co27], .agg #[.slice Ao35 t358.length co35]] (by rfl) rfl rfl hkL ?_
     with_reducible refine (spec_l2add.calls kj3 _ _ t353 _ _ t358 t361 _ ?side1 ?side2 ?side3 ?side4 A20.out).mono ?_
     (case side1 => exact hkC ((Kd.R_reads' HO355.out).2.2))
     (case side2 => exact (Kd.R_reads' HO355.out).2.1)
     (case side3 => exact hkC ((Kd.R_reads' HO360.out).2.2))
     (case side4 => exact (Kd.R_reads' HO360.out).2.1)
     rintro e w36 ⟨v362, rfl, ho0, hb⟩
     refine ⟨_, rfl, ?_⟩
     have n_ := hkA (Aside0.mk (Kd.V_elder' (by (with_reducible repeat (first | apply Kd.V_alloc | apply Kd.V_drewN | apply Kd.V_drew)); exact HO_352001.out) (Kd.R_base ho0) hb)) (hkA (Aside0.mk (Kd.R_elder' (hkR HO355) (Kd.R_base ho0) hb)) (hkA (Aside0.mk (Kd.R_elder' (hkR HO360) (Kd.R_base ho0) hb)) (hkA (Aside0.mk (Kd.R_lower (Kd.R_new' (Kd.R_new' (Kd.R_newM (M := fun k_ => (w.heap.size ≤ k_)) ho0 (below_size (hkS HB)) (fun k_ h_ => h_)) (Kd.R_lt (hkR HO355))) (Kd.R_lt (hkR HO360))) (below_size (hkS HB)))) (hkA (hkBb BK351 hb) (hkA (hkBb BK352 hb) (hkA (hkBb BK356 hb) (hkU HB hb)))))))
     clear HO_352001 HO355 HO360 BK351 BK352 BK356 HB
     obtain ⟨HO_352001, HO355, HO360, HO363, BK351, BK352, BK356, HB⟩ := n_
     (try clear hb); (try clear ho0)
     obtain ⟨Ao37, co37, eo37⟩ := Kd.R_slice HO363.out
     (first | subst eo37 | (injection eo37 with f1_ f2_ f3_; have f4_ := f1_.symm; have f5_ := f3_.symm; clear f1_ f2_ f3_; subst f4_; subst f5_))
     refine hK.out _ _ ((blk_cell BK356.out 0).trans rfl) (fun hHeld => ?_)
     clear hK K
     refine hkNo (N := some 43) ?_
     refine last_ (i := 3) (N := none) #[true, true, true, true] rfl rfl (by kernel_rfl) (by decide) (fun K hK => ?_)
     have hs38 : w36.cell? ⟨gb356, 0, none⟩ = some (.slice Ao27 t353.length co27) := (blk_cell BK356.out 0).trans rfl
     have hfs38 := blk_frozen BK356.out 0
     have hns38_0 := NB351_356.out
     have hns38_1 := NB352_356.out
     have hms38_0 := NB356_351.out
     have hms38_1 := NB356_352.out
     refine skip_ (w1 := ?_) (by rfl) rfl ?_ ?_
     rotate_left
     ·go_simp
      rfl
     refine hK.out _ _ ?_
     clear hK K
     refine done_ (by kernel_rfl) ?_
     obtain ⟨hcz39_0, hfz39_0, hcz39_1, hfz39_1, hcz39_2, hfz39_2⟩ := hkc3 BK351
     obtain ⟨hcz40_0, hfz40_0⟩ := hkc1 BK356
     try go_wp2_with (first | ((with_reducible refine gate_callee (f := 46) rfl ?_); refine hkGo (N := some 48) Tryd.func46 #[.bool a0_0, .agg #[.slice Ao37 t361.length co37]] ?_; (with_reducible refine (spec_l3make.calls kj3 a0_0 _ _ t361 t364 t365 _ ?side1 ?side2 A21.out).mono ?_); (case side1 => refine (Kd.R_reads' (e := 3) (base := w.heap.size) (ok := fun k_ => ((((w.heap.size ≤ k_) ∧ True) ∧ some k_ ≠ (.slice Ao27 t353.length co27 : Value).ownBlock) ∧ some k_ ≠ (.slice Ao35 t358.length co35 : Value).ownBlock)) (n := t361.length) (c := co37) ?_).2.2; exact (by (with_reducible repeat (first | apply Kd.R_alloc | apply Kd.R_drewN | apply Kd.R_drew)); exact (Kd.R_mono (Kd.R_far (p := ⟨gb356, 0, none⟩) (Kd.R_types HO363.out BK356.out (by decide)) (fun _ hk => hk.2) (.slice Ao37 t361.length co37)) (fun _ h_ => h_.1)))); (case side2 => exact (Kd.R_reads' HO363.out).2.1); rintro e w41 ⟨v366, rfl, ho0, hb⟩; refine ⟨_, rfl, ?_⟩; have n_ := hkA (Aside0.mk (Kd.V_elder' (by (with_reducible repeat (first | apply Kd.V_alloc | apply Kd.V_drewN | apply Kd.V_drew)); exact (Kd.V_mono (Kd.V_far (p := ⟨gb356, 0, none⟩) (Kd.V_mono HO_352001.out (fun k_ hk => (⟨hk, hk.1.1.2⟩ : _ ∧ k_ ≠ gb356))) (fun _ hk => hk.2) (.slice Ao37 t361.length co37)) (fun _ h_ => h_.1))) (Kd.R_base ho0) hb)) (hkA (Aside0.mk (Kd.R_elder' (by (with_reducible repeat (first | apply Kd.R_alloc | apply Kd.R_drewN | apply Kd.R_drew)); exact (Kd.R_mono (Kd.R_far (p := ⟨gb356, 0, none⟩) (Kd.R_types HO355.out BK356.out (by decide)) (fun _ hk => hk.2) (.slice Ao37 t361.length co37)) (fun _ h_ => h_.1))) (Kd.R_base ho0) hb)) (hkA (Aside0.mk (Kd.R_elder' (by (with_reducible repeat (first | apply Kd.R_alloc | apply Kd.R_drewN | apply Kd.R_drew)); exact (Kd.R_mono (Kd.R_far (p := ⟨gb356, 0, none⟩) (Kd.R_types HO360.out BK356.out (by decide)) (fun _ hk => hk.2) (.slice Ao37 t361.length co37)) (fun _ h_ => h_.1))) (Kd.R_base ho0) hb)) (hkA (Aside0.mk (Kd.R_elder' (by (with_reducible repeat (first | apply Kd.R_alloc | apply Kd.R_drewN | apply Kd.R_drew)); exact (Kd.R_mono (Kd.R_far (p := ⟨gb356, 0, none⟩) (Kd.R_types HO363.out BK356.out (by decide)) (fun _ hk => hk.2) (.slice Ao37 t361.length co37)) (fun _ h_ => h_.1))) (Kd.R_base ho0) hb)) (hkA (Aside0.mk (Kd.R_lower (Kd.R_new' (Kd.R_new' (Kd.R_new' (Kd.R_newM (M := fun k_ => (w.heap.size ≤ k_)) ho0 (below_size (hkS HB)) (fun k_ h_ => h_)) (Kd.R_lt (by (with_reducible repeat (first | apply Kd.R_alloc | apply Kd.R_drewN | apply Kd.R_drew)); exact (Kd.R_mono (Kd.R_far (p := ⟨gb356, 0, none⟩) (Kd.R_types HO355.out BK356.out (by decide)) (fun _ hk => hk.2) (.slice Ao37 t361.length co37)) (fun _ h_ => h_.1))))) (Kd.R_lt (by (with_reducible repeat (first | apply Kd.R_alloc | apply Kd.R_drewN | apply Kd.R_drew)); exact (Kd.R_mono (Kd.R_far (p := ⟨gb356, 0, none⟩) (Kd.R_types HO360.out BK356.out (by decide)) (fun _ hk => hk.2) (.slice Ao37 t361.length co37)) (fun _ h_ => h_.1))))) (Kd.R_lt (by (with_reducible repeat (first | apply Kd.R_alloc | apply Kd.R_drewN | apply Kd.R_drew)); exact (Kd.R_mono (Kd.R_far (p := ⟨gb356, 0, none⟩) (Kd.R_types HO363.out BK356.out (by decide)) (fun _ hk => hk.2) (.slice Ao37 t361.length co37)) (fun _ h_ => h_.1))))) (below_size (hkS HB)))) (hkA (Aside0.mk (blk_below (g := gb351) (o := .cells #[.bool a0_0, .slice A0_1 l0_1.length c0_1, .int .i64 a0_2] 30 (0, 0)) hkPp hb)) (hkA (Aside0.mk (blk_below (g := gb352) (o := .cells #[.bool false, .slice none 0 0, .int .i64 0] 30 (0, 0)) hkPp hb)) (hkA (Aside0.mk (blk_below (g := gb356) (o := .cells #[.slice Ao37 t361.length co37] 26 (0, 0)) hkPp hb)) (hkU HB hb)))))))); clear HO_352001 HO355 HO360 HO363 BK351 BK352 BK356 HB; obtain ⟨HO_352001, HO355, HO360, HO363, HO367, BK351, BK352, BK356, HB⟩ := n_; (try clear hb); (try clear hk); (try clear ho0); obtain ⟨Ao42, co42, eo42⟩ := Kd.R_slice HO367.out; subst eo42) | ((with_reducible refine gate_callee (f := 53) rfl ?_); refine hkGo (N := some 50) Tryd.func53 #[.agg #[.bool t364, .slice Ao42 t365.length co42], .int .i64 a1] ?_; (with_reducible refine (spec_l4make.calls kj3 t364 _ _ t365 a1 t368 t369 t372 _ ?side1 ?side2 A22.out).mono ?_); (case side1 => exact hkC ((Kd.R_reads' HO367.out).2.2)); (case side2 => exact (Kd.R_reads' HO367.out).2.1); rintro e w43 ⟨v370, rfl, ho0, hb⟩; refine ⟨_, rfl, ?_⟩; have n_ := hkA (Aside0.mk (Kd.V_elder' (by (with_reducible repeat (first | apply Kd.V_alloc | apply Kd.V_drewN | apply Kd.V_drew)); exact HO_352001.out) (Kd.R_base ho0) hb)) (hkA (Aside0.mk (Kd.R_elder' (hkR HO355) (Kd.R_base ho0) hb)) (hkA (Aside0.mk (Kd.R_elder' (hkR HO360) (Kd.R_base ho0) hb)) (hkA (Aside0.mk (Kd.R_elder' (hkR HO363) (Kd.R_base ho0) hb)) (hkA (Aside0.mk (Kd.R_elder' (hkR HO367) (Kd.R_base ho0) hb)) (hkA (Aside0.mk (Kd.R_lower (Kd.R_new' (Kd.R_new' (Kd.R_new' (Kd.R_new' (Kd.R_newM (M := fun k_ => (w.heap.size ≤ k_)) ho0 (below_size (hkS HB)) (fun k_ h_ => h_)) (Kd.R_lt (hkR HO355))) (Kd.R_lt (hkR HO360))) (Kd.R_lt (hkR HO363))) (Kd.R_lt (hkR HO367))) (below_size (hkS HB)))) (hkA (hkBb BK351 hb) (hkA (hkBb BK352 hb) (hkA (hkBb BK356 hb) (hkU HB hb))))))))); clear HO_352001 HO355 HO360 HO363 HO367 BK351 BK352 BK356 HB; obtain ⟨HO_352001, HO355, HO360, HO363, HO367, HO371, BK351, BK352, BK356, HB⟩ := n_; (try clear hb); (try clear hk); (try clear ho0); obtain ⟨hcz44_0, hfz44_0, hcz44_1, hfz44_1, hcz44_2, hfz44_2⟩ := hkc3 BK352; obtain ⟨Ao45, co45, eo45⟩ := Kd.R_slice HO371.out; subst eo45))
     refine bodyPost_ret (results_ct rfl _ _ gb352 30 #[.bool t368, .slice Ao45 t369.length co45, .int .i64 t372] (0, 0) _ rfl hkPp Tryd.underlying30 rfl (by kernel_rfl)) rfl ?_
     exact ⟨_, hkE, Kd.V_mono (Kd.R_V (by (with_reducible repeat (first | apply Kd.R_alloc | apply Kd.R_drewN | apply Kd.R_drew)); exact Kd.R_mono (Kd.R_far (p := ⟨gb352, 2, none⟩) (Kd.R_far (p := ⟨gb352, 1, none⟩) (Kd.R_far (p := ⟨gb352, 0, none⟩) (Kd.R_types HO371.out BK352.out (by decide)) (fun _ hk => hk.2) (.bool t368)) (fun _ hk => hk.2) (.slice Ao45 t369.length co45)) (fun _ hk => hk.2) (.int .i64 t372)) (fun _ hk => hk.1.1.1.1.1.1))) (fun k_ hk => by first | exact ⟨(.inr (hk.1)), hk.2⟩ | exact (.inr (hk))), hkS HB⟩
    ·replace c18 := Bool.eq_false_iff.mpr c18
     subst c18
     have H1 : ((spec_l3make.f kj3 a0_0 t353).bind fun bt373 => ((spec_l4make.f kj3 bt373.1 bt373.2 a1).bind fun bt377 => (some (bt377.1, bt377.2.1, bt377.2.2, false)))) = some (r1, r2, r3, r4) := by rw [if_neg (show ¬ (false = true) by decide)] at H; exact H
     clear H
     have H := H1
     clear H1
     replace H := hBi H
     obtain ⟨⟨t373, t374⟩, A460, H⟩ := H
     replace H : ((spec_l4make.f kj3 t373 t374 a1).bind fun bt377 => (some (bt377.1, bt377.2.1, bt377.2.2, false))) = some (r1, r2, r3, r4) := H
     have A46 := Aside0.mk A460
     clear A460
     replace H := hBi H
     obtain ⟨⟨t377, t378, t381⟩, A470, H⟩ := H
     replace H : (some (t377, t378, t381, false)) = some (r1, r2, r3, r4) := H
     have A47 := Aside0.mk A470
     clear A470
     simp only [Option.some.injEq, Prod.mk.injEq] at H
     obtain ⟨rfl, rfl, rfl, rfl⟩ := H
     have hnb48 := NB351_352.out
     have hnc48 := NB352_351.out
     obtain ⟨hcz49_0, hfz49_0, hcz49_1, hfz49_1, hcz49_2, hfz49_2⟩ := hkc3 BK351
     go_wp2_with (first | ((with_reducible refine gate_callee (f := 79) rfl ?_); refine hkGo (N := some 31) Tryd.func79 #[.agg #[.slice A0_1 l0_1.length c0_1], .int .i64 (wrap64 (a1 - a0_2))] ?_; (with_reducible refine (spec_l2shr.calls kj3 _ _ l0_1 (wrap64 (a1 - a0_2)) t353 _ ?side1 ?side2 A16.out).mono ?_); (case side1 => exact hkC ((Kd.V_reads' HO_352001.out).2.2)); (case side2 => exact (Kd.V_reads' HO_352001.out).2.1); rintro e w50 ⟨v354, rfl, ho0, hb⟩; refine ⟨_, rfl, ?_⟩; have n_ := hkA (Aside0.mk (Kd.V_elder' (by (with_reducible repeat (first | apply Kd.V_alloc | apply Kd.V_drewN | apply Kd.V_drew)); exact HO_352001.out) (Kd.R_base ho0) hb)) (hkA (Aside0.mk (Kd.R_lower (Kd.R_newM (M := fun k_ => (w.heap.size ≤ k_)) ho0 (below_size (hkS HB)) (fun k_ h_ => h_)) (below_size (hkS HB)))) (hkA (hkBb BK351 hb) (hkA (hkBb BK352 hb) (hkU HB hb)))); clear HO_352001 BK351 BK352 HB; obtain ⟨HO_352001, HO355, BK351, BK352, HB⟩ := n_; (try clear hb); (try clear hk); (try clear ho0)) | ((with_reducible refine gate_dst (N := 9) rfl ?_); refine hkBox (N := 9) (cs := #[.slice none 0 0]) (t := 26) ?_; intro gb356 hg w51 hbox hb; have n_ := hkA (Aside0.mk (Kd.V_below (Kd.V_elderB (by (with_reducible repeat (first | apply Kd.V_alloc | apply Kd.V_drewN | apply Kd.V_drew)); exact HO_352001.out) gb356 (Nat.le_of_eq hg.symm)) hb)) (hkA (hkRb HO355 hb) (hkA (hkBb BK351 hb) (hkA (hkBb BK352 hb) (hkA (hkU HB hb) (hkA (Aside0.mk (hbox)) (hkA (hkG hg (hkS HB)) (hkA (hkG hg (hkS HB)) (hkA (hkN hg BK351) (hkA (hkM hg BK351) (hkA (hkN hg BK352) (hkM hg BK352))))))))))); clear HO_352001 HO355 BK351 BK352 HB; obtain ⟨HO_352001, HO355, BK351, BK352, HB, BK356, GW356, GE356, NB351_356, NB356_351, NB352_356, NB356_352⟩ := n_; clear hb hbox hg; obtain ⟨Ao52, co52, eo52⟩ := Kd.R_slice HO355.out; subst eo52; have hnb53 := NB356_351.out; have hnc53 := NB351_356.out; have hnb54 := NB356_352.out; have hnc54 := NB352_356.out; obtain ⟨hcz55_0, hfz55_0⟩ := hkc1 BK356; obtain ⟨hcz56_0, hfz56_0, hcz56_1, hfz56_1, hcz56_2, hfz56_2⟩ := hkc3 BK351) | ((with_reducible refine gate_callee (f := 151) rfl ?_); refine hkGo (N := some 40) Tryd.func151 #[.bool a0_0, .agg #[.slice A0_1 l0_1.length c0_1], .int .i64 (wrap64 (a1 - a0_2)), .int .i64 a2] ?_; (with_reducible refine (spec_l4ups.calls kj3 a0_0 _ _ l0_1 (wrap64 (a1 - a0_2)) a2 false _ ?side1 ?side2 A17.out).mono ?_); (case side1 => apply hkVr (e := 3) (base := w.heap.size) (n := l0_1.length) (c := c0_1); exact (by (with_reducible repeat (first | apply Kd.V_alloc | apply Kd.V_drewN | apply Kd.V_drew)); exact (Kd.V_mono (Kd.V_far (p := ⟨gb356, 0, none⟩) (Kd.V_mono HO_352001.out (fun k_ hk => (⟨hk, hk.2⟩ : _ ∧ k_ ≠ gb356))) (fun _ hk => hk.2) (.slice Ao52 t353.length co52)) (fun _ h_ => h_.1)))); (case side2 => exact (Kd.V_reads' HO_352001.out).2.1); rintro e w57 ⟨rfl, hb⟩; refine ⟨_, rfl, ?_⟩; have n_ := hkA (Aside0.mk (Kd.V_below (by (with_reducible repeat (first | apply Kd.V_alloc | apply Kd.V_drewN | apply Kd.V_drew)); exact (Kd.V_mono (Kd.V_far (p := ⟨gb356, 0, none⟩) (Kd.V_mono HO_352001.out (fun k_ hk => (⟨hk, hk.2⟩ : _ ∧ k_ ≠ gb356))) (fun _ hk => hk.2) (.slice Ao52 t353.length co52)) (fun _ h_ => h_.1))) hb)) (hkA (Aside0.mk (Kd.R_below (by (with_reducible repeat (first | apply Kd.R_alloc | apply Kd.R_drewN | apply Kd.R_drew)); exact (Kd.R_mono (Kd.R_far (p := ⟨gb356, 0, none⟩) (Kd.R_types HO355.out BK356.out (by decide)) (fun _ hk => hk.2) (.slice Ao52 t353.length co52)) (fun _ h_ => h_.1))) hb)) (hkA (Aside0.mk (blk_below (g := gb351) (o := .cells #[.bool a0_0, .slice A0_1 l0_1.length c0_1, .int .i64 a0_2] 30 (0, 0)) hkPp hb)) (hkA (Aside0.mk (blk_below (g := gb352) (o := .cells #[.bool false, .slice none 0 0, .int .i64 0] 30 (0, 0)) hkPp hb)) (hkA (Aside0.mk (blk_below (g := gb356) (o := .cells #[.slice Ao52 t353.length co52] 26 (0, 0)) hkPp hb)) (hkU HB hb))))); clear HO_352001 HO355 BK351 BK352 BK356 HB; obtain ⟨HO_352001, HO355, BK351, BK352, BK356, HB⟩ := n_; (try clear hb); (try clear hk); obtain ⟨hcz58_0, hfz58_0, hcz58_1, hfz58_1, hcz58_2, hfz58_2⟩ := hkc3 BK351; obtain ⟨hcz59_0, hfz59_0⟩ := hkc1 BK356) | ((with_reducible refine gate_callee (f := 46) rfl ?_); refine hkGo (N := some 48) Tryd.func46 #[.bool a0_0, .agg #[.slice Ao52 t353.length co52]] ?_; (with_reducible refine (spec_l3make.calls kj3 a0_0 _ _ t353 t373 t374 _ ?side1 ?side2 A46.out).mono ?_); (case side1 => exact hkC ((Kd.R_reads' HO355.out).2.2)); (case side2 => exact (Kd.R_reads' HO355.out).2.1); rintro e w60 ⟨v375, rfl, ho0, hb⟩; refine ⟨_, rfl, ?_⟩; have n_ := hkA (Aside0.mk (Kd.V_elder' (by (with_reducible repeat (first | apply Kd.V_alloc | apply Kd.V_drewN | apply Kd.V_drew)); exact HO_352001.out) (Kd.R_base ho0) hb)) (hkA (Aside0.mk (Kd.R_elder' (hkR HO355) (Kd.R_base ho0) hb)) (hkA (Aside0.mk (Kd.R_lower (Kd.R_new' (Kd.R_newM (M := fun k_ => (w.heap.size ≤ k_)) ho0 (below_size (hkS HB)) (fun k_ h_ => h_)) (Kd.R_lt (hkR HO355))) (below_size (hkS HB)))) (hkA (hkBb BK351 hb) (hkA (hkBb BK352 hb) (hkA (hkBb BK356 hb) (hkU HB hb)))))); clear HO_352001 HO355 BK351 BK352 BK356 HB; obtain ⟨HO_352001, HO355, HO376, BK351, BK352, BK356, HB⟩ := n_; (try clear hb); (try clear hk); (try clear ho0); obtain ⟨Ao61, co61, eo61⟩ := Kd.R_slice HO376.out; subst eo61) | ((with_reducible refine gate_callee (f := 53) rfl ?_); refine hkGo (N := some 50) Tryd.func53 #[.agg #[.bool t373, .slice Ao61 t374.length co61], .int .i64 a1] ?_; (with_reducible refine (spec_l4make.calls kj3 t373 _ _ t374 a1 t377 t378 t381 _ ?side1 ?side2 A47.out).mono ?_); (case side1 => exact hkC ((Kd.R_reads' HO376.out).2.2)); (case side2 => exact (Kd.R_reads' HO376.out).2.1); rintro e w62 ⟨v379, rfl, ho0, hb⟩; refine ⟨_, rfl, ?_⟩; have n_ := hkA (Aside0.mk (Kd.V_elder' (by (with_reducible repeat (first | apply Kd.V_alloc | apply Kd.V_drewN | apply Kd.V_drew)); exact HO_352001.out) (Kd.R_base ho0) hb)) (hkA (Aside0.mk (Kd.R_elder' (hkR HO355) (Kd.R_base ho0) hb)) (hkA (Aside0.mk (Kd.R_elder' (hkR HO376) (Kd.R_base ho0) hb)) (hkA (Aside0.mk (Kd.R_lower (Kd.R_new' (Kd.R_new' (Kd.R_newM (M := fun k_ => (w.heap.size ≤ k_)) ho0 (below_size (hkS HB)) (fun k_ h_ => h_)) (Kd.R_lt (hkR HO355))) (Kd.R_lt (hkR HO376))) (below_size (hkS HB)))) (hkA (hkBb BK351 hb) (hkA (hkBb BK352 hb) (hkA (hkBb BK356 hb) (hkU HB hb))))))); clear HO_352001 HO355 HO376 BK351 BK352 BK356 HB; obtain ⟨HO_352001, HO355, HO376, HO380, BK351, BK352, BK356, HB⟩ := n_; (try clear hb); (try clear hk); (try clear ho0); obtain ⟨hcz63_0, hfz63_0, hcz63_1, hfz63_1, hcz63_2, hfz63_2⟩ := hkc3 BK352; obtain ⟨Ao64, co64, eo64⟩ := Kd.R_slice HO380.out; subst eo64))
     refine bodyPost_ret (results_ct rfl _ _ gb352 30 #[.bool t377, .slice Ao64 t378.length co64, .int .i64 t381] (0, 0) _ rfl hkPp Tryd.underlying30 rfl (by kernel_rfl)) rfl ?_
     exact ⟨_, hkE, Kd.V_mono (Kd.R_V (by (with_reducible repeat (first | apply Kd.R_alloc | apply Kd.R_drewN | apply Kd.R_drew)); exact Kd.R_mono (Kd.R_far (p := ⟨gb352, 2, none⟩) (Kd.R_far (p := ⟨gb352, 1, none⟩) (Kd.R_far (p := ⟨gb352, 0, none⟩) (Kd.R_types HO380.out BK352.out (by decide)) (fun _ hk => hk.2) (.bool t377)) (fun _ hk => hk.2) (.slice Ao64 t378.length co64)) (fun _ hk => hk.2) (.int .i64 t381)) (fun _ hk => hk.1.1.1.1))) (fun k_ hk => by first | exact ⟨(.inr (hk.1)), hk.2⟩ | exact (.inr (hk))), hkS HB⟩

end Go.Proofs.YtgjpahofopoflaaDoor.PFnFlOrder
