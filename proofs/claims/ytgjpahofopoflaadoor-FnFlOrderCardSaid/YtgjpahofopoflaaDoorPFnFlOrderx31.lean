-- Written by our own driver (wip/hand/hprint.py) over the seat's translation.
import Derived.Test.YtgjpahofopoflaaDoorPFnFlOrderx0
import Derived.Test.YtgjpahofopoflaaDoorPFnFlOrderx29
import Derived.Test.YtgjpahofopoflaaDoorPFnFlOrderx30
namespace Go.Proofs.YtgjpahofopoflaaDoor.PFnFlOrder
open Go.RowKit Go.Proofs.YtgjpahofopoflaaDoorW.PrintWords Go.Proofs.YtgjpahofopoflaaDoorW.PrintLast Go.Proofs.YtgjpahofopoflaaDoorW.PrintMore
attribute [local go_sem] max2_int min2_int max_two min_two max_three min_three max_four min_four   -- for this text's walks alone
set_option linter.unusedVariables false
set_option linter.unusedSimpArgs false

/-! ### impl_signedCompare: function 122 -/
mutual
def impl_signedCompare.j0 : Nat → Bool → List Int → Bool → List Int → Bool → Option (Int)
 | 0, _, _, _, _, _ => none
 | k + 1, x0, x1, x2, x3, x9 => if x9 = true then (some (-1)) else (if x0 = true then (impl_signedCompare.j1 k x0 x1 x3 false) else (impl_signedCompare.j1 k x0 x1 x3 x2))
def impl_signedCompare.j1 : Nat → Bool → List Int → List Int → Bool → Option (Int)
 | 0, _, _, _, _ => none
 | k + 1, x0, x1, x3, x15 => if x15 = true then (some 1) else (if x0 = true then ((impl_compare.f k x3 x1).bind fun t639 => (some t639)) else ((impl_compare.f k x1 x3).bind fun t640 => (some t640)))
end
def impl_signedCompare.f (k : Nat) (a0 : Bool) (l1 : List Int) (a2 : Bool) (l3 : List Int) : Option (Int) := if a0 = true then (impl_signedCompare.j0 k a0 l1 a2 l3 (!a2)) else (impl_signedCompare.j0 k a0 l1 a2 l3 false)
theorem impl_signedCompare.mono_l : ∀ k, (∀ y0 y1 y2 y3 y4, LeO (impl_signedCompare.j0 k y0 y1 y2 y3 y4) (impl_signedCompare.j0 (k + 1) y0 y1 y2 y3 y4)) ∧ (∀ y0 y1 y2 y3, LeO (impl_signedCompare.j1 k y0 y1 y2 y3) (impl_signedCompare.j1 (k + 1) y0 y1 y2 y3))
 | 0 => ⟨fun _ _ _ _ _ r h => by simp [impl_signedCompare.j0] at h, fun _ _ _ _ r h => by simp [impl_signedCompare.j1] at h⟩
 | k + 1 => by
  obtain ⟨ih0, ih1⟩ := impl_signedCompare.mono_l k
  refine ⟨?_, ?_⟩
  ·intro y0 y1 y2 y3 y4
   unfold impl_signedCompare.j0
   repeat' first
   | (with_reducible exact ih0 _ _ _ _ _)
   | (with_reducible exact ih1 _ _ _ _)
   | (with_reducible exact impl_compare.mono _ _ _)
   | (with_reducible exact LeO.refl _)
   | (with_reducible exact LeO.none _)
   | (with_reducible refine LeO.ite ?_ ?_)
   | (with_reducible refine LeO.bind ?_ (fun _ => ?_))
   | exact ih0 _ _ _ _ _
   | exact ih1 _ _ _ _
   | exact impl_compare.mono _ _ _
   | exact LeO.none _
   | refine LeO.ite ?_ ?_
   | refine LeO.bind ?_ (fun _ => ?_)
  ·intro y0 y1 y2 y3
   unfold impl_signedCompare.j1
   repeat' first
   | (with_reducible exact ih0 _ _ _ _ _)
   | (with_reducible exact ih1 _ _ _ _)
   | (with_reducible exact impl_compare.mono _ _ _)
   | (with_reducible exact LeO.refl _)
   | (with_reducible exact LeO.none _)
   | (with_reducible refine LeO.ite ?_ ?_)
   | (with_reducible refine LeO.bind ?_ (fun _ => ?_))
   | exact ih0 _ _ _ _ _
   | exact ih1 _ _ _ _
   | exact impl_compare.mono _ _ _
   | exact LeO.none _
   | refine LeO.ite ?_ ?_
   | refine LeO.bind ?_ (fun _ => ?_)
theorem impl_signedCompare.mono : ∀ a0 a1 a2 a3 k, LeO (impl_signedCompare.f k a0 a1 a2 a3) (impl_signedCompare.f (k + 1) a0 a1 a2 a3) := by
 intro a0 a1 a2 a3 k
 obtain ⟨ih0, ih1⟩ := impl_signedCompare.mono_l k
 unfold impl_signedCompare.f
 repeat' first
   | (with_reducible exact ih0 _ _ _ _ _)
   | (with_reducible exact ih1 _ _ _ _)
   | (with_reducible exact impl_compare.mono _ _ _)
   | (with_reducible exact LeO.refl _)
   | (with_reducible exact LeO.none _)
   | (with_reducible refine LeO.ite ?_ ?_)
   | (with_reducible refine LeO.bind ?_ (fun _ => ?_))
   | exact ih0 _ _ _ _ _
   | exact ih1 _ _ _ _
   | exact impl_compare.mono _ _ _
   | exact LeO.none _
   | refine LeO.ite ?_ ?_
   | refine LeO.bind ?_ (fun _ => ?_)
set_option maxHeartbeats 8000000 in
set_option maxRecDepth 100000 in
theorem impl_signedCompare.calls (k : Nat) (a0 : Bool) (A1 : Option Addr) (c1 : Nat) (l1 : List Int) (a2 : Bool) (A3 : Option Addr) (c3 : Nat) (l3 : List Int) (r : Int) (w : World) (hr1 : Kd.C (Kd.int .i64) w A1 l1.length l1) (hc1 : l1.length ≤ c1) (hr3 : Kd.C (Kd.int .i64) w A3 l3.length l3) (hc3 : l3.length ≤ c3) (h : impl_signedCompare.f k a0 l1 a2 l3 = some r) :
  Calls Tryd.prog 122 #[.bool a0, .slice A1 l1.length c1, .bool a2, .slice A3 l3.length c3] w fun e w' => e = .returned (.int .i64 r) ∧ Drawn0 w w' := by
 have HR1 := Aside0.mk hr1
 have HC1 := Aside0.mk hc1
 clear hr1 hc1
 have HR3 := Aside0.mk hr3
 have HC3 := Aside0.mk hc3
 clear hr3 hc3
 have H : (if a0 = true then (impl_signedCompare.j0 k a0 l1 a2 l3 (!a2)) else (impl_signedCompare.j0 k a0 l1 a2 l3 false)) = some r := h
 clear h
 have HC5 := Aside0.mk H
 clear H
 go_enter Tryd.func122, Tryd.ntmps122
 go_upto_region 1 with (fail)
 go_cut [9] (fun v9 wc => ∃ (kq : Nat) (x9_4 : Bool), v9 = .bool x9_4 ∧ Aside0 (impl_signedCompare.j0 kq a0 l1 a2 l3 x9_4 = some r) ∧ Aside0 (kq ≤ k) ∧ Drawn0 w wc)
 case first =>
  have H := HC5.out
  clear HC5
  by_cases c6 : a0 = true
  ·subst c6
   have H1 : (impl_signedCompare.j0 k true l1 a2 l3 (!a2)) = some r := by rw [if_pos rfl] at H; exact H
   clear H
   have H := H1
   clear H1
   have H' := Aside0.mk H
   clear H
   go_wp2
   go_meet
   case rel => exact ⟨_, (!a2), (by first | rfl | (simp; done) | (simp [*]; done)), H', ⟨by first | omega | exact Nat.le_refl _⟩, by repeat (first | exact Drawn0.refl _ | apply Drawn0.step)⟩
  ·replace c6 := Bool.eq_false_iff.mpr c6
   subst c6
   have H1 : (impl_signedCompare.j0 k false l1 a2 l3 false) = some r := by rw [if_neg (show ¬ (false = true) by decide)] at H; exact H
   clear H
   have H := H1
   clear H1
   have H' := Aside0.mk H
   clear H
   go_wp2
   go_meet
   case rel => exact ⟨_, (false), (by first | rfl | (simp; done) | (simp [*]; done)), H', ⟨by first | omega | exact Nat.le_refl _⟩, by repeat (first | exact Drawn0.refl _ | apply Drawn0.step)⟩
 case rest =>
  clear HC5
  try clear c1
  try clear p2
  try clear c3
  try clear c6
  obtain ⟨kq, x9_4, rfl, HA, HJ4, ⟨mc4, rfl⟩⟩ := hcut
  cases kq with
  | zero => exact absurd HA.out (by simp [impl_signedCompare.j0])
  | succ kj4 =>
   have H := HA.out
   clear HA
   simp only [impl_signedCompare.j0] at H
   by_cases c7 : x9_4 = true
   ·subst c7
    have H1 : (some (-1)) = some r := by rw [if_pos rfl] at H; exact H
    clear H
    have H := H1
    clear H1
    obtain rfl := Option.some.inj H
    go_wp2
    go_ret
    exact ⟨by first | rfl | (simp; done) | (simp [*]; done), by repeat (first | exact Drawn0.refl _ | apply Drawn0.step)⟩
   ·replace c7 := Bool.eq_false_iff.mpr c7
    subst c7
    have H1 : (if a0 = true then (impl_signedCompare.j1 kj4 a0 l1 l3 false) else (impl_signedCompare.j1 kj4 a0 l1 l3 a2)) = some r := by rw [if_neg (show ¬ (false = true) by decide)] at H; exact H
    clear H
    have H := H1
    clear H1
    have HC8 := Aside0.mk H
    clear H
    go_upto_region 3 with (fail)
    go_cut [15] (fun v15 wc => ∃ (kq : Nat) (x15_7 : Bool), v15 = .bool x15_7 ∧ Aside0 (impl_signedCompare.j1 kq a0 l1 l3 x15_7 = some r) ∧ Aside0 (kq ≤ kj4) ∧ Drawn0 w wc)
    case first =>
     have H := HC8.out
     clear HC8
     by_cases c9 : a0 = true
     ·subst c9
      have H1 : (impl_signedCompare.j1 kj4 true l1 l3 false) = some r := by rw [if_pos rfl] at H; exact H
      clear H
      have H := H1
      clear H1
      have H' := Aside0.mk H
      clear H
      go_wp2
      go_meet
      case rel => exact ⟨_, (false), (by first | rfl | (simp; done) | (simp [*]; done)), H', ⟨by have := HJ4.out; first | omega | exact Nat.le_refl _⟩, by repeat (first | exact Drawn0.refl _ | apply Drawn0.step)⟩
     ·replace c9 := Bool.eq_false_iff.mpr c9
      subst c9
      have H1 : (impl_signedCompare.j1 kj4 false l1 l3 a2) = some r := by rw [if_neg (show ¬ (false = true) by decide)] at H; exact H
      clear H
      have H := H1
      clear H1
      have H' := Aside0.mk H
      clear H
      go_wp2
      go_meet
      case rel => exact ⟨_, (a2), (by first | rfl | (simp; done) | (simp [*]; done)), H', ⟨by have := HJ4.out; first | omega | exact Nat.le_refl _⟩, by repeat (first | exact Drawn0.refl _ | apply Drawn0.step)⟩
    case rest =>
     clear HC8
     try clear c1
     try clear p2
     try clear c3
     try clear c4
     try clear c6
     try clear c7
     try clear c9
     try clear p2
     obtain ⟨kq, x15_7, rfl, HA, HJ7, ⟨mc7, rfl⟩⟩ := hcut
     cases kq with
     | zero => exact absurd HA.out (by simp [impl_signedCompare.j1])
     | succ kj7 =>
      have H := HA.out
      clear HA
      simp only [impl_signedCompare.j1] at H
      by_cases c10 : x15_7 = true
      ·subst c10
       have H1 : (some 1) = some r := by rw [if_pos rfl] at H; exact H
       clear H
       have H := H1
       clear H1
       obtain rfl := Option.some.inj H
       go_wp2
       go_ret
       exact ⟨by first | rfl | (simp; done) | (simp [*]; done), by repeat (first | exact Drawn0.refl _ | apply Drawn0.step)⟩
      ·replace c10 := Bool.eq_false_iff.mpr c10
       subst c10
       have H1 : (if a0 = true then ((impl_compare.f kj7 l3 l1).bind fun t639 => (some t639)) else ((impl_compare.f kj7 l1 l3).bind fun t640 => (some t640))) = some r := by rw [if_neg (show ¬ (false = true) by decide)] at H; exact H
       clear H
       have H := H1
       clear H1
       by_cases c11 : a0 = true
       ·subst c11
        have H1 : ((impl_compare.f kj7 l3 l1).bind fun t639 => (some t639)) = some r := by rw [if_pos rfl] at H; exact H
        clear H
        have H := H1
        clear H1
        replace H := hBi H
        obtain ⟨t639, A120, H⟩ := H
        replace H : (some t639) = some r := H
        have A12 := Aside0.mk A120
        clear A120
        obtain rfl := Option.some.inj H
        go_wp2_with (first | ((with_reducible refine gate_callee (f := 134) rfl ?_); refine hkGo (N := some 25) Tryd.func134 #[.slice A3 l3.length c3, .slice A1 l1.length c1] ?_; (with_reducible refine (impl_compare.calls kj7 _ _ l3 _ _ l1 t639 _ ?side1 ?side2 ?side3 ?side4 A12.out).mono ?_); (case side1 => exact hkC (HR3.out)); (case side2 => exact HC3.out); (case side3 => exact hkC (HR1.out)); (case side4 => exact HC1.out); rintro e w' ⟨rfl, ⟨nd, rfl⟩⟩; refine ⟨_, rfl, ?_⟩))
        go_ret
        exact ⟨by first | rfl | (simp; done) | (simp [*]; done), by repeat (first | exact Drawn0.refl _ | apply Drawn0.step)⟩
       ·replace c11 := Bool.eq_false_iff.mpr c11
        subst c11
        have H1 : ((impl_compare.f kj7 l1 l3).bind fun t640 => (some t640)) = some r := by rw [if_neg (show ¬ (false = true) by decide)] at H; exact H
        clear H
        have H := H1
        clear H1
        replace H := hBi H
        obtain ⟨t640, A130, H⟩ := H
        replace H : (some t640) = some r := H
        have A13 := Aside0.mk A130
        clear A130
        obtain rfl := Option.some.inj H
        go_wp2_with (first | ((with_reducible refine gate_callee (f := 134) rfl ?_); refine hkGo (N := some 28) Tryd.func134 #[.slice A1 l1.length c1, .slice A3 l3.length c3] ?_; (with_reducible refine (impl_compare.calls kj7 _ _ l1 _ _ l3 t640 _ ?side1 ?side2 ?side3 ?side4 A13.out).mono ?_); (case side1 => exact hkC (HR1.out)); (case side2 => exact HC1.out); (case side3 => exact hkC (HR3.out)); (case side4 => exact HC3.out); rintro e w' ⟨rfl, ⟨nd, rfl⟩⟩; refine ⟨_, rfl, ?_⟩))
        go_ret
        exact ⟨by first | rfl | (simp; done) | (simp [*]; done), by repeat (first | exact Drawn0.refl _ | apply Drawn0.step)⟩

/-! ### impl_exact_compare: function 100 -/
def impl_exact_compare.f (k : Nat) (a0_0 : Bool) (l0_1 : List Int) (a0_2 : Int) (a1_0 : Bool) (l1_1 : List Int) (a1_2 : Int) : Option (Int) := (impl_aligned.f k a0_0 l0_1 a0_2 a1_0 l1_1 a1_2).bind fun bt643 => ((impl_signedCompare.f k a0_0 bt643.1 a1_0 bt643.2.1).bind fun t650 => (some t650))
theorem impl_exact_compare.mono : ∀ a0 a1 a2 a3 a4 a5 k, LeO (impl_exact_compare.f k a0 a1 a2 a3 a4 a5) (impl_exact_compare.f (k + 1) a0 a1 a2 a3 a4 a5) := by
 intro a0 a1 a2 a3 a4 a5 k
 unfold impl_exact_compare.f
 repeat' first
   | (with_reducible exact impl_aligned.mono _ _ _ _ _ _ _)
   | (with_reducible exact impl_signedCompare.mono _ _ _ _ _)
   | (with_reducible exact LeO.refl _)
   | (with_reducible exact LeO.none _)
   | (with_reducible refine LeO.ite ?_ ?_)
   | (with_reducible refine LeO.bind ?_ (fun _ => ?_))
   | exact impl_aligned.mono _ _ _ _ _ _ _
   | exact impl_signedCompare.mono _ _ _ _ _
   | exact LeO.none _
   | refine LeO.ite ?_ ?_
   | refine LeO.bind ?_ (fun _ => ?_)
set_option maxHeartbeats 8000000 in
set_option maxRecDepth 100000 in
theorem impl_exact_compare.calls (k : Nat) (a0_0 : Bool) (A0_1 : Option Addr) (c0_1 : Nat) (l0_1 : List Int) (a0_2 : Int) (a1_0 : Bool) (A1_1 : Option Addr) (c1_1 : Nat) (l1_1 : List Int) (a1_2 : Int) (r : Int) (w : World) (hr0_1 : Kd.C (Kd.int .i64) w A0_1 l0_1.length l0_1) (hc0_1 : l0_1.length ≤ c0_1) (hr1_1 : Kd.C (Kd.int .i64) w A1_1 l1_1.length l1_1) (hc1_1 : l1_1.length ≤ c1_1) (h : impl_exact_compare.f k a0_0 l0_1 a0_2 a1_0 l1_1 a1_2 = some r) :
  Calls Tryd.prog 100 #[.agg #[.bool a0_0, .slice A0_1 l0_1.length c0_1, .int .i64 a0_2], .agg #[.bool a1_0, .slice A1_1 l1_1.length c1_1, .int .i64 a1_2]] w fun e w' => e = .returned (.int .i64 r) ∧ Below w.heap.size w w' := by
 have hu76 := Tryd.underlying76
 have HR0_1 := Aside0.mk hr0_1
 have HC0_1 := Aside0.mk hc0_1
 clear hr0_1 hc0_1
 have HR1_1 := Aside0.mk hr1_1
 have HC1_1 := Aside0.mk hc1_1
 clear hr1_1 hc1_1
 have HB := Aside0.mk (Below.refl w.heap.size w)
 have H : ((impl_aligned.f k a0_0 l0_1 a0_2 a1_0 l1_1 a1_2).bind fun bt643 => ((impl_signedCompare.f k a0_0 bt643.1 a1_0 bt643.2.1).bind fun t650 => (some t650))) = some r := h
 clear h
 replace H := hBi H
 obtain ⟨⟨t643, t646, t649⟩, A30, H⟩ := H
 replace H : ((impl_signedCompare.f k a0_0 t643 a1_0 t646).bind fun t650 => (some t650)) = some r := H
 have A3 := Aside0.mk A30
 clear A30
 replace H := hBi H
 obtain ⟨t650, A40, H⟩ := H
 replace H : (some t650) = some r := H
 have A4 := Aside0.mk A40
 clear A40
 obtain rfl := Option.some.inj H
 go_enter Tryd.func100, Tryd.ntmps100
 go_wp2_with (first | ((with_reducible refine gate_dst (N := 2) rfl ?_); refine hkBox (N := 2) (cs := #[.bool a0_0, .slice A0_1 l0_1.length c0_1, .int .i64 a0_2]) (t := 76) ?_; intro gb641 hg w5 hbox hb; have n_ := hkA (hkU HB hb) (hkA (Aside0.mk (hbox)) (hkA (hkG hg (hkS HB)) (hkG hg (hkS HB)))); clear HB; obtain ⟨HB, BK641, GW641, GE641⟩ := n_; clear hb hbox hg) | ((with_reducible refine gate_dst (N := 3) rfl ?_); refine hkBox (N := 3) (cs := #[.bool a1_0, .slice A1_1 l1_1.length c1_1, .int .i64 a1_2]) (t := 76) ?_; intro gb642 hg w6 hbox hb; have n_ := hkA (hkBb BK641 hb) (hkA (hkU HB hb) (hkA (Aside0.mk (hbox)) (hkA (hkG hg (hkS HB)) (hkA (hkG hg (hkS HB)) (hkA (hkN hg BK641) (hkM hg BK641)))))); clear BK641 HB; obtain ⟨BK641, HB, BK642, GW642, GE642, NB641_642, NB642_641⟩ := n_; clear hb hbox hg; have hnb7 := NB641_642.out; have hnc7 := NB642_641.out; obtain ⟨hcz8_0, hfz8_0, hcz8_1, hfz8_1, hcz8_2, hfz8_2⟩ := hkc3 BK641; obtain ⟨hcz9_0, hfz9_0, hcz9_1, hfz9_1, hcz9_2, hfz9_2⟩ := hkc3 BK642) | ((with_reducible refine gate_callee (f := 121) rfl ?_); refine hkGo (N := some 11) Tryd.func121 #[.agg #[.bool a0_0, .slice A0_1 l0_1.length c0_1, .int .i64 a0_2], .agg #[.bool a1_0, .slice A1_1 l1_1.length c1_1, .int .i64 a1_2]] ?_; (with_reducible refine (impl_aligned.calls k a0_0 _ _ l0_1 a0_2 a1_0 _ _ l1_1 a1_2 t643 t646 t649 _ ?side1 ?side2 ?side3 ?side4 A3.out).mono ?_); (case side1 => exact hkC ((Kd.C_below HR0_1.out HB.out))); (case side2 => exact HC0_1.out); (case side3 => exact hkC ((Kd.C_below HR1_1.out HB.out))); (case side4 => exact HC1_1.out); rintro e w10 ⟨v644, v647, rfl, ho0, ho1, hb⟩; refine ⟨_, rfl, ?_⟩; have n_ := hkA (Aside0.mk (Kd.R_lower ho0 (below_size (hkS HB)))) (hkA (Aside0.mk (Kd.R_lower ho1 (below_size (hkS HB)))) (hkA (hkBb BK641 hb) (hkA (hkBb BK642 hb) (hkU HB hb)))); clear BK641 BK642 HB; obtain ⟨HO645, HO648, BK641, BK642, HB⟩ := n_; (try clear hb); (try clear ho0); (try clear ho1); obtain ⟨hcz11_0, hfz11_0, hcz11_1, hfz11_1, hcz11_2, hfz11_2⟩ := hkc3 BK641; obtain ⟨hcz12_0, hfz12_0, hcz12_1, hfz12_1, hcz12_2, hfz12_2⟩ := hkc3 BK642; obtain ⟨Ao13, co13, eo13⟩ := Kd.R_slice HO645.out; subst eo13; obtain ⟨Ao14, co14, eo14⟩ := Kd.R_slice HO648.out; subst eo14) | ((with_reducible refine gate_callee (f := 122) rfl ?_); refine hkGo (N := some 21) Tryd.func122 #[.bool a0_0, .slice Ao13 t643.length co13, .bool a1_0, .slice Ao14 t646.length co14] ?_; (with_reducible refine (impl_signedCompare.calls k a0_0 _ _ t643 a1_0 _ _ t646 t650 _ ?side1 ?side2 ?side3 ?side4 A4.out).mono ?_); (case side1 => exact hkC ((Kd.R_reads' HO645.out).2.2)); (case side2 => exact (Kd.R_reads' HO645.out).2.1); (case side3 => exact hkC ((Kd.R_reads' HO648.out).2.2)); (case side4 => exact (Kd.R_reads' HO648.out).2.1); rintro e w' ⟨rfl, ⟨nd, rfl⟩⟩; refine ⟨_, rfl, ?_⟩))
 go_ret
 exact ⟨hkE, hkS HB⟩

end Go.Proofs.YtgjpahofopoflaaDoor.PFnFlOrder
