-- Written by our own driver (wip/hand/hprint.py) over the seat's translation.
import Derived.Test.YtgjpahofopoflaaPFnPacksx0
import Derived.Test.YtgjpahofopoflaaPFnPacksx4
import Derived.Test.YtgjpahofopoflaaPFnPacksx5
namespace Go.Proofs.Ytgjpahofopoflaa.PFnPacks
open Go.RowKit Go.Proofs.YtgjpahofopoflaaW.PrintWords Go.Proofs.YtgjpahofopoflaaW.PrintLast Go.Proofs.YtgjpahofopoflaaW.PrintMore
attribute [local go_sem] max2_int min2_int max_two min_two max_three min_three max_four min_four   -- for this text's walks alone
set_option linter.unusedVariables false
set_option linter.unusedSimpArgs false

/-! ### impl_signedCompare: function 96 -/
mutual
def impl_signedCompare.j0 : Nat → Bool → List Int → Bool → List Int → Bool → Option (Int)
 | 0, _, _, _, _, _ => none
 | k + 1, x0, x1, x2, x3, x9 => if x9 = true then (some (-1)) else (if x0 = true then (impl_signedCompare.j1 k x0 x1 x3 false) else (impl_signedCompare.j1 k x0 x1 x3 x2))
def impl_signedCompare.j1 : Nat → Bool → List Int → List Int → Bool → Option (Int)
 | 0, _, _, _, _ => none
 | k + 1, x0, x1, x3, x15 => if x15 = true then (some 1) else (if x0 = true then ((impl_compare.f k x3 x1).bind fun t146 => (some t146)) else ((impl_compare.f k x1 x3).bind fun t147 => (some t147)))
end
def impl_signedCompare.f (k : Nat) (a0 : Bool) (l1 : List Int) (a2 : Bool) (l3 : List Int) : Option (Int) := if a0 = true then (impl_signedCompare.j0 k a0 l1 a2 l3 (!a2)) else (impl_signedCompare.j0 k a0 l1 a2 l3 false)
theorem impl_signedCompare.mono_l : ∀ k, (∀ y0 y1 y2 y3 y4, LeO (impl_signedCompare.j0 k y0 y1 y2 y3 y4) (impl_signedCompare.j0 (k + 1) y0 y1 y2 y3 y4)) ∧ (∀ y0 y1 y2 y3, LeO (impl_signedCompare.j1 k y0 y1 y2 y3) (impl_signedCompare.j1 (k + 1) y0 y1 y2 y3))
 | 0 => ⟨fun _ _ _ _ _ r h => by simp [impl_signedCompare.j0] at h, fun _ _ _ _ r h => by simp [impl_signedCompare.j1] at h⟩
 | k + 1 => by
  obtain ⟨ih0, ih1⟩ := impl_signedCompare.mono_l k
  refine ⟨?_, ?_⟩
  ·intro y0 y1 y2 y3 y4
   unfold impl_signedCompare.j0
   repeat' first
   | (with_reducible exact ih0 _ _ _ _ _)
   | (with_reducible exact ih1 _ _ _ _)
   | (with_reducible exact impl_compare.mono _ _ _)
   | (with_reducible exact LeO.refl _)
   | (with_reducible exact LeO.none _)
   | (with_reducible refine LeO.ite ?_ ?_)
   | (with_reducible refine LeO.bind ?_ (fun _ => ?_))
   | exact ih0 _ _ _ _ _
   | exact ih1 _ _ _ _
   | exact impl_compare.mono _ _ _
   | exact LeO.none _
   | refine LeO.ite ?_ ?_
   | refine LeO.bind ?_ (fun _ => ?_)
  ·intro y0 y1 y2 y3
   unfold impl_signedCompare.j1
   repeat' first
   | (with_reducible exact ih0 _ _ _ _ _)
   | (with_reducible exact ih1 _ _ _ _)
   | (with_reducible exact impl_compare.mono _ _ _)
   | (with_reducible exact LeO.refl _)
   | (with_reducible exact LeO.none _)
   | (with_reducible refine LeO.ite ?_ ?_)
   | (with_reducible refine LeO.bind ?_ (fun _ => ?_))
   | exact ih0 _ _ _ _ _
   | exact ih1 _ _ _ _
   | exact impl_compare.mono _ _ _
   | exact LeO.none _
   | refine LeO.ite ?_ ?_
   | refine LeO.bind ?_ (fun _ => ?_)
theorem impl_signedCompare.mono : ∀ a0 a1 a2 a3 k, LeO (impl_signedCompare.f k a0 a1 a2 a3) (impl_signedCompare.f (k + 1) a0 a1 a2 a3) := by
 intro a0 a1 a2 a3 k
 obtain ⟨ih0, ih1⟩ := impl_signedCompare.mono_l k
 unfold impl_signedCompare.f
 repeat' first
   | (with_reducible exact ih0 _ _ _ _ _)
   | (with_reducible exact ih1 _ _ _ _)
   | (with_reducible exact impl_compare.mono _ _ _)
   | (with_reducible exact LeO.refl _)
   | (with_reducible exact LeO.none _)
   | (with_reducible refine LeO.ite ?_ ?_)
   | (with_reducible refine LeO.bind ?_ (fun _ => ?_))
   | exact ih0 _ _ _ _ _
   | exact ih1 _ _ _ _
   | exact impl_compare.mono _ _ _
   | exact LeO.none _
   | refine LeO.ite ?_ ?_
   | refine LeO.bind ?_ (fun _ => ?_)
set_option maxHeartbeats 8000000 in
set_option maxRecDepth 100000 in
theorem impl_signedCompare.calls (k : Nat) (a0 : Bool) (A1 : Option Addr) (c1 : Nat) (l1 : List Int) (a2 : Bool) (A3 : Option Addr) (c3 : Nat) (l3 : List Int) (r : Int) (w : World) (hr1 : Kd.C (Kd.int .i64) w A1 l1.length l1) (hc1 : l1.length ≤ c1) (hr3 : Kd.C (Kd.int .i64) w A3 l3.length l3) (hc3 : l3.length ≤ c3) (h : impl_signedCompare.f k a0 l1 a2 l3 = some r) :
  Calls Try.prog 96 #[.bool a0, .slice A1 l1.length c1, .bool a2, .slice A3 l3.length c3] w fun e w' => e = .returned (.int .i64 r) ∧ Drawn0 w w' := by
 have HR1 := Aside0.mk hr1
 have HC1 := Aside0.mk hc1
 clear hr1 hc1
 have HR3 := Aside0.mk hr3
 have HC3 := Aside0.mk hc3
 clear hr3 hc3
 have H : (if a0 = true then (impl_signedCompare.j0 k a0 l1 a2 l3 (!a2)) else (impl_signedCompare.j0 k a0 l1 a2 l3 false)) = some r := h
 clear h
 have HC5 := Aside0.mk H
 clear H
 go_enter Try.func96, Try.ntmps96
 go_upto_region 1 with (fail)
 go_cut [9] (fun v9 wc => ∃ (kq : Nat) (x9_4 : Bool), v9 = .bool x9_4 ∧ Aside0 (impl_signedCompare.j0 kq a0 l1 a2 l3 x9_4 = some r) ∧ Aside0 (kq ≤ k) ∧ Drawn0 w wc)
 case first =>
  have H := HC5.out
  clear HC5
  by_cases c6 : a0 = true
  ·subst c6
   have H1 : (impl_signedCompare.j0 k true l1 a2 l3 (!a2)) = some r := by rw [if_pos rfl] at H; exact H
   clear H
   have H := H1
   clear H1
   have H' := Aside0.mk H
   clear H
   go_wp2
   go_meet
   case rel => exact ⟨_, (!a2), (by first | rfl | (simp; done) | (simp [*]; done)), H', ⟨by first | omega | exact Nat.le_refl _⟩, by repeat (first | exact Drawn0.refl _ | apply Drawn0.step)⟩
  ·replace c6 := Bool.eq_false_iff.mpr c6
   subst c6
   have H1 : (impl_signedCompare.j0 k false l1 a2 l3 false) = some r := by rw [if_neg (show ¬ (false = true) by decide)] at H; exact H
   clear H
   have H := H1
   clear H1
   have H' := Aside0.mk H
   clear H
   go_wp2
   go_meet
   case rel => exact ⟨_, (false), (by first | rfl | (simp; done) | (simp [*]; done)), H', ⟨by first | omega | exact Nat.le_refl _⟩, by repeat (first | exact Drawn0.refl _ | apply Drawn0.step)⟩
 case rest =>
  clear HC5
  try clear c1
  try clear p2
  try clear c3
  try clear c6
  obtain ⟨kq, x9_4, rfl, HA, HJ4, ⟨mc4, rfl⟩⟩ := hcut
  cases kq with
  | zero => exact absurd HA.out (by simp [impl_signedCompare.j0])
  | succ kj4 =>
   have H := HA.out
   clear HA
   simp only [impl_signedCompare.j0] at H
   by_cases c7 : x9_4 = true
   ·subst c7
    have H1 : (some (-1)) = some r := by rw [if_pos rfl] at H; exact H
    clear H
    have H := H1
    clear H1
    obtain rfl := Option.some.inj H
    go_wp2
    go_ret
    exact ⟨by first | rfl | (simp; done) | (simp [*]; done), by repeat (first | exact Drawn0.refl _ | apply Drawn0.step)⟩
   ·replace c7 := Bool.eq_false_iff.mpr c7
    subst c7
    have H1 : (if a0 = true then (impl_signedCompare.j1 kj4 a0 l1 l3 false) else (impl_signedCompare.j1 kj4 a0 l1 l3 a2)) = some r := by rw [if_neg (show ¬ (false = true) by decide)] at H; exact H
    clear H
    have H := H1
    clear H1
    have HC8 := Aside0.mk H
    clear H
    go_upto_region 3 with (fail)
    go_cut [15] (fun v15 wc => ∃ (kq : Nat) (x15_7 : Bool), v15 = .bool x15_7 ∧ Aside0 (impl_signedCompare.j1 kq a0 l1 l3 x15_7 = some r) ∧ Aside0 (kq ≤ kj4) ∧ Drawn0 w wc)
    case first =>
     have H := HC8.out
     clear HC8
     by_cases c9 : a0 = true
     ·subst c9
      have H1 : (impl_signedCompare.j1 kj4 true l1 l3 false) = some r := by rw [if_pos rfl] at H; exact H
      clear H
      have H := H1
      clear H1
      have H' := Aside0.mk H
      clear H
      go_wp2
      go_meet
      case rel => exact ⟨_, (false), (by first | rfl | (simp; done) | (simp [*]; done)), H', ⟨by have := HJ4.out; first | omega | exact Nat.le_refl _⟩, by repeat (first | exact Drawn0.refl _ | apply Drawn0.step)⟩
     ·replace c9 := Bool.eq_false_iff.mpr c9
      subst c9
      have H1 : (impl_signedCompare.j1 kj4 false l1 l3 a2) = some r := by rw [if_neg (show ¬ (false = true) by decide)] at H; exact H
      clear H
      have H := H1
      clear H1
      have H' := Aside0.mk H
      clear H
      go_wp2
      go_meet
      case rel => exact ⟨_, (a2), (by first | rfl | (simp; done) | (simp [*]; done)), H', ⟨by have := HJ4.out; first | omega | exact Nat.le_refl _⟩, by repeat (first | exact Drawn0.refl _ | apply Drawn0.step)⟩
    case rest =>
     clear HC8
     try clear c1
     try clear p2
     try clear c3
     try clear c4
     try clear c6
     try clear c7
     try clear c9
     try clear p2
     obtain ⟨kq, x15_7, rfl, HA, HJ7, ⟨mc7, rfl⟩⟩ := hcut
     cases kq with
     | zero => exact absurd HA.out (by simp [impl_signedCompare.j1])
     | succ kj7 =>
      have H := HA.out
      clear HA
      simp only [impl_signedCompare.j1] at H
      by_cases c10 : x15_7 = true
      ·subst c10
       have H1 : (some 1) = some r := by rw [if_pos rfl] at H; exact H
       clear H
       have H := H1
       clear H1
       obtain rfl := Option.some.inj H
       go_wp2
       go_ret
       exact ⟨by first | rfl | (simp; done) | (simp [*]; done), by repeat (first | exact Drawn0.refl _ | apply Drawn0.step)⟩
      ·replace c10 := Bool.eq_false_iff.mpr c10
       subst c10
       have H1 : (if a0 = true then ((impl_compare.f kj7 l3 l1).bind fun t146 => (some t146)) else ((impl_compare.f kj7 l1 l3).bind fun t147 => (some t147))) = some r := by rw [if_neg (show ¬ (false = true) by decide)] at H; exact H
       clear H
       have H := H1
       clear H1
       by_cases c11 : a0 = true
       ·subst c11
        have H1 : ((impl_compare.f kj7 l3 l1).bind fun t146 => (some t146)) = some r := by rw [if_pos rfl] at H; exact H
        clear H
        have H := H1
        clear H1
        replace H := hBi H
        obtain ⟨t146, A120, H⟩ := H
        replace H : (some t146) = some r := H
        have A12 := Aside0.mk A120
        clear A120
        obtain rfl := Option.some.inj H
        go_wp2_with (first | ((with_reducible refine gate_callee (f := 101) rfl ?_); refine hkGo (N := some 25) Try.func101 #[.slice A3 l3.length c3, .slice A1 l1.length c1] ?_; (with_reducible refine (impl_compare.calls kj7 _ _ l3 _ _ l1 t146 _ ?side1 ?side2 ?side3 ?side4 A12.out).mono ?_); (case side1 => exact hkC (HR3.out)); (case side2 => exact HC3.out); (case side3 => exact hkC (HR1.out)); (case side4 => exact HC1.out); rintro e w' ⟨rfl, ⟨nd, rfl⟩⟩; refine ⟨_, rfl, ?_⟩))
        go_ret
        exact ⟨by first | rfl | (simp; done) | (simp [*]; done), by repeat (first | exact Drawn0.refl _ | apply Drawn0.step)⟩
       ·replace c11 := Bool.eq_false_iff.mpr c11
        subst c11
        have H1 : ((impl_compare.f kj7 l1 l3).bind fun t147 => (some t147)) = some r := by rw [if_neg (show ¬ (false = true) by decide)] at H; exact H
        clear H
        have H := H1
        clear H1
        replace H := hBi H
        obtain ⟨t147, A130, H⟩ := H
        replace H : (some t147) = some r := H
        have A13 := Aside0.mk A130
        clear A130
        obtain rfl := Option.some.inj H
        go_wp2_with (first | ((with_reducible refine gate_callee (f := 101) rfl ?_); refine hkGo (N := some 28) Try.func101 #[.slice A1 l1.length c1, .slice A3 l3.length c3] ?_; (with_reducible refine (impl_compare.calls kj7 _ _ l1 _ _ l3 t147 _ ?side1 ?side2 ?side3 ?side4 A13.out).mono ?_); (case side1 => exact hkC (HR1.out)); (case side2 => exact HC1.out); (case side3 => exact hkC (HR3.out)); (case side4 => exact HC3.out); rintro e w' ⟨rfl, ⟨nd, rfl⟩⟩; refine ⟨_, rfl, ?_⟩))
        go_ret
        exact ⟨by first | rfl | (simp; done) | (simp [*]; done), by repeat (first | exact Drawn0.refl _ | apply Drawn0.step)⟩

/-! ### impl_exact_compare: function 52 -/
def impl_exact_compare.f (k : Nat) (a0_0 : Bool) (l0_1 : List Int) (a0_2 : Int) (a1_0 : Bool) (l1_1 : List Int) (a1_2 : Int) : Option (Int) := (impl_aligned.f k a0_0 l0_1 a0_2 a1_0 l1_1 a1_2).bind fun bt150 => ((impl_signedCompare.f k a0_0 bt150.1 a1_0 bt150.2.1).bind fun t157 => (some t157))
theorem impl_exact_compare.mono : ∀ a0 a1 a2 a3 a4 a5 k, LeO (impl_exact_compare.f k a0 a1 a2 a3 a4 a5) (impl_exact_compare.f (k + 1) a0 a1 a2 a3 a4 a5) := by
 intro a0 a1 a2 a3 a4 a5 k
 unfold impl_exact_compare.f
 repeat' first
   | (with_reducible exact impl_aligned.mono _ _ _ _ _ _ _)
   | (with_reducible exact impl_signedCompare.mono _ _ _ _ _)
   | (with_reducible exact LeO.refl _)
   | (with_reducible exact LeO.none _)
   | (with_reducible refine LeO.ite ?_ ?_)
   | (with_reducible refine LeO.bind ?_ (fun _ => ?_))
   | exact impl_aligned.mono _ _ _ _ _ _ _
   | exact impl_signedCompare.mono _ _ _ _ _
   | exact LeO.none _
   | refine LeO.ite ?_ ?_
   | refine LeO.bind ?_ (fun _ => ?_)
set_option maxHeartbeats 8000000 in
set_option maxRecDepth 100000 in
theorem impl_exact_compare.calls (k : Nat) (a0_0 : Bool) (A0_1 : Option Addr) (c0_1 : Nat) (l0_1 : List Int) (a0_2 : Int) (a1_0 : Bool) (A1_1 : Option Addr) (c1_1 : Nat) (l1_1 : List Int) (a1_2 : Int) (r : Int) (w : World) (hr0_1 : Kd.C (Kd.int .i64) w A0_1 l0_1.length l0_1) (hc0_1 : l0_1.length ≤ c0_1) (hr1_1 : Kd.C (Kd.int .i64) w A1_1 l1_1.length l1_1) (hc1_1 : l1_1.length ≤ c1_1) (h : impl_exact_compare.f k a0_0 l0_1 a0_2 a1_0 l1_1 a1_2 = some r) :
  Calls Try.prog 52 #[.agg #[.bool a0_0, .slice A0_1 l0_1.length c0_1, .int .i64 a0_2], .agg #[.bool a1_0, .slice A1_1 l1_1.length c1_1, .int .i64 a1_2]] w fun e w' => e = .returned (.int .i64 r) ∧ Below w.heap.size w w' := by
 have hu83 := Try.underlying83
 have HR0_1 := Aside0.mk hr0_1
 have HC0_1 := Aside0.mk hc0_1
 clear hr0_1 hc0_1
 have HR1_1 := Aside0.mk hr1_1
 have HC1_1 := Aside0.mk hc1_1
 clear hr1_1 hc1_1
 have HB := Aside0.mk (Below.refl w.heap.size w)
 have H : ((impl_aligned.f k a0_0 l0_1 a0_2 a1_0 l1_1 a1_2).bind fun bt150 => ((impl_signedCompare.f k a0_0 bt150.1 a1_0 bt150.2.1).bind fun t157 => (some t157))) = some r := h
 clear h
 replace H := hBi H
 obtain ⟨⟨t150, t153, t156⟩, A30, H⟩ := H
 replace H : ((impl_signedCompare.f k a0_0 t150 a1_0 t153).bind fun t157 => (some t157)) = some r := H
 have A3 := Aside0.mk A30
 clear A30
 replace H := hBi H
 obtain ⟨t157, A40, H⟩ := H
 replace H : (some t157) = some r := H
 have A4 := Aside0.mk A40
 clear A40
 obtain rfl := Option.some.inj H
 go_enter Try.func52, Try.ntmps52
 go_wp2_with (first | ((with_reducible refine gate_dst (N := 2) rfl ?_); refine hkBox (N := 2) (cs := #[.bool a0_0, .slice A0_1 l0_1.length c0_1, .int .i64 a0_2]) (t := 83) ?_; intro gb148 hg w5 hbox hb; have n_ := hkA (hkU HB hb) (hkA (Aside0.mk (hbox)) (hkA (hkG hg (hkS HB)) (hkG hg (hkS HB)))); clear HB; obtain ⟨HB, BK148, GW148, GE148⟩ := n_; clear hb hbox hg) | ((with_reducible refine gate_dst (N := 3) rfl ?_); refine hkBox (N := 3) (cs := #[.bool a1_0, .slice A1_1 l1_1.length c1_1, .int .i64 a1_2]) (t := 83) ?_; intro gb149 hg w6 hbox hb; have n_ := hkA (hkBb BK148 hb) (hkA (hkU HB hb) (hkA (Aside0.mk (hbox)) (hkA (hkG hg (hkS HB)) (hkA (hkG hg (hkS HB)) (hkA (hkN hg BK148) (hkM hg BK148)))))); clear BK148 HB; obtain ⟨BK148, HB, BK149, GW149, GE149, NB148_149, NB149_148⟩ := n_; clear hb hbox hg; have hnb7 := NB148_149.out; have hnc7 := NB149_148.out; obtain ⟨hcz8_0, hfz8_0, hcz8_1, hfz8_1, hcz8_2, hfz8_2⟩ := hkc3 BK148; obtain ⟨hcz9_0, hfz9_0, hcz9_1, hfz9_1, hcz9_2, hfz9_2⟩ := hkc3 BK149) | ((with_reducible refine gate_callee (f := 95) rfl ?_); refine hkGo (N := some 11) Try.func95 #[.agg #[.bool a0_0, .slice A0_1 l0_1.length c0_1, .int .i64 a0_2], .agg #[.bool a1_0, .slice A1_1 l1_1.length c1_1, .int .i64 a1_2]] ?_; (with_reducible refine (impl_aligned.calls k a0_0 _ _ l0_1 a0_2 a1_0 _ _ l1_1 a1_2 t150 t153 t156 _ ?side1 ?side2 ?side3 ?side4 A3.out).mono ?_); (case side1 => exact hkC ((Kd.C_below HR0_1.out HB.out))); (case side2 => exact HC0_1.out); (case side3 => exact hkC ((Kd.C_below HR1_1.out HB.out))); (case side4 => exact HC1_1.out); rintro e w10 ⟨v151, v154, rfl, ho0, ho1, hb⟩; refine ⟨_, rfl, ?_⟩; have n_ := hkA (Aside0.mk (Kd.R_lower ho0 (below_size (hkS HB)))) (hkA (Aside0.mk (Kd.R_lower ho1 (below_size (hkS HB)))) (hkA (hkBb BK148 hb) (hkA (hkBb BK149 hb) (hkU HB hb)))); clear BK148 BK149 HB; obtain ⟨HO152, HO155, BK148, BK149, HB⟩ := n_; (try clear hb); (try clear ho0); (try clear ho1); obtain ⟨hcz11_0, hfz11_0, hcz11_1, hfz11_1, hcz11_2, hfz11_2⟩ := hkc3 BK148; obtain ⟨hcz12_0, hfz12_0, hcz12_1, hfz12_1, hcz12_2, hfz12_2⟩ := hkc3 BK149; obtain ⟨Ao13, co13, eo13⟩ := Kd.R_slice HO152.out; subst eo13; obtain ⟨Ao14, co14, eo14⟩ := Kd.R_slice HO155.out; subst eo14) | ((with_reducible refine gate_callee (f := 96) rfl ?_); refine hkGo (N := some 21) Try.func96 #[.bool a0_0, .slice Ao13 t150.length co13, .bool a1_0, .slice Ao14 t153.length co14] ?_; (with_reducible refine (impl_signedCompare.calls k a0_0 _ _ t150 a1_0 _ _ t153 t157 _ ?side1 ?side2 ?side3 ?side4 A4.out).mono ?_); (case side1 => exact hkC ((Kd.R_reads' HO152.out).2.2)); (case side2 => exact (Kd.R_reads' HO152.out).2.1); (case side3 => exact hkC ((Kd.R_reads' HO155.out).2.2)); (case side4 => exact (Kd.R_reads' HO155.out).2.1); rintro e w' ⟨rfl, ⟨nd, rfl⟩⟩; refine ⟨_, rfl, ?_⟩))
 go_ret
 exact ⟨hkE, hkS HB⟩

/-! ### impl_compareFloats_1: function 91 -/
def impl_compareFloats_1.f (a0_0 : Int) (a0_1 : Bool) (a0_2 : Int) (a0_3 : Int) : Option (Int) := if a0_0 = 2 then (if a0_1 = true then (some (-1)) else (some 1)) else (some 0)
set_option maxHeartbeats 8000000 in
set_option maxRecDepth 100000 in
theorem impl_compareFloats_1.calls (a0_0 : Int) (a0_1 : Bool) (a0_2 : Int) (a0_3 : Int) (r : Int) (w : World) (h : impl_compareFloats_1.f a0_0 a0_1 a0_2 a0_3 = some r) :
  Calls Try.prog 91 #[.agg #[.int .i64 a0_0, .bool a0_1, .int .i64 a0_2, .int .i64 a0_3]] w fun e w' => e = .returned (.int .i64 r) ∧ Below w.heap.size w w' := by
 have hu26 := Try.underlying26
 have HB := Aside0.mk (Below.refl w.heap.size w)
 have H : (if a0_0 = 2 then (if a0_1 = true then (some (-1)) else (some 1)) else (some 0)) = some r := h
 clear h
 by_cases c2 : a0_0 = 2
 ·rw [if_pos c2] at H
  have c2b0 : (a0_0 == 2) = true := beq_iff_eq.mpr c2
  have c2b1 : (a0_0 != 2) = false := bne_eq_false_iff_eq.mpr c2
  clear c2
  by_cases c3 : a0_1 = true
  ·subst c3
   have H1 : (some (-1)) = some r := by rw [if_pos rfl] at H; exact H
   clear H
   have H := H1
   clear H1
   obtain rfl := Option.some.inj H
   go_enter Try.func91, Try.ntmps91
   go_wp2_with (first | ((with_reducible refine gate_dst (N := 1) rfl ?_); refine hkBox (N := 1) (cs := #[.int .i64 a0_0, .bool true, .int .i64 a0_2, .int .i64 a0_3]) (t := 26) ?_; intro gb158 hg w4 hbox hb; have n_ := hkA (hkU HB hb) (hkA (Aside0.mk (hbox)) (hkA (hkG hg (hkS HB)) (hkG hg (hkS HB)))); clear HB; obtain ⟨HB, BK158, GW158, GE158⟩ := n_; clear hb hbox hg; obtain ⟨hcz5_0, hfz5_0, hcz5_1, hfz5_1, hcz5_2, hfz5_2, hcz5_3, hfz5_3⟩ := hkc4 BK158))
   go_ret
   exact ⟨hkE, hkS HB⟩
  ·replace c3 := Bool.eq_false_iff.mpr c3
   subst c3
   have H1 : (some 1) = some r := by rw [if_neg (show ¬ (false = true) by decide)] at H; exact H
   clear H
   have H := H1
   clear H1
   obtain rfl := Option.some.inj H
   go_enter Try.func91, Try.ntmps91
   go_wp2_with (first | ((with_reducible refine gate_dst (N := 1) rfl ?_); refine hkBox (N := 1) (cs := #[.int .i64 a0_0, .bool false, .int .i64 a0_2, .int .i64 a0_3]) (t := 26) ?_; intro gb158 hg w6 hbox hb; have n_ := hkA (hkU HB hb) (hkA (Aside0.mk (hbox)) (hkA (hkG hg (hkS HB)) (hkG hg (hkS HB)))); clear HB; obtain ⟨HB, BK158, GW158, GE158⟩ := n_; clear hb hbox hg; obtain ⟨hcz7_0, hfz7_0, hcz7_1, hfz7_1, hcz7_2, hfz7_2, hcz7_3, hfz7_3⟩ := hkc4 BK158))
   go_ret
   exact ⟨hkE, hkS HB⟩
 ·rw [if_neg c2] at H
  have c2b0 : (a0_0 == 2) = false := beq_eq_false_iff_ne.mpr c2
  have c2b1 : (a0_0 != 2) = true := bne_iff_ne.mpr c2
  obtain rfl := Option.some.inj H
  go_enter Try.func91, Try.ntmps91
  go_wp2_with (first | ((with_reducible refine gate_dst (N := 1) rfl ?_); refine hkBox (N := 1) (cs := #[.int .i64 a0_0, .bool a0_1, .int .i64 a0_2, .int .i64 a0_3]) (t := 26) ?_; intro gb158 hg w8 hbox hb; have n_ := hkA (hkU HB hb) (hkA (Aside0.mk (hbox)) (hkA (hkG hg (hkS HB)) (hkG hg (hkS HB)))); clear HB; obtain ⟨HB, BK158, GW158, GE158⟩ := n_; clear hb hbox hg; obtain ⟨hcz9_0, hfz9_0, hcz9_1, hfz9_1, hcz9_2, hfz9_2, hcz9_3, hfz9_3⟩ := hkc4 BK158))
  go_ret
  exact ⟨hkE, hkS HB⟩

end Go.Proofs.Ytgjpahofopoflaa.PFnPacks
