-- Written by our own driver (wip/hand/hprint.py) over the seat's translation.
import Derived.Test.YtgjpahofopoflaaPFnExactNatDivx0
namespace Go.Proofs.Ytgjpahofopoflaa.PFnExactNatDiv
open Go.RowKit Go.Proofs.YtgjpahofopoflaaW.PrintWords Go.Proofs.YtgjpahofopoflaaW.PrintLast Go.Proofs.YtgjpahofopoflaaW.PrintMore
attribute [local go_sem] max2_int min2_int max_two min_two max_three min_three max_four min_four   -- for this text's walks alone
set_option linter.unusedVariables false
set_option linter.unusedSimpArgs false

/-! ### impl_digitOf: function 106 -/
mutual
def impl_digitOf.l0 : Nat → List Int → List Int → Int → Int → Int → Int → Option (Int)
 | 0, _, _, _, _, _, _ => none
 | k + 1, x0, x1, x2, x7, x9, x10 => if x9 ≥ 65536 then (impl_digitOf.j1 k x0 x1 x2 x7 x9 x10 true) else (if 0 ≤ (wrap64 (x7 - 2)) then (if (wrap64 (x7 - 2)) < (x1.length : Int) then (if 0 ≤ (wrap64 ((wrap64 (x2 + x7)) - 2)) then (if (wrap64 ((wrap64 (x2 + x7)) - 2)) < (x0.length : Int) then (impl_digitOf.j1 k x0 x1 x2 x7 x9 x10 (decide ((wrap64 (x9 * (rd x1 (wrap64 (x7 - 2))))) > (wrap64 ((wrap64 (x10 * 65536)) + (rd x0 (wrap64 ((wrap64 (x2 + x7)) - 2)))))))) else (none)) else (none)) else (none)) else (none))
def impl_digitOf.j1 : Nat → List Int → List Int → Int → Int → Int → Int → Bool → Option (Int)
 | 0, _, _, _, _, _, _, _ => none
 | k + 1, x0, x1, x2, x7, x9, x10, x63 => if x63 = true then (if 0 ≤ (wrap64 (x7 - 1)) then (if (wrap64 (x7 - 1)) < (x1.length : Int) then (if (wrap64 (x10 + (rd x1 (wrap64 (x7 - 1))))) ≥ 65536 then (some (wrap64 (x9 - 1))) else (impl_digitOf.l0 k x0 x1 x2 x7 (wrap64 (x9 - 1)) (wrap64 (x10 + (rd x1 (wrap64 (x7 - 1))))))) else (none)) else (none)) else (some x9)
end
def impl_digitOf.f (k : Nat) (l0 : List Int) (l1 : List Int) (a2 : Int) : Option (Int) := if 0 ≤ (wrap64 (a2 + (l1.length : Int))) then (if (wrap64 (a2 + (l1.length : Int))) < (l0.length : Int) then (if 0 ≤ (wrap64 ((wrap64 (a2 + (l1.length : Int))) - 1)) then (if (wrap64 ((wrap64 (a2 + (l1.length : Int))) - 1)) < (l0.length : Int) then (if 0 ≤ (wrap64 ((l1.length : Int) - 1)) then (if (wrap64 ((l1.length : Int) - 1)) < (l1.length : Int) then (if (rd l1 (wrap64 ((l1.length : Int) - 1))) = 0 then (none) else (impl_digitOf.l0 k l0 l1 a2 (l1.length : Int) (wrap64 (Int.tdiv (wrap64 ((wrap64 ((rd l0 (wrap64 (a2 + (l1.length : Int)))) * 65536)) + (rd l0 (wrap64 ((wrap64 (a2 + (l1.length : Int))) - 1))))) (rd l1 (wrap64 ((l1.length : Int) - 1))))) (Int.tmod (wrap64 ((wrap64 ((rd l0 (wrap64 (a2 + (l1.length : Int)))) * 65536)) + (rd l0 (wrap64 ((wrap64 (a2 + (l1.length : Int))) - 1))))) (rd l1 (wrap64 ((l1.length : Int) - 1)))))) else (none)) else (none)) else (none)) else (none)) else (none)) else (none)
theorem impl_digitOf.mono_l : ∀ k, (∀ y0 y1 y2 y3 y4 y5, LeO (impl_digitOf.l0 k y0 y1 y2 y3 y4 y5) (impl_digitOf.l0 (k + 1) y0 y1 y2 y3 y4 y5)) ∧ (∀ y0 y1 y2 y3 y4 y5 y6, LeO (impl_digitOf.j1 k y0 y1 y2 y3 y4 y5 y6) (impl_digitOf.j1 (k + 1) y0 y1 y2 y3 y4 y5 y6))
 | 0 => ⟨fun _ _ _ _ _ _ r h => by simp [impl_digitOf.l0] at h, fun _ _ _ _ _ _ _ r h => by simp [impl_digitOf.j1] at h⟩
 | k + 1 => by
  obtain ⟨ih0, ih1⟩ := impl_digitOf.mono_l k
  refine ⟨?_, ?_⟩
  ·intro y0 y1 y2 y3 y4 y5
   unfold impl_digitOf.l0
   repeat' first
   | (with_reducible exact ih0 _ _ _ _ _ _)
   | (with_reducible exact ih1 _ _ _ _ _ _ _)
   | (with_reducible exact LeO.refl _)
   | (with_reducible exact LeO.none _)
   | (with_reducible refine LeO.ite ?_ ?_)
   | (with_reducible refine LeO.bind ?_ (fun _ => ?_))
   | exact ih0 _ _ _ _ _ _
   | exact ih1 _ _ _ _ _ _ _
   | exact LeO.none _
   | refine LeO.ite ?_ ?_
   | refine LeO.bind ?_ (fun _ => ?_)
  ·intro y0 y1 y2 y3 y4 y5 y6
   unfold impl_digitOf.j1
   repeat' first
   | (with_reducible exact ih0 _ _ _ _ _ _)
   | (with_reducible exact ih1 _ _ _ _ _ _ _)
   | (with_reducible exact LeO.refl _)
   | (with_reducible exact LeO.none _)
   | (with_reducible refine LeO.ite ?_ ?_)
   | (with_reducible refine LeO.bind ?_ (fun _ => ?_))
   | exact ih0 _ _ _ _ _ _
   | exact ih1 _ _ _ _ _ _ _
   | exact LeO.none _
   | refine LeO.ite ?_ ?_
   | refine LeO.bind ?_ (fun _ => ?_)
theorem impl_digitOf.mono : ∀ a0 a1 a2 k, LeO (impl_digitOf.f k a0 a1 a2) (impl_digitOf.f (k + 1) a0 a1 a2) := by
 intro a0 a1 a2 k
 obtain ⟨ih0, ih1⟩ := impl_digitOf.mono_l k
 unfold impl_digitOf.f
 repeat' first
   | (with_reducible exact ih0 _ _ _ _ _ _)
   | (with_reducible exact ih1 _ _ _ _ _ _ _)
   | (with_reducible exact LeO.refl _)
   | (with_reducible exact LeO.none _)
   | (with_reducible refine LeO.ite ?_ ?_)
   | (with_reducible refine LeO.bind ?_ (fun _ => ?_))
   | exact ih0 _ _ _ _ _ _
   | exact ih1 _ _ _ _ _ _ _
   | exact LeO.none _
   | refine LeO.ite ?_ ?_
   | refine LeO.bind ?_ (fun _ => ?_)
set_option maxHeartbeats 8000000 in
set_option maxRecDepth 100000 in
theorem impl_digitOf.calls (k : Nat) (A0 : Option Addr) (c0 : Nat) (l0 : List Int) (A1 : Option Addr) (c1 : Nat) (l1 : List Int) (a2 : Int) (r : Int) (w : World) (hr0 : Kd.C (Kd.int .i64) w A0 l0.length l0) (hc0 : l0.length ≤ c0) (hr1 : Kd.C (Kd.int .i64) w A1 l1.length l1) (hc1 : l1.length ≤ c1) (h : impl_digitOf.f k l0 l1 a2 = some r) :
  Calls Try.prog 106 #[.slice A0 l0.length c0, .slice A1 l1.length c1, .int .i64 a2] w fun e w' => e = .returned (.int .i64 r) ∧ Drawn0 w w' := by
 have HR0 := Aside0.mk hr0
 have HC0 := Aside0.mk hc0
 clear hr0 hc0
 have HR1 := Aside0.mk hr1
 have HC1 := Aside0.mk hc1
 clear hr1 hc1
 have H : (if 0 ≤ (wrap64 (a2 + (l1.length : Int))) then (if (wrap64 (a2 + (l1.length : Int))) < (l0.length : Int) then (if 0 ≤ (wrap64 ((wrap64 (a2 + (l1.length : Int))) - 1)) then (if (wrap64 ((wrap64 (a2 + (l1.length : Int))) - 1)) < (l0.length : Int) then (if 0 ≤ (wrap64 ((l1.length : Int) - 1)) then (if (wrap64 ((l1.length : Int) - 1)) < (l1.length : Int) then (if (rd l1 (wrap64 ((l1.length : Int) - 1))) = 0 then (none) else (impl_digitOf.l0 k l0 l1 a2 (l1.length : Int) (wrap64 (Int.tdiv (wrap64 ((wrap64 ((rd l0 (wrap64 (a2 + (l1.length : Int)))) * 65536)) + (rd l0 (wrap64 ((wrap64 (a2 + (l1.length : Int))) - 1))))) (rd l1 (wrap64 ((l1.length : Int) - 1))))) (Int.tmod (wrap64 ((wrap64 ((rd l0 (wrap64 (a2 + (l1.length : Int)))) * 65536)) + (rd l0 (wrap64 ((wrap64 (a2 + (l1.length : Int))) - 1))))) (rd l1 (wrap64 ((l1.length : Int) - 1)))))) else (none)) else (none)) else (none)) else (none)) else (none)) else (none)) = some r := h
 clear h
 obtain ⟨ji4, hji4⟩ : ∃ j_ : Int, (wrap64 (a2 + (l1.length : Int))) = j_ := ⟨_, rfl⟩
 replace H : (if 0 ≤ (ji4) then (if (ji4) < (l0.length : Int) then (if 0 ≤ (wrap64 ((ji4) - 1)) then (if (wrap64 ((ji4) - 1)) < (l0.length : Int) then (if 0 ≤ (wrap64 ((l1.length : Int) - 1)) then (if (wrap64 ((l1.length : Int) - 1)) < (l1.length : Int) then (if (rd l1 (wrap64 ((l1.length : Int) - 1))) = 0 then (none) else (impl_digitOf.l0 k l0 l1 a2 (l1.length : Int) (wrap64 (Int.tdiv (wrap64 ((wrap64 ((rd l0 (ji4)) * 65536)) + (rd l0 (wrap64 ((ji4) - 1))))) (rd l1 (wrap64 ((l1.length : Int) - 1))))) (Int.tmod (wrap64 ((wrap64 ((rd l0 (ji4)) * 65536)) + (rd l0 (wrap64 ((ji4) - 1))))) (rd l1 (wrap64 ((l1.length : Int) - 1)))))) else (none)) else (none)) else (none)) else (none)) else (none)) else (none)) = some r := by first | (rw [hji4] at H; exact H) | (simp only [hji4] at H ⊢; exact H)
 have hji4w : (IntKind.i64.wrap (a2 + (l1.length : Int))) = ji4 := (i64_w _).trans hji4
 by_cases c5 : 0 ≤ (ji4)
 ·rw [if_pos c5] at H
  have c5b0 : decide (0 ≤ (ji4)) = true := decide_eq_true c5
  clear c5
  by_cases c6 : (ji4) < (l0.length : Int)
  ·rw [if_pos c6] at H
   have c6b0 : decide ((ji4) < (l0.length : Int)) = true := decide_eq_true c6
   clear c6
   obtain ⟨ji7, hji7⟩ : ∃ j_ : Int, (wrap64 ((ji4) - 1)) = j_ := ⟨_, rfl⟩
   replace H : (if 0 ≤ (ji7) then (if (ji7) < (l0.length : Int) then (if 0 ≤ (wrap64 ((l1.length : Int) - 1)) then (if (wrap64 ((l1.length : Int) - 1)) < (l1.length : Int) then (if (rd l1 (wrap64 ((l1.length : Int) - 1))) = 0 then (none) else (impl_digitOf.l0 k l0 l1 a2 (l1.length : Int) (wrap64 (Int.tdiv (wrap64 ((wrap64 ((rd l0 (ji4)) * 65536)) + (rd l0 (ji7)))) (rd l1 (wrap64 ((l1.length : Int) - 1))))) (Int.tmod (wrap64 ((wrap64 ((rd l0 (ji4)) * 65536)) + (rd l0 (ji7)))) (rd l1 (wrap64 ((l1.length : Int) - 1)))))) else (none)) else (none)) else (none)) else (none)) = some r := by first | (rw [hji7] at H; exact H) | (simp only [hji7] at H ⊢; exact H)
   have hji7w : (IntKind.i64.wrap ((ji4) - 1)) = ji7 := (i64_w _).trans hji7
   by_cases c8 : 0 ≤ (ji7)
   ·rw [if_pos c8] at H
    have c8b0 : decide (0 ≤ (ji7)) = true := decide_eq_true c8
    clear c8
    by_cases c9 : (ji7) < (l0.length : Int)
    ·rw [if_pos c9] at H
     have c9b0 : decide ((ji7) < (l0.length : Int)) = true := decide_eq_true c9
     clear c9
     obtain ⟨ji10, hji10⟩ : ∃ j_ : Int, (wrap64 ((l1.length : Int) - 1)) = j_ := ⟨_, rfl⟩
     replace H : (if 0 ≤ (ji10) then (if (ji10) < (l1.length : Int) then (if (rd l1 (ji10)) = 0 then (none) else (impl_digitOf.l0 k l0 l1 a2 (l1.length : Int) (wrap64 (Int.tdiv (wrap64 ((wrap64 ((rd l0 (ji4)) * 65536)) + (rd l0 (ji7)))) (rd l1 (ji10)))) (Int.tmod (wrap64 ((wrap64 ((rd l0 (ji4)) * 65536)) + (rd l0 (ji7)))) (rd l1 (ji10))))) else (none)) else (none)) = some r := by first | (rw [hji10] at H; exact H) | (simp only [hji10] at H ⊢; exact H)
     have hji10w : (IntKind.i64.wrap ((l1.length : Int) - 1)) = ji10 := (i64_w _).trans hji10
     by_cases c11 : 0 ≤ (ji10)
     ·rw [if_pos c11] at H
      have c11b0 : decide (0 ≤ (ji10)) = true := decide_eq_true c11
      clear c11
      by_cases c12 : (ji10) < (l1.length : Int)
      ·rw [if_pos c12] at H
       have c12b0 : decide ((ji10) < (l1.length : Int)) = true := decide_eq_true c12
       clear c12
       by_cases c13 : (rd l1 (ji10)) = 0
       ·rw [if_pos c13] at H
        exact absurd H (by simp)
       ·rw [if_neg c13] at H
        have c13b0 : ((rd l1 (ji10)) == 0) = false := beq_eq_false_iff_ne.mpr c13
        have c13b1 : ((rd l1 (ji10)) != 0) = true := bne_iff_ne.mpr c13
        have H' := Aside0.mk H
        clear H
        have p145 : 0 ≤ ((ji4) : Int) := of_decide_eq_true (by first | (with_reducible assumption) | assumption)
        have q145 : (ji4) < (l0.length : Int) := of_decide_eq_true (by first | (with_reducible assumption) | assumption)
        obtain ⟨ad145, e145, hx145_0⟩ := Kd.at_int HR0.out (ji4) p145 q145
        cases e145
        replace p145 := eq_true p145
        replace q145 := eq_true q145
        have p146 : 0 ≤ ((ji7) : Int) := of_decide_eq_true (by first | (with_reducible assumption) | assumption)
        have q146 : (ji7) < (l0.length : Int) := of_decide_eq_true (by first | (with_reducible assumption) | assumption)
        obtain ⟨ad146, e146, hx146_0⟩ := Kd.at_int HR0.out (ji7) p146 q146
        obtain rfl : ad145 = ad146 := (by injection e146)
        replace p146 := eq_true p146
        replace q146 := eq_true q146
        have p147 : 0 ≤ ((ji10) : Int) := of_decide_eq_true (by first | (with_reducible assumption) | assumption)
        have q147 : (ji10) < (l1.length : Int) := of_decide_eq_true (by first | (with_reducible assumption) | assumption)
        obtain ⟨ad147, e147, hx147_0⟩ := Kd.at_int HR1.out (ji10) p147 q147
        cases e147
        replace p147 := eq_true p147
        replace q147 := eq_true q147
        have p148 : 0 ≤ ((ji10) : Int) := of_decide_eq_true (by first | (with_reducible assumption) | assumption)
        have q148 : (ji10) < (l1.length : Int) := of_decide_eq_true (by first | (with_reducible assumption) | assumption)
        obtain ⟨ad148, e148, hx148_0⟩ := Kd.at_int HR1.out (ji10) p148 q148
        obtain rfl : ad147 = ad148 := (by injection e148)
        replace p148 := eq_true p148
        replace q148 := eq_true q148
        go_enter Try.func106, Try.ntmps106
        go_wp2
        repeat (go_quiet (fail); try go_wp2)
        go_loopg [9, 10] k (fun kq v9 v10 w' => ∃ (x9_1 : Int) (x10_1 : Int), v9 = .int .i64 x9_1 ∧ v10 = .int .i64 x10_1 ∧ Aside0 (impl_digitOf.l0 kq l0 l1 a2 (l1.length : Int) x9_1 x10_1 = some r) ∧ Aside0 (kq ≤ k) ∧ Drawn0 w w')
        case atStart => exact ⟨(wrap64 (Int.tdiv (wrap64 ((wrap64 ((rd l0 (ji4)) * 65536)) + (rd l0 (ji7)))) (rd l1 (ji10)))), (Int.tmod (wrap64 ((wrap64 ((rd l0 (ji4)) * 65536)) + (rd l0 (ji7)))) (rd l1 (ji10))), (by first | rfl | (simp; done) | (simp only [← hji4, ← hji7, ← hji10] <;> (first | rfl | simp)) | (simp [*]; done)), (by first | rfl | (simp; done) | (simp only [← hji4, ← hji7, ← hji10] <;> (first | rfl | simp)) | (simp [*]; done)), H', ⟨Nat.le_refl _⟩, by repeat (first | exact Drawn0.refl _ | apply Drawn0.step)⟩
        case round =>
         clear H'
         try clear c1
         try clear p1
         try clear q1
         try clear hx1
         try clear p2
         try clear c5
         try clear c5b0
         try clear c6
         try clear c6b0
         try clear p6
         try clear c8
         try clear c8b0
         try clear c9
         try clear c9b0
         try clear c10
         try clear c11
         try clear c11b0
         try clear c12
         try clear c12b0
         try clear c13
         try clear c13b0
         try clear c13b1
         try clear hx145_0
         try clear hx146_0
         try clear hx147_0
         try clear hx148_0
         try clear p145
         try clear p146
         try clear p147
         try clear p148
         try clear q145
         try clear q146
         try clear q147
         try clear q148
         obtain ⟨x9_1, x10_1, rfl, rfl, HA, HK1, ⟨m1, rfl⟩⟩ := hrel
         cases gk with
         | zero => exact absurd HA.out (by simp [impl_digitOf.l0])
         | succ k1 =>
          have H := HA.out
          clear HA
          simp only [impl_digitOf.l0] at H
          have HC14 := Aside0.mk H
          clear H
          go_upto_region 4 with (fail)
          repeat (go_quiet (fail); go_upto_region 4 with (fail))
          go_cut [63] (fun v63 wc => ∃ (kq : Nat) (x63_13 : Bool), v63 = .bool x63_13 ∧ Aside0 (impl_digitOf.j1 kq l0 l1 a2 (l1.length : Int) x9_1 x10_1 x63_13 = some r) ∧ Aside0 (kq ≤ k1) ∧ Drawn0 w wc)
          case first =>
           have H := HC14.out
           clear HC14
           by_cases c15 : x9_1 ≥ 65536
           ·rw [if_pos c15] at H
            have c15b0 : decide (65536 ≤ x9_1) = true := decide_eq_true c15
            clear c15
            (first | rw [c15b0] | (simp only [i64_w, i32_w]; rw [c15b0]) | skip)
            have H' := Aside0.mk H
            clear H
            go_wp2
            repeat (go_quiet (fail); try go_wp2)
            go_meet
            case rel => exact ⟨_, (true), (by first | rfl | (simp; done) | (simp [*]; done)), H', ⟨by have := HK1.out; first | omega | exact Nat.le_refl _⟩, by repeat (first | exact Drawn0.refl _ | apply Drawn0.step)⟩
           ·rw [if_neg c15] at H
            have c15b0 : decide (65536 ≤ x9_1) = false := decide_eq_false c15
            clear c15
            (first | rw [c15b0] | (simp only [i64_w, i32_w]; rw [c15b0]) | skip)
            obtain ⟨ji16, hji16⟩ : ∃ j_ : Int, (wrap64 ((l1.length : Int) - 2)) = j_ := ⟨_, rfl⟩
            replace H : (if 0 ≤ (ji16) then (if (ji16) < (l1.length : Int) then (if 0 ≤ (wrap64 ((wrap64 (a2 + (l1.length : Int))) - 2)) then (if (wrap64 ((wrap64 (a2 + (l1.length : Int))) - 2)) < (l0.length : Int) then (impl_digitOf.j1 k1 l0 l1 a2 (l1.length : Int) x9_1 x10_1 (decide ((wrap64 (x9_1 * (rd l1 (ji16)))) > (wrap64 ((wrap64 (x10_1 * 65536)) + (rd l0 (wrap64 ((wrap64 (a2 + (l1.length : Int))) - 2)))))))) else (none)) else (none)) else (none)) else (none)) = some r := by first | (rw [hji16] at H; exact H) | (simp only [hji16] at H ⊢; exact H)
            have hji16w : (IntKind.i64.wrap ((l1.length : Int) - 2)) = ji16 := (i64_w _).trans hji16
            by_cases c17 : 0 ≤ (ji16)
            ·rw [if_pos c17] at H
             have c17b0 : decide (0 ≤ (ji16)) = true := decide_eq_true c17
             clear c17
             by_cases c18 : (ji16) < (l1.length : Int)
             ·rw [if_pos c18] at H
              have c18b0 : decide ((ji16) < (l1.length : Int)) = true := decide_eq_true c18
              clear c18
              obtain ⟨ji19, hji19⟩ : ∃ j_ : Int, (wrap64 ((wrap64 (a2 + (l1.length : Int))) - 2)) = j_ := ⟨_, rfl⟩
              replace H : (if 0 ≤ (ji19) then (if (ji19) < (l0.length : Int) then (impl_digitOf.j1 k1 l0 l1 a2 (l1.length : Int) x9_1 x10_1 (decide ((wrap64 (x9_1 * (rd l1 (ji16)))) > (wrap64 ((wrap64 (x10_1 * 65536)) + (rd l0 (ji19))))))) else (none)) else (none)) = some r := by first | (rw [hji19] at H; exact H) | (simp only [hji19] at H ⊢; exact H)
              have hji19w : (IntKind.i64.wrap ((wrap64 (a2 + (l1.length : Int))) - 2)) = ji19 := (i64_w _).trans hji19
              have hji19u : (IntKind.i64.wrap (ji4 - 2)) = ji19 := by rw [← hji4]; exact hji19w
              by_cases c20 : 0 ≤ (ji19)
              ·rw [if_pos c20] at H
               have c20b0 : decide (0 ≤ (ji19)) = true := decide_eq_true c20
               clear c20
               by_cases c21 : (ji19) < (l0.length : Int)
               ·rw [if_pos c21] at H
                have c21b0 : decide ((ji19) < (l0.length : Int)) = true := decide_eq_true c21
                clear c21
                have H' := Aside0.mk H
                clear H
                have p149 : 0 ≤ ((ji16) : Int) := of_decide_eq_true (by first | (with_reducible assumption) | assumption)
                have q149 : (ji16) < (l1.length : Int) := of_decide_eq_true (by first | (with_reducible assumption) | assumption)
                obtain ⟨ad149, e149, hx149_0⟩ := Kd.at_int HR1.out (ji16) p149 q149
                obtain rfl : ad147 = ad149 := (by injection e149)
                replace p149 := eq_true p149
                replace q149 := eq_true q149
                have p150 : 0 ≤ ((ji19) : Int) := of_decide_eq_true (by first | (with_reducible assumption) | assumption)
                have q150 : (ji19) < (l0.length : Int) := of_decide_eq_true (by first | (with_reducible assumption) | assumption)
                obtain ⟨ad150, e150, hx150_0⟩ := Kd.at_int HR0.out (ji19) p150 q150
                obtain rfl : ad145 = ad150 := (by injection e150)
                replace p150 := eq_true p150
                replace q150 := eq_true q150
                go_wp2
                repeat (go_quiet (fail); try go_wp2)
                go_meet
                case rel => exact ⟨_, (decide ((wrap64 (x9_1 * (rd l1 (ji16)))) > (wrap64 ((wrap64 (x10_1 * 65536)) + (rd l0 (ji19)))))), (by first | rfl | (simp; done) | (simp only [← hji16, ← hji19] <;> (first | rfl | simp)) | (simp [*]; done)), H', ⟨by have := HK1.out; first | omega | exact Nat.le_refl _⟩, by repeat (first | exact Drawn0.refl _ | apply Drawn0.step)⟩
               ·rw [if_neg c21] at H
                exact absurd H (by simp)
              ·rw [if_neg c20] at H
               exact absurd H (by simp)
             ·rw [if_neg c18] at H
              exact absurd H (by simp)
            ·rw [if_neg c17] at H
             exact absurd H (by simp)
          case rest =>
           clear HC14
           try clear c1
           try clear p1
           try clear q1
           try clear hx1
           try clear c2
           try clear p2
           try clear c5
           try clear c5b0
           try clear c6
           try clear c6b0
           try clear p6
           try clear c8
           try clear c8b0
           try clear c9
           try clear c9b0
           try clear c10
           try clear c11
           try clear c11b0
           try clear c12
           try clear c12b0
           try clear c13
           try clear c13b0
           try clear c13b1
           try clear p14
           try clear q14
           try clear hx14
           try clear c15
           try clear c15b0
           try clear p15
           try clear q15
           try clear hx15
           try clear c17
           try clear c17b0
           try clear c18
           try clear c18b0
           try clear c20
           try clear c20b0
           try clear c21
           try clear c21b0
           try clear hx145_0
           try clear hx146_0
           try clear hx147_0
           try clear hx148_0
           try clear hx149_0
           try clear hx150_0
           try clear p1
           try clear p145
           try clear p146
           try clear p147
           try clear p148
           try clear p149
           try clear p150
           try clear p2
           try clear p6
           try clear q1
           try clear q145
           try clear q146
           try clear q147
           try clear q148
           try clear q149
           try clear q150
           obtain ⟨kq, x63_13, rfl, HA, HJ13, ⟨mc13, rfl⟩⟩ := hcut
           cases kq with
           | zero => exact absurd HA.out (by simp [impl_digitOf.j1])
           | succ kj13 =>
            have H := HA.out
            clear HA
            simp only [impl_digitOf.j1] at H
            by_cases c22 : x63_13 = true
            ·subst c22
             have H1 : (if 0 ≤ (wrap64 ((l1.length : Int) - 1)) then (if (wrap64 ((l1.length : Int) - 1)) < (l1.length : Int) then (if (wrap64 (x10_1 + (rd l1 (wrap64 ((l1.length : Int) - 1))))) ≥ 65536 then (some (wrap64 (x9_1 - 1))) else (impl_digitOf.l0 kj13 l0 l1 a2 (l1.length : Int) (wrap64 (x9_1 - 1)) (wrap64 (x10_1 + (rd l1 (wrap64 ((l1.length : Int) - 1))))))) else (none)) else (none)) = some r := by rw [if_pos rfl] at H; exact H
             clear H
             have H := H1
             clear H1
             replace H : (if 0 ≤ (ji10) then (if (ji10) < (l1.length : Int) then (if (wrap64 (x10_1 + (rd l1 (ji10)))) ≥ 65536 then (some (wrap64 (x9_1 - 1))) else (impl_digitOf.l0 kj13 l0 l1 a2 (l1.length : Int) (wrap64 (x9_1 - 1)) (wrap64 (x10_1 + (rd l1 (ji10)))))) else (none)) else (none)) = some r := by first | (rw [hji10] at H; exact H) | (simp only [hji10] at H ⊢; exact H)
             by_cases c24 : 0 ≤ (ji10)
             ·rw [if_pos c24] at H
              have c24b0 : decide (0 ≤ (ji10)) = true := decide_eq_true c24
              clear c24
              by_cases c25 : (ji10) < (l1.length : Int)
              ·rw [if_pos c25] at H
               have c25b0 : decide ((ji10) < (l1.length : Int)) = true := decide_eq_true c25
               clear c25
               by_cases c26 : (wrap64 (x10_1 + (rd l1 (ji10)))) ≥ 65536
               ·rw [if_pos c26] at H
                have c26b0 : decide (65536 ≤ (wrap64 (x10_1 + (rd l1 (ji10))))) = true := decide_eq_true c26
                clear c26
                obtain rfl := Option.some.inj H
                have p151 : 0 ≤ ((ji10) : Int) := of_decide_eq_true (by first | (with_reducible assumption) | assumption)
                have q151 : (ji10) < (l1.length : Int) := of_decide_eq_true (by first | (with_reducible assumption) | assumption)
                obtain ⟨ad151, e151, hx151_0⟩ := Kd.at_int HR1.out (ji10) p151 q151
                obtain rfl : ad147 = ad151 := (by injection e151)
                replace p151 := eq_true p151
                replace q151 := eq_true q151
                go_wp2
                repeat (go_quiet (fail); try go_wp2)
                go_ret
                exact ⟨by first | rfl | (simp; done) | (simp only [← hji4, ← hji7, ← hji10, ← hji10] <;> (first | rfl | simp)) | (simp [*]; done), by repeat (first | exact Drawn0.refl _ | apply Drawn0.step)⟩
               ·rw [if_neg c26] at H
                have c26b0 : decide (65536 ≤ (wrap64 (x10_1 + (rd l1 (ji10))))) = false := decide_eq_false c26
                clear c26
                have H' := Aside0.mk H
                clear H
                have p151 : 0 ≤ ((ji10) : Int) := of_decide_eq_true (by first | (with_reducible assumption) | assumption)
                have q151 : (ji10) < (l1.length : Int) := of_decide_eq_true (by first | (with_reducible assumption) | assumption)
                obtain ⟨ad151, e151, hx151_0⟩ := Kd.at_int HR1.out (ji10) p151 q151
                obtain rfl : ad147 = ad151 := (by injection e151)
                replace p151 := eq_true p151
                replace q151 := eq_true q151
                go_wp2
                repeat (go_quiet (fail); try go_wp2)
                go_roundg kj13
                case measure => have := HK1.out; have := HJ13.out; omega
                case rel => exact ⟨(wrap64 (x9_1 - 1)), (wrap64 (x10_1 + (rd l1 (ji10)))), (by first | rfl | (simp; done) | (simp [*]; done)), (by first | rfl | (simp; done) | (simp only [← hji10] <;> (first | rfl | simp)) | (simp [*]; done)), H', ⟨by have := HK1.out; have := HJ13.out; omega⟩, by repeat (first | exact Drawn0.refl _ | apply Drawn0.step)⟩
              ·rw [if_neg c25] at H
               exact absurd H (by simp)
             ·rw [if_neg c24] at H
              exact absurd H (by simp)
            ·replace c22 := Bool.eq_false_iff.mpr c22
             subst c22
             have H1 : (some x9_1) = some r := by rw [if_neg (show ¬ (false = true) by decide)] at H; exact H
             clear H
             have H := H1
             clear H1
             obtain rfl := Option.some.inj H
             go_wp2
             repeat (go_quiet (fail); try go_wp2)
             go_ret
             exact ⟨by first | rfl | (simp; done) | (simp only [← hji4, ← hji7, ← hji10] <;> (first | rfl | simp)) | (simp [*]; done), by repeat (first | exact Drawn0.refl _ | apply Drawn0.step)⟩
      ·rw [if_neg c12] at H
       exact absurd H (by simp)
     ·rw [if_neg c11] at H
      exact absurd H (by simp)
    ·rw [if_neg c9] at H
     exact absurd H (by simp)
   ·rw [if_neg c8] at H
    exact absurd H (by simp)
  ·rw [if_neg c6] at H
   exact absurd H (by simp)
 ·rw [if_neg c5] at H
  exact absurd H (by simp)

end Go.Proofs.Ytgjpahofopoflaa.PFnExactNatDiv
