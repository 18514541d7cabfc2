-- Written by our own driver (wip/hand/hprint.py) over the seat's translation.
import Derived.Test.YtgjpahofopoflaaDoorPFnFlOrderx0
namespace Go.Proofs.YtgjpahofopoflaaDoor.PFnFlOrder
open Go.RowKit Go.Proofs.YtgjpahofopoflaaDoorW.PrintWords Go.Proofs.YtgjpahofopoflaaDoorW.PrintLast Go.Proofs.YtgjpahofopoflaaDoorW.PrintMore
attribute [local go_sem] max2_int min2_int max_two min_two max_three min_three max_four min_four   -- for this text's walks alone
set_option linter.unusedVariables false
set_option linter.unusedSimpArgs false

/-! ### spec_FlOk: function 36 -/
def spec_FlOk.j0 : Nat → Int → Bool → Int → Bool → Int → Int → Option (Bool)
 | 0, _, _, _, _, _, _ => none
 | k + 1, x4, x5, x542000, x542001, x542002, x542003 => if x5 = true then (if x542002 = 0 then (some (x542003 == 0)) else (some false)) else (if x4 = 3 then (if x542002 = 0 then (if x542003 = 0 then (some (!x542001)) else (some false)) else (some false)) else (if x4 = 1 then (if x542003 < (-1074) then (some false) else (if x542003 > 971 then (some false) else (if x542002 < 1 then (some false) else (if x542002 ≥ 9007199254740992 then (some false) else (if x542002 ≥ 4503599627370496 then (some true) else (some (x542003 == (-1074)))))))) else (some false)))
def spec_FlOk.f (k : Nat) (a0_0 : Int) (a0_1 : Bool) (a0_2 : Int) (a0_3 : Int) : Option (Bool) := if a0_0 = 0 then (spec_FlOk.j0 k a0_0 (a0_0 == 0) a0_0 a0_1 a0_2 a0_3) else (spec_FlOk.j0 k a0_0 (a0_0 == 2) a0_0 a0_1 a0_2 a0_3)
theorem spec_FlOk.mono_l : ∀ k, (∀ y0 y1 y2 y3 y4 y5, LeO (spec_FlOk.j0 k y0 y1 y2 y3 y4 y5) (spec_FlOk.j0 (k + 1) y0 y1 y2 y3 y4 y5))
 | 0 => fun _ _ _ _ _ _ r h => by simp [spec_FlOk.j0] at h
 | k + 1 => by
  have ih0 := spec_FlOk.mono_l k
  ·intro y0 y1 y2 y3 y4 y5
   unfold spec_FlOk.j0
   repeat' first
   | (with_reducible exact ih0 _ _ _ _ _ _)
   | (with_reducible exact LeO.refl _)
   | (with_reducible exact LeO.none _)
   | (with_reducible refine LeO.ite ?_ ?_)
   | (with_reducible refine LeO.bind ?_ (fun _ => ?_))
   | exact ih0 _ _ _ _ _ _
   | exact LeO.none _
   | refine LeO.ite ?_ ?_
   | refine LeO.bind ?_ (fun _ => ?_)
theorem spec_FlOk.mono : ∀ a0 a1 a2 a3 k, LeO (spec_FlOk.f k a0 a1 a2 a3) (spec_FlOk.f (k + 1) a0 a1 a2 a3) := by
 intro a0 a1 a2 a3 k
 have ih0 := spec_FlOk.mono_l k
 unfold spec_FlOk.f
 repeat' first
   | (with_reducible exact ih0 _ _ _ _ _ _)
   | (with_reducible exact LeO.refl _)
   | (with_reducible exact LeO.none _)
   | (with_reducible refine LeO.ite ?_ ?_)
   | (with_reducible refine LeO.bind ?_ (fun _ => ?_))
   | exact ih0 _ _ _ _ _ _
   | exact LeO.none _
   | refine LeO.ite ?_ ?_
   | refine LeO.bind ?_ (fun _ => ?_)
set_option maxHeartbeats 8000000 in
set_option maxRecDepth 100000 in
theorem spec_FlOk.calls (k : Nat) (a0_0 : Int) (a0_1 : Bool) (a0_2 : Int) (a0_3 : Int) (r : Bool) (w : World) (h : spec_FlOk.f k a0_0 a0_1 a0_2 a0_3 = some r) :
  Calls Tryd.prog 36 #[.agg #[.int .i64 a0_0, .bool a0_1, .int .i64 a0_2, .int .i64 a0_3]] w fun e w' => e = .returned (.bool r) ∧ Below w.heap.size w w' := by
 have hu33 := Tryd.underlying33
 have HB := Aside0.mk (Below.refl w.heap.size w)
 have H : (if a0_0 = 0 then (spec_FlOk.j0 k a0_0 (a0_0 == 0) a0_0 a0_1 a0_2 a0_3) else (spec_FlOk.j0 k a0_0 (a0_0 == 2) a0_0 a0_1 a0_2 a0_3)) = some r := h
 clear h
 have HC2 := Aside0.mk H
 clear H
 go_enter Tryd.func36, Tryd.ntmps36
 go_upto_if 5 with (first | ((with_reducible refine gate_dst (N := 1) rfl ?_); refine hkBox (N := 1) (cs := #[.int .i64 a0_0, .bool a0_1, .int .i64 a0_2, .int .i64 a0_3]) (t := 33) ?_; intro gb541 hg w3 hbox hb; have n_ := hkA (hkU HB hb) (hkA (Aside0.mk (hbox)) (hkA (hkG hg (hkS HB)) (hkG hg (hkS HB)))); clear HB; obtain ⟨HB, BK541, GW541, GE541⟩ := n_; clear hb hbox hg; obtain ⟨hcz4_0, hfz4_0, hcz4_1, hfz4_1, hcz4_2, hfz4_2, hcz4_3, hfz4_3⟩ := hkc4 BK541))
 (try simp only [Act.put, List.setIfInBounds_toArray, List.set_cons_zero, List.set_cons_succ])
 go_cut [5] (fun v5 wc => ∃ (kq : Nat) (x5_1 : Bool), v5 = .bool x5_1 ∧ Aside0 (spec_FlOk.j0 kq a0_0 x5_1 a0_0 a0_1 a0_2 a0_3 = some r) ∧ Aside0 (kq ≤ k) ∧ Aside0 (wc.heap[gb541]? = some (.cells #[.int .i64 a0_0, .bool a0_1, .int .i64 a0_2, .int .i64 a0_3] 33 (0, 0))) ∧ Aside0 (Below w.heap.size w wc))
 case first =>
  have H := HC2.out
  clear HC2
  by_cases c5 : a0_0 = 0
  ·rw [if_pos c5] at H
   have c5b0 : (a0_0 == 0) = true := beq_iff_eq.mpr c5
   have c5b1 : (a0_0 != 0) = false := bne_eq_false_iff_eq.mpr c5
   clear c5
   (first | rw [c5b0] | (simp only [i64_w, i32_w]; rw [c5b0]) | skip)
   have H' := Aside0.mk H
   clear H
   go_wp2
   go_meet
   case rel => exact ⟨_, ((a0_0 == 0)), (by first | rfl | (simp; done) | (simp [*]; done)), H', ⟨by first | omega | exact Nat.le_refl _⟩, ⟨by refine hkz ?_; exact BK541.out⟩, ⟨hkS HB⟩⟩
  ·rw [if_neg c5] at H
   have c5b0 : (a0_0 == 0) = false := beq_eq_false_iff_ne.mpr c5
   have c5b1 : (a0_0 != 0) = true := bne_iff_ne.mpr c5
   (first | rw [c5b0] | (simp only [i64_w, i32_w]; rw [c5b0]) | skip)
   have H' := Aside0.mk H
   clear H
   go_wp2
   go_meet
   case rel => exact ⟨_, ((a0_0 == 2)), (by first | rfl | (simp; done) | (simp [*]; done)), H', ⟨by first | omega | exact Nat.le_refl _⟩, ⟨by refine hkz ?_; exact BK541.out⟩, ⟨hkS HB⟩⟩
 case rest =>
  clear HC2
  try clear p2
  try clear c3
  try clear c5
  try clear c5b0
  try clear c5b1
  try clear hcz4_0 hcz4_1 hcz4_2 hcz4_3 hfz4_0 hfz4_1 hfz4_2 hfz4_3
  obtain ⟨kq, x5_1, rfl, HA, HJ1, BK541, HB⟩ := hcut
  cases kq with
  | zero => exact absurd HA.out (by simp [spec_FlOk.j0])
  | succ kj1 =>
   have H := HA.out
   clear HA
   simp only [spec_FlOk.j0] at H
   by_cases c6 : x5_1 = true
   ·subst c6
    have H1 : (if a0_2 = 0 then (some (a0_3 == 0)) else (some false)) = some r := by rw [if_pos rfl] at H; exact H
    clear H
    have H := H1
    clear H1
    by_cases c7 : a0_2 = 0
    ·rw [if_pos c7] at H
     have c7b0 : (a0_2 == 0) = true := beq_iff_eq.mpr c7
     have c7b1 : (a0_2 != 0) = false := bne_eq_false_iff_eq.mpr c7
     clear c7
     obtain rfl := Option.some.inj H
     obtain ⟨hcz8_0, hfz8_0, hcz8_1, hfz8_1, hcz8_2, hfz8_2, hcz8_3, hfz8_3⟩ := hkc4 BK541
     go_wp2
     go_ret
     exact ⟨hkE, hkS HB⟩
    ·rw [if_neg c7] at H
     have c7b0 : (a0_2 == 0) = false := beq_eq_false_iff_ne.mpr c7
     have c7b1 : (a0_2 != 0) = true := bne_iff_ne.mpr c7
     obtain rfl := Option.some.inj H
     obtain ⟨hcz9_0, hfz9_0, hcz9_1, hfz9_1, hcz9_2, hfz9_2, hcz9_3, hfz9_3⟩ := hkc4 BK541
     go_wp2
     go_ret
     exact ⟨hkE, hkS HB⟩
   ·replace c6 := Bool.eq_false_iff.mpr c6
    subst c6
    have H1 : (if a0_0 = 3 then (if a0_2 = 0 then (if a0_3 = 0 then (some (!a0_1)) else (some false)) else (some false)) else (if a0_0 = 1 then (if a0_3 < (-1074) then (some false) else (if a0_3 > 971 then (some false) else (if a0_2 < 1 then (some false) else (if a0_2 ≥ 9007199254740992 then (some false) else (if a0_2 ≥ 4503599627370496 then (some true) else (some (a0_3 == (-1074)))))))) else (some false))) = some r := by rw [if_neg (show ¬ (false = true) by decide)] at H; exact H
    clear H
    have H := H1
    clear H1
    by_cases c10 : a0_0 = 3
    ·rw [if_pos c10] at H
     have c10b0 : (a0_0 == 3) = true := beq_iff_eq.mpr c10
     have c10b1 : (a0_0 != 3) = false := bne_eq_false_iff_eq.mpr c10
     clear c10
     by_cases c11 : a0_2 = 0
     ·rw [if_pos c11] at H
      have c11b0 : (a0_2 == 0) = true := beq_iff_eq.mpr c11
      have c11b1 : (a0_2 != 0) = false := bne_eq_false_iff_eq.mpr c11
      clear c11
      by_cases c12 : a0_3 = 0
      ·rw [if_pos c12] at H
       have c12b0 : (a0_3 == 0) = true := beq_iff_eq.mpr c12
       have c12b1 : (a0_3 != 0) = false := bne_eq_false_iff_eq.mpr c12
       clear c12
       obtain rfl := Option.some.inj H
       obtain ⟨hcz13_0, hfz13_0, hcz13_1, hfz13_1, hcz13_2, hfz13_2, hcz13_3, hfz13_3⟩ := hkc4 BK541
       go_wp2
       go_ret
       exact ⟨hkE, hkS HB⟩
      ·rw [if_neg c12] at H
       have c12b0 : (a0_3 == 0) = false := beq_eq_false_iff_ne.mpr c12
       have c12b1 : (a0_3 != 0) = true := bne_iff_ne.mpr c12
       obtain rfl := Option.some.inj H
       obtain ⟨hcz14_0, hfz14_0, hcz14_1, hfz14_1, hcz14_2, hfz14_2, hcz14_3, hfz14_3⟩ := hkc4 BK541
       go_wp2
       go_ret
       exact ⟨hkE, hkS HB⟩
     ·rw [if_neg c11] at H
      have c11b0 : (a0_2 == 0) = false := beq_eq_false_iff_ne.mpr c11
      have c11b1 : (a0_2 != 0) = true := bne_iff_ne.mpr c11
      obtain rfl := Option.some.inj H
      obtain ⟨hcz15_0, hfz15_0, hcz15_1, hfz15_1, hcz15_2, hfz15_2, hcz15_3, hfz15_3⟩ := hkc4 BK541
      go_wp2
      go_ret
      exact ⟨hkE, hkS HB⟩
    ·rw [if_neg c10] at H
     have c10b0 : (a0_0 == 3) = false := beq_eq_false_iff_ne.mpr c10
     have c10b1 : (a0_0 != 3) = true := bne_iff_ne.mpr c10
     by_cases c16 : a0_0 = 1
     ·rw [if_pos c16] at H
      have c16b0 : (a0_0 == 1) = true := beq_iff_eq.mpr c16
      have c16b1 : (a0_0 != 1) = false := bne_eq_false_iff_eq.mpr c16
      clear c16
      by_cases c17 : a0_3 < (-1074)
      ·rw [if_pos c17] at H
       have c17b0 : decide (a0_3 < (-1074)) = true := decide_eq_true c17
       clear c17
       obtain rfl := Option.some.inj H
       obtain ⟨hcz18_0, hfz18_0, hcz18_1, hfz18_1, hcz18_2, hfz18_2, hcz18_3, hfz18_3⟩ := hkc4 BK541
       go_wp2
       go_ret
       exact ⟨hkE, hkS HB⟩
      ·rw [if_neg c17] at H
       have c17b0 : decide (a0_3 < (-1074)) = false := decide_eq_false c17
       clear c17
       by_cases c19 : a0_3 > 971
       ·rw [if_pos c19] at H
        have c19b0 : decide (971 < a0_3) = true := decide_eq_true c19
        clear c19
        obtain rfl := Option.some.inj H
        obtain ⟨hcz20_0, hfz20_0, hcz20_1, hfz20_1, hcz20_2, hfz20_2, hcz20_3, hfz20_3⟩ := hkc4 BK541
        go_wp2
        go_ret
        exact ⟨hkE, hkS HB⟩
       ·rw [if_neg c19] at H
        have c19b0 : decide (971 < a0_3) = false := decide_eq_false c19
        clear c19
        by_cases c21 : a0_2 < 1
        ·rw [if_pos c21] at H
         have c21b0 : decide (a0_2 < 1) = true := decide_eq_true c21
         clear c21
         obtain rfl := Option.some.inj H
         obtain ⟨hcz22_0, hfz22_0, hcz22_1, hfz22_1, hcz22_2, hfz22_2, hcz22_3, hfz22_3⟩ := hkc4 BK541
         go_wp2
         go_ret
         exact ⟨hkE, hkS HB⟩
        ·rw [if_neg c21] at H
         have c21b0 : decide (a0_2 < 1) = false := decide_eq_false c21
         clear c21
         by_cases c23 : a0_2 ≥ 9007199254740992
         ·rw [if_pos c23] at H
          have c23b0 : decide (9007199254740992 ≤ a0_2) = true := decide_eq_true c23
          clear c23
          obtain rfl := Option.some.inj H
          obtain ⟨hcz24_0, hfz24_0, hcz24_1, hfz24_1, hcz24_2, hfz24_2, hcz24_3, hfz24_3⟩ := hkc4 BK541
          go_wp2
          go_ret
          exact ⟨hkE, hkS HB⟩
         ·rw [if_neg c23] at H
          have c23b0 : decide (9007199254740992 ≤ a0_2) = false := decide_eq_false c23
          clear c23
          by_cases c25 : a0_2 ≥ 4503599627370496
          ·rw [if_pos c25] at H
           have c25b0 : decide (4503599627370496 ≤ a0_2) = true := decide_eq_true c25
           clear c25
           obtain rfl := Option.some.inj H
           obtain ⟨hcz26_0, hfz26_0, hcz26_1, hfz26_1, hcz26_2, hfz26_2, hcz26_3, hfz26_3⟩ := hkc4 BK541
           go_wp2
           go_ret
           exact ⟨hkE, hkS HB⟩
          ·rw [if_neg c25] at H
           have c25b0 : decide (4503599627370496 ≤ a0_2) = false := decide_eq_false c25
           clear c25
           obtain rfl := Option.some.inj H
           obtain ⟨hcz27_0, hfz27_0, hcz27_1, hfz27_1, hcz27_2, hfz27_2, hcz27_3, hfz27_3⟩ := hkc4 BK541
           go_wp2
           go_ret
           exact ⟨hkE, hkS HB⟩
     ·rw [if_neg c16] at H
      have c16b0 : (a0_0 == 1) = false := beq_eq_false_iff_ne.mpr c16
      have c16b1 : (a0_0 != 1) = true := bne_iff_ne.mpr c16
      obtain rfl := Option.some.inj H
      go_wp2
      go_ret
      exact ⟨hkE, hkS HB⟩

end Go.Proofs.YtgjpahofopoflaaDoor.PFnFlOrder
