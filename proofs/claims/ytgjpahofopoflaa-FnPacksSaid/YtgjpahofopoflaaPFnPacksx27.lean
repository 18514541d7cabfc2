-- Written by our own driver (wip/hand/hprint.py) over the seat's translation.
import Derived.Test.YtgjpahofopoflaaPFnPacksx0
import Derived.Test.YtgjpahofopoflaaPFnPacksx2
namespace Go.Proofs.Ytgjpahofopoflaa.PFnPacks
open Go.RowKit Go.Proofs.YtgjpahofopoflaaW.PrintWords Go.Proofs.YtgjpahofopoflaaW.PrintLast Go.Proofs.YtgjpahofopoflaaW.PrintMore
attribute [local go_sem] max2_int min2_int max_two min_two max_three min_three max_four min_four   -- for this text's walks alone
set_option linter.unusedVariables false
set_option linter.unusedSimpArgs false

/-! ### impl_FlPack: function 37 -/
def impl_FlPack.j0 : Nat → Int → Int → Int → Bool → Int → Bool → Int → Int → Option (Int × Int × Bool)
 | 0, _, _, _, _, _, _, _, _ => none
 | k + 1, x5, x6, x12, x13, x560000, x560001, x560002, x560003 => if x13 = true then (if x560000 = 3 then (if x560001 = true then (some (Go.bits .or .i64 (Go.bits .or .i64 (2047 * 1048576) (2251799813685248 / 4294967296)) 2147483648, Go.bits .and .i64 2251799813685248 4294967295, true)) else (some (Go.bits .or .i64 (2047 * 1048576) (2251799813685248 / 4294967296), Go.bits .and .i64 2251799813685248 4294967295, true))) else (if x560001 = true then (some (Go.bits .or .i64 (Go.bits .or .i64 (2047 * 1048576) (x6 / 4294967296)) 2147483648, Go.bits .and .i64 x6 4294967295, true)) else (some (Go.bits .or .i64 (2047 * 1048576) (x6 / 4294967296), Go.bits .and .i64 x6 4294967295, true)))) else (if x12 = 1 then (if x560002 ≥ 4503599627370496 then (if x560001 = true then (some (Go.bits .or .i64 (Go.bits .or .i64 (wrap64 ((wrap64 ((wrap64 (x560003 - (-1074))) + 1)) * 1048576)) ((Go.bits .and .i64 x560002 4503599627370495) / 4294967296)) 2147483648, Go.bits .and .i64 (Go.bits .and .i64 x560002 4503599627370495) 4294967295, true)) else (some (Go.bits .or .i64 (wrap64 ((wrap64 ((wrap64 (x560003 - (-1074))) + 1)) * 1048576)) ((Go.bits .and .i64 x560002 4503599627370495) / 4294967296), Go.bits .and .i64 (Go.bits .and .i64 x560002 4503599627370495) 4294967295, true))) else (if x560001 = true then (some (Go.bits .or .i64 (Go.bits .or .i64 (wrap64 (x5 * 1048576)) ((Go.bits .and .i64 x560002 4503599627370495) / 4294967296)) 2147483648, Go.bits .and .i64 (Go.bits .and .i64 x560002 4503599627370495) 4294967295, true)) else (some (Go.bits .or .i64 (wrap64 (x5 * 1048576)) ((Go.bits .and .i64 x560002 4503599627370495) / 4294967296), Go.bits .and .i64 (Go.bits .and .i64 x560002 4503599627370495) 4294967295, true)))) else (if x560001 = true then (some (Go.bits .or .i64 (Go.bits .or .i64 (wrap64 (x5 * 1048576)) (x6 / 4294967296)) 2147483648, Go.bits .and .i64 x6 4294967295, true)) else (some (Go.bits .or .i64 (wrap64 (x5 * 1048576)) (x6 / 4294967296), Go.bits .and .i64 x6 4294967295, true))))
def impl_FlPack.f (k : Nat) (a0_0 : Int) (a0_1 : Bool) (a0_2 : Int) (a0_3 : Int) : Option (Int × Int × Bool) := (impl_FlOk.f a0_0 a0_1 a0_2 a0_3).bind fun t560 => (if t560 = true then (if a0_0 = 2 then (impl_FlPack.j0 k 0 0 a0_0 (a0_0 == 2) a0_0 a0_1 a0_2 a0_3) else (impl_FlPack.j0 k 0 0 a0_0 (a0_0 == 3) a0_0 a0_1 a0_2 a0_3)) else (some (0, 0, false)))
theorem impl_FlPack.mono_l : ∀ k, (∀ y0 y1 y2 y3 y4 y5 y6 y7, LeO (impl_FlPack.j0 k y0 y1 y2 y3 y4 y5 y6 y7) (impl_FlPack.j0 (k + 1) y0 y1 y2 y3 y4 y5 y6 y7))
 | 0 => fun _ _ _ _ _ _ _ _ r h => by simp [impl_FlPack.j0] at h
 | k + 1 => by
  have ih0 := impl_FlPack.mono_l k
  ·intro y0 y1 y2 y3 y4 y5 y6 y7
   unfold impl_FlPack.j0
   repeat' first
   | (with_reducible exact ih0 _ _ _ _ _ _ _ _)
   | (with_reducible exact LeO.refl _)
   | (with_reducible exact LeO.none _)
   | (with_reducible refine LeO.ite ?_ ?_)
   | (with_reducible refine LeO.bind ?_ (fun _ => ?_))
   | exact ih0 _ _ _ _ _ _ _ _
   | exact LeO.none _
   | refine LeO.ite ?_ ?_
   | refine LeO.bind ?_ (fun _ => ?_)
theorem impl_FlPack.mono : ∀ a0 a1 a2 a3 k, LeO (impl_FlPack.f k a0 a1 a2 a3) (impl_FlPack.f (k + 1) a0 a1 a2 a3) := by
 intro a0 a1 a2 a3 k
 have ih0 := impl_FlPack.mono_l k
 unfold impl_FlPack.f
 repeat' first
   | (with_reducible exact ih0 _ _ _ _ _ _ _ _)
   | (with_reducible exact LeO.refl _)
   | (with_reducible exact LeO.none _)
   | (with_reducible refine LeO.ite ?_ ?_)
   | (with_reducible refine LeO.bind ?_ (fun _ => ?_))
   | exact ih0 _ _ _ _ _ _ _ _
   | exact LeO.none _
   | refine LeO.ite ?_ ?_
   | refine LeO.bind ?_ (fun _ => ?_)
set_option maxHeartbeats 8000000 in
set_option maxRecDepth 100000 in
theorem impl_FlPack.calls (k : Nat) (a0_0 : Int) (a0_1 : Bool) (a0_2 : Int) (a0_3 : Int) (r1 : Int) (r2 : Int) (r3 : Bool) (w : World) (h : impl_FlPack.f k a0_0 a0_1 a0_2 a0_3 = some (r1, r2, r3)) :
  Calls Try.prog 37 #[.agg #[.int .i64 a0_0, .bool a0_1, .int .i64 a0_2, .int .i64 a0_3]] w fun e w' => e = .returned (.tuple #[.int .i64 r1, .int .i64 r2, .bool r3]) ∧ Below w.heap.size w w' := by
 have hu26 := Try.underlying26
 have HB := Aside0.mk (Below.refl w.heap.size w)
 have H : ((impl_FlOk.f a0_0 a0_1 a0_2 a0_3).bind fun t560 => (if t560 = true then (if a0_0 = 2 then (impl_FlPack.j0 k 0 0 a0_0 (a0_0 == 2) a0_0 a0_1 a0_2 a0_3) else (impl_FlPack.j0 k 0 0 a0_0 (a0_0 == 3) a0_0 a0_1 a0_2 a0_3)) else (some (0, 0, false)))) = some (r1, r2, r3) := h
 clear h
 replace H := hBi H
 obtain ⟨t560, A20, H⟩ := H
 replace H : (if t560 = true then (if a0_0 = 2 then (impl_FlPack.j0 k 0 0 a0_0 (a0_0 == 2) a0_0 a0_1 a0_2 a0_3) else (impl_FlPack.j0 k 0 0 a0_0 (a0_0 == 3) a0_0 a0_1 a0_2 a0_3)) else (some (0, 0, false))) = some (r1, r2, r3) := H
 have A2 := Aside0.mk A20
 clear A20
 by_cases c3 : t560 = true
 ·subst c3
  have H1 : (if a0_0 = 2 then (impl_FlPack.j0 k 0 0 a0_0 (a0_0 == 2) a0_0 a0_1 a0_2 a0_3) else (impl_FlPack.j0 k 0 0 a0_0 (a0_0 == 3) a0_0 a0_1 a0_2 a0_3)) = some (r1, r2, r3) := by rw [if_pos rfl] at H; exact H
  clear H
  have H := H1
  clear H1
  have HC4 := Aside0.mk H
  clear H
  go_enter Try.func37, Try.ntmps37
  go_upto_if 13 with (first | ((with_reducible refine gate_dst (N := 1) rfl ?_); refine hkBox (N := 1) (cs := #[.int .i64 a0_0, .bool a0_1, .int .i64 a0_2, .int .i64 a0_3]) (t := 26) ?_; intro gb559 hg w5 hbox hb; have n_ := hkA (hkU HB hb) (hkA (Aside0.mk (hbox)) (hkA (hkG hg (hkS HB)) (hkG hg (hkS HB)))); clear HB; obtain ⟨HB, BK559, GW559, GE559⟩ := n_; clear hb hbox hg; obtain ⟨hcz6_0, hfz6_0, hcz6_1, hfz6_1, hcz6_2, hfz6_2, hcz6_3, hfz6_3⟩ := hkc4 BK559) | ((with_reducible refine gate_callee (f := 39) rfl ?_); refine hkGo (N := some 9) Try.func39 #[.agg #[.int .i64 a0_0, .bool a0_1, .int .i64 a0_2, .int .i64 a0_3]] ?_; (with_reducible refine (impl_FlOk.calls a0_0 a0_1 a0_2 a0_3 true _ A2.out).mono ?_); rintro e w7 ⟨rfl, hb⟩; refine ⟨_, rfl, ?_⟩; have n_ := hkA (hkBb BK559 hb) (hkU HB hb); clear BK559 HB; obtain ⟨BK559, HB⟩ := n_; (try clear hb); obtain ⟨hcz8_0, hfz8_0, hcz8_1, hfz8_1, hcz8_2, hfz8_2, hcz8_3, hfz8_3⟩ := hkc4 BK559))
  (try simp only [Act.put, List.setIfInBounds_toArray, List.set_cons_zero, List.set_cons_succ])
  go_cut [13] (fun v13 wc => ∃ (kq : Nat) (x13_3 : Bool), v13 = .bool x13_3 ∧ Aside0 (impl_FlPack.j0 kq 0 0 a0_0 x13_3 a0_0 a0_1 a0_2 a0_3 = some (r1, r2, r3)) ∧ Aside0 (kq ≤ k) ∧ Aside0 (wc.heap[gb559]? = some (.cells #[.int .i64 a0_0, .bool a0_1, .int .i64 a0_2, .int .i64 a0_3] 26 (0, 0))) ∧ Aside0 (Below w.heap.size w wc))
  case first =>
   have H := HC4.out
   clear HC4
   by_cases c9 : a0_0 = 2
   ·rw [if_pos c9] at H
    have c9b0 : (a0_0 == 2) = true := beq_iff_eq.mpr c9
    have c9b1 : (a0_0 != 2) = false := bne_eq_false_iff_eq.mpr c9
    clear c9
    (first | rw [c9b0] | (simp only [i64_w, i32_w]; rw [c9b0]) | skip)
    have H' := Aside0.mk H
    clear H
    go_wp2
    go_meet
    case rel => exact ⟨_, ((a0_0 == 2)), (by first | rfl | (simp; done) | (simp [*]; done) | (simp [hw0]; done)), H', ⟨by first | omega | exact Nat.le_refl _⟩, ⟨by refine hkz ?_; exact BK559.out⟩, ⟨hkS HB⟩⟩
   ·rw [if_neg c9] at H
    have c9b0 : (a0_0 == 2) = false := beq_eq_false_iff_ne.mpr c9
    have c9b1 : (a0_0 != 2) = true := bne_iff_ne.mpr c9
    (first | rw [c9b0] | (simp only [i64_w, i32_w]; rw [c9b0]) | skip)
    have H' := Aside0.mk H
    clear H
    go_wp2
    go_meet
    case rel => exact ⟨_, ((a0_0 == 3)), (by first | rfl | (simp; done) | (simp [*]; done) | (simp [hw0]; done)), H', ⟨by first | omega | exact Nat.le_refl _⟩, ⟨by refine hkz ?_; exact BK559.out⟩, ⟨hkS HB⟩⟩
  case rest =>
   clear HC4
   try clear p2
   try clear c3
   try clear c9
   try clear c9b0
   try clear c9b1
   try clear hcz6_0 hcz6_1 hcz6_2 hcz6_3 hcz8_0 hcz8_1 hcz8_2 hcz8_3 hfz6_0 hfz6_1 hfz6_2 hfz6_3 hfz8_0 hfz8_1 hfz8_2 hfz8_3
   obtain ⟨kq, x13_3, rfl, HA, HJ3, BK559, HB⟩ := hcut
   cases kq with
   | zero => exact absurd HA.out (by simp [impl_FlPack.j0])
   | succ kj3 =>
    have H := HA.out
    clear HA
    simp only [impl_FlPack.j0] at H
    by_cases c10 : x13_3 = true
    ·subst c10
     have H1 : (if a0_0 = 3 then (if a0_1 = true then (some (Go.bits .or .i64 (Go.bits .or .i64 (2047 * 1048576) (2251799813685248 / 4294967296)) 2147483648, Go.bits .and .i64 2251799813685248 4294967295, true)) else (some (Go.bits .or .i64 (2047 * 1048576) (2251799813685248 / 4294967296), Go.bits .and .i64 2251799813685248 4294967295, true))) else (if a0_1 = true then (some (Go.bits .or .i64 (Go.bits .or .i64 (2047 * 1048576) (0 / 4294967296)) 2147483648, Go.bits .and .i64 0 4294967295, true)) else (some (Go.bits .or .i64 (2047 * 1048576) (0 / 4294967296), Go.bits .and .i64 0 4294967295, true)))) = some (r1, r2, r3) := by rw [if_pos rfl] at H; exact H
     clear H
     have H := H1
     clear H1
     by_cases c11 : a0_0 = 3
     ·rw [if_pos c11] at H
      have c11b0 : (a0_0 == 3) = true := beq_iff_eq.mpr c11
      have c11b1 : (a0_0 != 3) = false := bne_eq_false_iff_eq.mpr c11
      clear c11
      by_cases c12 : a0_1 = true
      ·subst c12
       have H1 : (some (Go.bits .or .i64 (Go.bits .or .i64 (2047 * 1048576) (2251799813685248 / 4294967296)) 2147483648, Go.bits .and .i64 2251799813685248 4294967295, true)) = some (r1, r2, r3) := by rw [if_pos rfl] at H; exact H
       clear H
       have H := H1
       clear H1
       simp only [Option.some.injEq, Prod.mk.injEq] at H
       obtain ⟨rfl, rfl, rfl⟩ := H
       obtain ⟨hcz13_0, hfz13_0, hcz13_1, hfz13_1, hcz13_2, hfz13_2, hcz13_3, hfz13_3⟩ := hkc4 BK559
       go_wp2
       go_ret3
       exact ⟨by first | rfl | (simp [errW_none, errW_some] <;> rfl) | (simp [*, errW_none, errW_some] <;> rfl) | (simp [hw0, errW_none, errW_some] <;> rfl), hkS HB⟩
      ·replace c12 := Bool.eq_false_iff.mpr c12
       subst c12
       have H1 : (some (Go.bits .or .i64 (2047 * 1048576) (2251799813685248 / 4294967296), Go.bits .and .i64 2251799813685248 4294967295, true)) = some (r1, r2, r3) := by rw [if_neg (show ¬ (false = true) by decide)] at H; exact H
       clear H
       have H := H1
       clear H1
       simp only [Option.some.injEq, Prod.mk.injEq] at H
       obtain ⟨rfl, rfl, rfl⟩ := H
       obtain ⟨hcz14_0, hfz14_0, hcz14_1, hfz14_1, hcz14_2, hfz14_2, hcz14_3, hfz14_3⟩ := hkc4 BK559
       go_wp2
       go_ret3
       exact ⟨by first | rfl | (simp [errW_none, errW_some] <;> rfl) | (simp [*, errW_none, errW_some] <;> rfl) | (simp [hw0, errW_none, errW_some] <;> rfl), hkS HB⟩
     ·rw [if_neg c11] at H
      have c11b0 : (a0_0 == 3) = false := beq_eq_false_iff_ne.mpr c11
      have c11b1 : (a0_0 != 3) = true := bne_iff_ne.mpr c11
      by_cases c15 : a0_1 = true
      ·subst c15
       have H1 : (some (Go.bits .or .i64 (Go.bits .or .i64 (2047 * 1048576) (0 / 4294967296)) 2147483648, Go.bits .and .i64 0 4294967295, true)) = some (r1, r2, r3) := by rw [if_pos rfl] at H; exact H
       clear H
       have H := H1
       clear H1
       simp only [Option.some.injEq, Prod.mk.injEq] at H
       obtain ⟨rfl, rfl, rfl⟩ := H
       obtain ⟨hcz16_0, hfz16_0, hcz16_1, hfz16_1, hcz16_2, hfz16_2, hcz16_3, hfz16_3⟩ := hkc4 BK559
       go_wp2
       go_ret3
       exact ⟨by first | rfl | (simp [errW_none, errW_some] <;> rfl) | (simp [*, errW_none, errW_some] <;> rfl) | (simp [hw0, errW_none, errW_some] <;> rfl), hkS HB⟩
      ·replace c15 := Bool.eq_false_iff.mpr c15
       subst c15
       have H1 : (some (Go.bits .or .i64 (2047 * 1048576) (0 / 4294967296), Go.bits .and .i64 0 4294967295, true)) = some (r1, r2, r3) := by rw [if_neg (show ¬ (false = true) by decide)] at H; exact H
       clear H
       have H := H1
       clear H1
       simp only [Option.some.injEq, Prod.mk.injEq] at H
       obtain ⟨rfl, rfl, rfl⟩ := H
       obtain ⟨hcz17_0, hfz17_0, hcz17_1, hfz17_1, hcz17_2, hfz17_2, hcz17_3, hfz17_3⟩ := hkc4 BK559
       go_wp2
       go_ret3
       exact ⟨by first | rfl | (simp [errW_none, errW_some] <;> rfl) | (simp [*, errW_none, errW_some] <;> rfl) | (simp [hw0, errW_none, errW_some] <;> rfl), hkS HB⟩
    ·replace c10 := Bool.eq_false_iff.mpr c10
     subst c10
     have H1 : (if a0_0 = 1 then (if a0_2 ≥ 4503599627370496 then (if a0_1 = true then (some (Go.bits .or .i64 (Go.bits .or .i64 (wrap64 ((wrap64 ((wrap64 (a0_3 - (-1074))) + 1)) * 1048576)) ((Go.bits .and .i64 a0_2 4503599627370495) / 4294967296)) 2147483648, Go.bits .and .i64 (Go.bits .and .i64 a0_2 4503599627370495) 4294967295, true)) else (some (Go.bits .or .i64 (wrap64 ((wrap64 ((wrap64 (a0_3 - (-1074))) + 1)) * 1048576)) ((Go.bits .and .i64 a0_2 4503599627370495) / 4294967296), Go.bits .and .i64 (Go.bits .and .i64 a0_2 4503599627370495) 4294967295, true))) else (if a0_1 = true then (some (Go.bits .or .i64 (Go.bits .or .i64 (wrap64 (0 * 1048576)) ((Go.bits .and .i64 a0_2 4503599627370495) / 4294967296)) 2147483648, Go.bits .and .i64 (Go.bits .and .i64 a0_2 4503599627370495) 4294967295, true)) else (some (Go.bits .or .i64 (wrap64 (0 * 1048576)) ((Go.bits .and .i64 a0_2 4503599627370495) / 4294967296), Go.bits .and .i64 (Go.bits .and .i64 a0_2 4503599627370495) 4294967295, true)))) else (if a0_1 = true then (some (Go.bits .or .i64 (Go.bits .or .i64 (wrap64 (0 * 1048576)) (0 / 4294967296)) 2147483648, Go.bits .and .i64 0 4294967295, true)) else (some (Go.bits .or .i64 (wrap64 (0 * 1048576)) (0 / 4294967296), Go.bits .and .i64 0 4294967295, true)))) = some (r1, r2, r3) := by rw [if_neg (show ¬ (false = true) by decide)] at H; exact H
     clear H
     have H := H1
     clear H1
     by_cases c18 : a0_0 = 1
     ·rw [if_pos c18] at H
      have c18b0 : (a0_0 == 1) = true := beq_iff_eq.mpr c18
      have c18b1 : (a0_0 != 1) = false := bne_eq_false_iff_eq.mpr c18
      clear c18
      by_cases c19 : a0_2 ≥ 4503599627370496
      ·rw [if_pos c19] at H
       have c19b0 : decide (4503599627370496 ≤ a0_2) = true := decide_eq_true c19
       clear c19
       by_cases c20 : a0_1 = true
       ·subst c20
        have H1 : (some (Go.bits .or .i64 (Go.bits .or .i64 (wrap64 ((wrap64 ((wrap64 (a0_3 - (-1074))) + 1)) * 1048576)) ((Go.bits .and .i64 a0_2 4503599627370495) / 4294967296)) 2147483648, Go.bits .and .i64 (Go.bits .and .i64 a0_2 4503599627370495) 4294967295, true)) = some (r1, r2, r3) := by rw [if_pos rfl] at H; exact H
        clear H
        have H := H1
        clear H1
        simp only [Option.some.injEq, Prod.mk.injEq] at H
        obtain ⟨rfl, rfl, rfl⟩ := H
        obtain ⟨hcz21_0, hfz21_0, hcz21_1, hfz21_1, hcz21_2, hfz21_2, hcz21_3, hfz21_3⟩ := hkc4 BK559
        go_wp2
        go_ret3
        exact ⟨by first | rfl | (simp [errW_none, errW_some] <;> rfl) | (simp [*, errW_none, errW_some] <;> rfl) | (simp [hw0, errW_none, errW_some] <;> rfl), hkS HB⟩
       ·replace c20 := Bool.eq_false_iff.mpr c20
        subst c20
        have H1 : (some (Go.bits .or .i64 (wrap64 ((wrap64 ((wrap64 (a0_3 - (-1074))) + 1)) * 1048576)) ((Go.bits .and .i64 a0_2 4503599627370495) / 4294967296), Go.bits .and .i64 (Go.bits .and .i64 a0_2 4503599627370495) 4294967295, true)) = some (r1, r2, r3) := by rw [if_neg (show ¬ (false = true) by decide)] at H; exact H
        clear H
        have H := H1
        clear H1
        simp only [Option.some.injEq, Prod.mk.injEq] at H
        obtain ⟨rfl, rfl, rfl⟩ := H
        obtain ⟨hcz22_0, hfz22_0, hcz22_1, hfz22_1, hcz22_2, hfz22_2, hcz22_3, hfz22_3⟩ := hkc4 BK559
        go_wp2
        go_ret3
        exact ⟨by first | rfl | (simp [errW_none, errW_some] <;> rfl) | (simp [*, errW_none, errW_some] <;> rfl) | (simp [hw0, errW_none, errW_some] <;> rfl), hkS HB⟩
      ·rw [if_neg c19] at H
       have c19b0 : decide (4503599627370496 ≤ a0_2) = false := decide_eq_false c19
       clear c19
       by_cases c23 : a0_1 = true
       ·subst c23
        have H1 : (some (Go.bits .or .i64 (Go.bits .or .i64 (wrap64 (0 * 1048576)) ((Go.bits .and .i64 a0_2 4503599627370495) / 4294967296)) 2147483648, Go.bits .and .i64 (Go.bits .and .i64 a0_2 4503599627370495) 4294967295, true)) = some (r1, r2, r3) := by rw [if_pos rfl] at H; exact H
        clear H
        have H := H1
        clear H1
        simp only [Option.some.injEq, Prod.mk.injEq] at H
        obtain ⟨rfl, rfl, rfl⟩ := H
        obtain ⟨hcz24_0, hfz24_0, hcz24_1, hfz24_1, hcz24_2, hfz24_2, hcz24_3, hfz24_3⟩ := hkc4 BK559
        go_wp2
        go_ret3
        exact ⟨by first | rfl | (simp [errW_none, errW_some] <;> rfl) | (simp [*, errW_none, errW_some] <;> rfl) | (simp [hw0, errW_none, errW_some] <;> rfl), hkS HB⟩
       ·replace c23 := Bool.eq_false_iff.mpr c23
        subst c23
        have H1 : (some (Go.bits .or .i64 (wrap64 (0 * 1048576)) ((Go.bits .and .i64 a0_2 4503599627370495) / 4294967296), Go.bits .and .i64 (Go.bits .and .i64 a0_2 4503599627370495) 4294967295, true)) = some (r1, r2, r3) := by rw [if_neg (show ¬ (false = true) by decide)] at H; exact H
        clear H
        have H := H1
        clear H1
        simp only [Option.some.injEq, Prod.mk.injEq] at H
        obtain ⟨rfl, rfl, rfl⟩ := H
        obtain ⟨hcz25_0, hfz25_0, hcz25_1, hfz25_1, hcz25_2, hfz25_2, hcz25_3, hfz25_3⟩ := hkc4 BK559
        go_wp2
        go_ret3
        exact ⟨by first | rfl | (simp [errW_none, errW_some] <;> rfl) | (simp [*, errW_none, errW_some] <;> rfl) | (simp [hw0, errW_none, errW_some] <;> rfl), hkS HB⟩
     ·rw [if_neg c18] at H
      have c18b0 : (a0_0 == 1) = false := beq_eq_false_iff_ne.mpr c18
      have c18b1 : (a0_0 != 1) = true := bne_iff_ne.mpr c18
      by_cases c26 : a0_1 = true
      ·subst c26
       have H1 : (some (Go.bits .or .i64 (Go.bits .or .i64 (wrap64 (0 * 1048576)) (0 / 4294967296)) 2147483648, Go.bits .and .i64 0 4294967295, true)) = some (r1, r2, r3) := by rw [if_pos rfl] at H; exact H
       clear H
       have H := H1
       clear H1
       simp only [Option.some.injEq, Prod.mk.injEq] at H
       obtain ⟨rfl, rfl, rfl⟩ := H
       obtain ⟨hcz27_0, hfz27_0, hcz27_1, hfz27_1, hcz27_2, hfz27_2, hcz27_3, hfz27_3⟩ := hkc4 BK559
       go_wp2
       go_ret3
       exact ⟨by first | rfl | (simp [errW_none, errW_some] <;> rfl) | (simp [*, errW_none, errW_some] <;> rfl) | (simp [hw0, errW_none, errW_some] <;> rfl), hkS HB⟩
      ·replace c26 := Bool.eq_false_iff.mpr c26
       subst c26
       have H1 : (some (Go.bits .or .i64 (wrap64 (0 * 1048576)) (0 / 4294967296), Go.bits .and .i64 0 4294967295, true)) = some (r1, r2, r3) := by rw [if_neg (show ¬ (false = true) by decide)] at H; exact H
       clear H
       have H := H1
       clear H1
       simp only [Option.some.injEq, Prod.mk.injEq] at H
       obtain ⟨rfl, rfl, rfl⟩ := H
       obtain ⟨hcz28_0, hfz28_0, hcz28_1, hfz28_1, hcz28_2, hfz28_2, hcz28_3, hfz28_3⟩ := hkc4 BK559
       go_wp2
       go_ret3
       exact ⟨by first | rfl | (simp [errW_none, errW_some] <;> rfl) | (simp [*, errW_none, errW_some] <;> rfl) | (simp [hw0, errW_none, errW_some] <;> rfl), hkS HB⟩
 ·replace c3 := Bool.eq_false_iff.mpr c3
  subst c3
  have H1 : (some (0, 0, false)) = some (r1, r2, r3) := by rw [if_neg (show ¬ (false = true) by decide)] at H; exact H
  clear H
  have H := H1
  clear H1
  simp only [Option.some.injEq, Prod.mk.injEq] at H
  obtain ⟨rfl, rfl, rfl⟩ := H
  go_enter Try.func37, Try.ntmps37
  go_wp2_with (first | ((with_reducible refine gate_dst (N := 1) rfl ?_); refine hkBox (N := 1) (cs := #[.int .i64 a0_0, .bool a0_1, .int .i64 a0_2, .int .i64 a0_3]) (t := 26) ?_; intro gb559 hg w29 hbox hb; have n_ := hkA (hkU HB hb) (hkA (Aside0.mk (hbox)) (hkA (hkG hg (hkS HB)) (hkG hg (hkS HB)))); clear HB; obtain ⟨HB, BK559, GW559, GE559⟩ := n_; clear hb hbox hg; obtain ⟨hcz30_0, hfz30_0, hcz30_1, hfz30_1, hcz30_2, hfz30_2, hcz30_3, hfz30_3⟩ := hkc4 BK559) | ((with_reducible refine gate_callee (f := 39) rfl ?_); refine hkGo (N := some 9) Try.func39 #[.agg #[.int .i64 a0_0, .bool a0_1, .int .i64 a0_2, .int .i64 a0_3]] ?_; (with_reducible refine (impl_FlOk.calls a0_0 a0_1 a0_2 a0_3 false _ A2.out).mono ?_); rintro e w31 ⟨rfl, hb⟩; refine ⟨_, rfl, ?_⟩; have n_ := hkA (hkBb BK559 hb) (hkU HB hb); clear BK559 HB; obtain ⟨BK559, HB⟩ := n_; (try clear hb)))
  go_ret3
  exact ⟨by first | rfl | (simp [errW_none, errW_some] <;> rfl) | (simp [*, errW_none, errW_some] <;> rfl) | (simp [hw0, errW_none, errW_some] <;> rfl), hkS HB⟩

end Go.Proofs.Ytgjpahofopoflaa.PFnPacks
