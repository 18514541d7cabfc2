-- Written by our own driver (wip/hand/hprint.py) over the seat's translation.
import Derived.Test.YtgjpahofopoflaaPFnExactNatDivx0
import Derived.Test.YtgjpahofopoflaaPFnExactNatDivx1
import Derived.Test.YtgjpahofopoflaaPFnExactNatDivx2
import Derived.Test.YtgjpahofopoflaaPFnExactNatDivx3
import Derived.Test.YtgjpahofopoflaaPFnExactNatDivx4
import Derived.Test.YtgjpahofopoflaaPFnExactNatDivx5
import Derived.Test.YtgjpahofopoflaaPFnExactNatDivx6
import Derived.Test.YtgjpahofopoflaaPFnExactNatDivx7
import Derived.Test.YtgjpahofopoflaaPFnExactNatDivx8
import Derived.Test.YtgjpahofopoflaaPFnExactNatDivx9
namespace Go.Proofs.Ytgjpahofopoflaa.PFnExactNatDiv
open Go.RowKit Go.Proofs.YtgjpahofopoflaaW.PrintWords Go.Proofs.YtgjpahofopoflaaW.PrintLast Go.Proofs.YtgjpahofopoflaaW.PrintMore
attribute [local go_sem] max2_int min2_int max_two min_two max_three min_three max_four min_four   -- for this text's walks alone
set_option linter.unusedVariables false
set_option linter.unusedSimpArgs false

/-! ### impl_divide: function 61 -/
def impl_divide.l0 : Nat → Int → List Int → List Int → List Int → Int → Option (List Int × List Int)
 | 0, _, _, _, _, _ => none
 | k + 1, x8, x9, x10, x11, x12 => if x12 ≥ 0 then ((impl_digitOf.f k x10 x9 x12).bind fun t214 => ((impl_takeAway.f k x10 x9 x12 t214).bind fun bt215 => (if bt215.1 = true then ((impl_addBack.f k bt215.2 x9 x12).bind fun t217 => (if 0 ≤ x12 then (if x12 < (x11.length : Int) then (impl_divide.l0 k x8 x9 t217 (x11.set (x12 : Int).toNat (wrap64 (t214 - 1))) (wrap64 (x12 - 1))) else (none)) else (none))) else (if 0 ≤ x12 then (if x12 < (x11.length : Int) then (impl_divide.l0 k x8 x9 bt215.2 (x11.set (x12 : Int).toNat t214) (wrap64 (x12 - 1))) else (none)) else (none))))) else ((impl_trim.f k x11).bind fun t205 => ((impl_trim.f k x10).bind fun t208 => ((impl_down.f k t208 x8).bind fun t211 => (some (t205, t211)))))
def impl_divide.f (k : Nat) (l0 : List Int) (l1 : List Int) : Option (List Int × List Int) := (impl_compare.f k l0 l1).bind fun t179 => (if t179 < 0 then ((slices_Clone_int_int.f l0).bind fun t180 => (some (([] : List Int), t180))) else (if (l1.length : Int) = 1 then (if 0 < (l1.length : Int) then ((impl_divideSmall.f k l0 (rd l1 0)).bind fun bt184 => ((impl_small.f k bt184.2).bind fun t188 => (some (bt184.1, t188)))) else (none)) else (if 0 ≤ (wrap64 ((l1.length : Int) - 1)) then (if (wrap64 ((l1.length : Int) - 1)) < (l1.length : Int) then ((bits_Len.f (IntKind.u64.wrap (rd l1 (wrap64 ((l1.length : Int) - 1))))).bind fun t192 => ((impl_up.f k l1 (wrap64 (16 - t192))).bind fun t193 => ((impl_up.f k l0 (wrap64 (16 - t192))).bind fun t196 => (if 0 ≤ (wrap64 ((wrap64 ((l0.length : Int) + 1)) - (t196.length : Int))) then (if t196.length + (wrap64 ((wrap64 ((l0.length : Int) + 1)) - (t196.length : Int)) : Int).toNat < 17592186044416 then (if 0 ≤ (wrap64 ((wrap64 ((l0.length : Int) - (l1.length : Int))) + 1)) then (if (wrap64 ((wrap64 ((l0.length : Int) - (l1.length : Int))) + 1) : Int).toNat ≤ 35184372088832 then ((some (List.replicate (wrap64 ((wrap64 ((l0.length : Int) - (l1.length : Int))) + 1) : Int).toNat 0 : List Int)).bind fun y202 => (impl_divide.l0 k (wrap64 (16 - t192)) t193 (t196 ++ List.replicate (wrap64 ((wrap64 ((l0.length : Int) + 1)) - (t196.length : Int)) : Int).toNat 0) y202 (wrap64 ((y202.length : Int) - 1)))) else (none)) else (none)) else (none)) else (none))))) else (none)) else (none))))
theorem impl_divide.mono_l : ∀ k, (∀ y0 y1 y2 y3 y4, LeO (impl_divide.l0 k y0 y1 y2 y3 y4) (impl_divide.l0 (k + 1) y0 y1 y2 y3 y4))
 | 0 => fun _ _ _ _ _ r h => by simp [impl_divide.l0] at h
 | k + 1 => by
  have ih0 := impl_divide.mono_l k
  ·intro y0 y1 y2 y3 y4
   unfold impl_divide.l0
   repeat' first
   | (with_reducible exact ih0 _ _ _ _ _)
   | (with_reducible exact impl_addBack.mono _ _ _ _)
   | (with_reducible exact impl_compare.mono _ _ _)
   | (with_reducible exact impl_digitOf.mono _ _ _ _)
   | (with_reducible exact impl_divideSmall.mono _ _ _)
   | (with_reducible exact impl_down.mono _ _ _)
   | (with_reducible exact impl_small.mono _ _)
   | (with_reducible exact impl_takeAway.mono _ _ _ _ _)
   | (with_reducible exact impl_trim.mono _ _)
   | (with_reducible exact impl_up.mono _ _ _)
   | (with_reducible exact LeO.refl _)
   | (with_reducible exact LeO.none _)
   | (with_reducible refine LeO.ite ?_ ?_)
   | (with_reducible refine LeO.bind ?_ (fun _ => ?_))
   | exact ih0 _ _ _ _ _
   | exact impl_addBack.mono _ _ _ _
   | exact impl_compare.mono _ _ _
   | exact impl_digitOf.mono _ _ _ _
   | exact impl_divideSmall.mono _ _ _
   | exact impl_down.mono _ _ _
   | exact impl_small.mono _ _
   | exact impl_takeAway.mono _ _ _ _ _
   | exact impl_trim.mono _ _
   | exact impl_up.mono _ _ _
   | exact LeO.none _
   | refine LeO.ite ?_ ?_
   | refine LeO.bind ?_ (fun _ => ?_)
theorem impl_divide.mono : ∀ a0 a1 k, LeO (impl_divide.f k a0 a1) (impl_divide.f (k + 1) a0 a1) := by
 intro a0 a1 k
 have ih0 := impl_divide.mono_l k
 unfold impl_divide.f
 repeat' first
   | (with_reducible exact ih0 _ _ _ _ _)
   | (with_reducible exact impl_addBack.mono _ _ _ _)
   | (with_reducible exact impl_compare.mono _ _ _)
   | (with_reducible exact impl_digitOf.mono _ _ _ _)
   | (with_reducible exact impl_divideSmall.mono _ _ _)
   | (with_reducible exact impl_down.mono _ _ _)
   | (with_reducible exact impl_small.mono _ _)
   | (with_reducible exact impl_takeAway.mono _ _ _ _ _)
   | (with_reducible exact impl_trim.mono _ _)
   | (with_reducible exact impl_up.mono _ _ _)
   | (with_reducible exact LeO.refl _)
   | (with_reducible exact LeO.none _)
   | (with_reducible refine LeO.ite ?_ ?_)
   | (with_reducible refine LeO.bind ?_ (fun _ => ?_))
   | exact ih0 _ _ _ _ _
   | exact impl_addBack.mono _ _ _ _
   | exact impl_compare.mono _ _ _
   | exact impl_digitOf.mono _ _ _ _
   | exact impl_divideSmall.mono _ _ _
   | exact impl_down.mono _ _ _
   | exact impl_small.mono _ _
   | exact impl_takeAway.mono _ _ _ _ _
   | exact impl_trim.mono _ _
   | exact impl_up.mono _ _ _
   | exact LeO.none _
   | refine LeO.ite ?_ ?_
   | refine LeO.bind ?_ (fun _ => ?_)
set_option maxHeartbeats 8000000 in
set_option maxRecDepth 100000 in
theorem impl_divide.calls (k : Nat) (A0 : Option Addr) (c0 : Nat) (l0 : List Int) (A1 : Option Addr) (c1 : Nat) (l1 : List Int) (r1 : List Int) (r2 : List Int) (w : World) (hr0 : Kd.C (Kd.int .i64) w A0 l0.length l0) (hc0 : l0.length ≤ c0) (hr1 : Kd.C (Kd.int .i64) w A1 l1.length l1) (hc1 : l1.length ≤ c1) (h : impl_divide.f k l0 l1 = some (r1, r2)) :
  Calls Try.prog 61 #[.slice A0 l0.length c0, .slice A1 l1.length c1] w fun e w' => ∃ v0_ v1_ : Value, e = .returned (.tuple #[v0_, v1_]) ∧ Kd.R (Kd.int .i64) 3 w' w.heap.size (fun k_ => some k_ ≠ (v1_ : Value).ownBlock) v0_ r1 ∧ Kd.R (Kd.int .i64) 3 w' w.heap.size (fun k_ => some k_ ≠ (v0_ : Value).ownBlock) v1_ r2 ∧ Below w.heap.size w w' := by
 have HR0 := Aside0.mk hr0
 have HC0 := Aside0.mk hc0
 clear hr0 hc0
 have HR1 := Aside0.mk hr1
 have HC1 := Aside0.mk hc1
 clear hr1 hc1
 have HB := Aside0.mk (Below.refl w.heap.size w)
 have H : ((impl_compare.f k l0 l1).bind fun t179 => (if t179 < 0 then ((slices_Clone_int_int.f l0).bind fun t180 => (some (([] : List Int), t180))) else (if (l1.length : Int) = 1 then (if 0 < (l1.length : Int) then ((impl_divideSmall.f k l0 (rd l1 0)).bind fun bt184 => ((impl_small.f k bt184.2).bind fun t188 => (some (bt184.1, t188)))) else (none)) else (if 0 ≤ (wrap64 ((l1.length : Int) - 1)) then (if (wrap64 ((l1.length : Int) - 1)) < (l1.length : Int) then ((bits_Len.f (IntKind.u64.wrap (rd l1 (wrap64 ((l1.length : Int) - 1))))).bind fun t192 => ((impl_up.f k l1 (wrap64 (16 - t192))).bind fun t193 => ((impl_up.f k l0 (wrap64 (16 - t192))).bind fun t196 => (if 0 ≤ (wrap64 ((wrap64 ((l0.length : Int) + 1)) - (t196.length : Int))) then (if t196.length + (wrap64 ((wrap64 ((l0.length : Int) + 1)) - (t196.length : Int)) : Int).toNat < 17592186044416 then (if 0 ≤ (wrap64 ((wrap64 ((l0.length : Int) - (l1.length : Int))) + 1)) then (if (wrap64 ((wrap64 ((l0.length : Int) - (l1.length : Int))) + 1) : Int).toNat ≤ 35184372088832 then ((some (List.replicate (wrap64 ((wrap64 ((l0.length : Int) - (l1.length : Int))) + 1) : Int).toNat 0 : List Int)).bind fun y202 => (impl_divide.l0 k (wrap64 (16 - t192)) t193 (t196 ++ List.replicate (wrap64 ((wrap64 ((l0.length : Int) + 1)) - (t196.length : Int)) : Int).toNat 0) y202 (wrap64 ((y202.length : Int) - 1)))) else (none)) else (none)) else (none)) else (none))))) else (none)) else (none))))) = some (r1, r2) := h
 clear h
 replace H := hBi H
 obtain ⟨t179, A30, H⟩ := H
 replace H : (if t179 < 0 then ((slices_Clone_int_int.f l0).bind fun t180 => (some (([] : List Int), t180))) else (if (l1.length : Int) = 1 then (if 0 < (l1.length : Int) then ((impl_divideSmall.f k l0 (rd l1 0)).bind fun bt184 => ((impl_small.f k bt184.2).bind fun t188 => (some (bt184.1, t188)))) else (none)) else (if 0 ≤ (wrap64 ((l1.length : Int) - 1)) then (if (wrap64 ((l1.length : Int) - 1)) < (l1.length : Int) then ((bits_Len.f (IntKind.u64.wrap (rd l1 (wrap64 ((l1.length : Int) - 1))))).bind fun t192 => ((impl_up.f k l1 (wrap64 (16 - t192))).bind fun t193 => ((impl_up.f k l0 (wrap64 (16 - t192))).bind fun t196 => (if 0 ≤ (wrap64 ((wrap64 ((l0.length : Int) + 1)) - (t196.length : Int))) then (if t196.length + (wrap64 ((wrap64 ((l0.length : Int) + 1)) - (t196.length : Int)) : Int).toNat < 17592186044416 then (if 0 ≤ (wrap64 ((wrap64 ((l0.length : Int) - (l1.length : Int))) + 1)) then (if (wrap64 ((wrap64 ((l0.length : Int) - (l1.length : Int))) + 1) : Int).toNat ≤ 35184372088832 then ((some (List.replicate (wrap64 ((wrap64 ((l0.length : Int) - (l1.length : Int))) + 1) : Int).toNat 0 : List Int)).bind fun y202 => (impl_divide.l0 k (wrap64 (16 - t192)) t193 (t196 ++ List.replicate (wrap64 ((wrap64 ((l0.length : Int) + 1)) - (t196.length : Int)) : Int).toNat 0) y202 (wrap64 ((y202.length : Int) - 1)))) else (none)) else (none)) else (none)) else (none))))) else (none)) else (none)))) = some (r1, r2) := H
 have A3 := Aside0.mk A30
 clear A30
 by_cases c4 : t179 < 0
 ·rw [if_pos c4] at H
  have c4b0 : decide (t179 < 0) = true := decide_eq_true c4
  clear c4
  replace H := hBi H
  obtain ⟨t180, A50, H⟩ := H
  replace H : (some (([] : List Int), t180)) = some (r1, r2) := H
  have A5 := Aside0.mk A50
  clear A50
  simp only [Option.some.injEq, Prod.mk.injEq] at H
  obtain ⟨rfl, rfl⟩ := H
  go_enter Try.func61, Try.ntmps61
  go_wp2_with (first | ((with_reducible refine gate_callee (f := 101) rfl ?_); refine hkGo (N := some 16) Try.func101 #[.slice A0 l0.length c0, .slice A1 l1.length c1] ?_; (with_reducible refine (impl_compare.calls k _ _ l0 _ _ l1 t179 _ ?side1 ?side2 ?side3 ?side4 A3.out).mono ?_); (case side1 => exact hkC (HR0.out)); (case side2 => exact HC0.out); (case side3 => exact hkC (HR1.out)); (case side4 => exact HC1.out); rintro e w' ⟨rfl, ⟨nd, rfl⟩⟩; refine ⟨_, rfl, ?_⟩) | ((with_reducible refine gate_callee (f := 60) rfl ?_); refine hkGo (N := some 19) Try.func60 #[.slice A0 l0.length c0] ?_; (with_reducible refine (slices_Clone_int_int.calls _ _ l0 t180 _ ?side1 ?side2 A5.out).mono ?_); (case side1 => exact hkC (HR0.out)); (case side2 => exact HC0.out); rintro e w6 ⟨v181, rfl, ho0, hb⟩; refine ⟨_, rfl, ?_⟩; have n_ := hkA (Aside0.mk (Kd.R_lower ho0 (below_size (hkS HB)))) (hkU HB hb); clear HB; obtain ⟨HO182, HB⟩ := n_; (try clear hb); (try clear ho0)))
  go_ret2
  exact ⟨_, _, hkE, by first | exact Kd.R_nil _ _ _ _ _ | exact Kd.N_nil _ _ _ _ _ | exact Kd.V_nil _ _ _ _ _ | exact Kd.Q_nil _ _ _ _ _ | exact Kd.S_nil _ _ _ _ _, by (with_reducible repeat (first | apply Kd.R_alloc | apply Kd.R_drewN | apply Kd.R_drew)); exact Kd.R_mono HO182.out (fun _ hk => (by simp [Value.ownBlock])), hkS HB⟩
 ·rw [if_neg c4] at H
  have c4b0 : decide (t179 < 0) = false := decide_eq_false c4
  clear c4
  by_cases c7 : (l1.length : Int) = 1
  ·rw [if_pos c7] at H
   have c7b0 : ((l1.length : Int) == 1) = true := beq_iff_eq.mpr c7
   have c7b1 : ((l1.length : Int) != 1) = false := bne_eq_false_iff_eq.mpr c7
   clear c7
   by_cases c8 : 0 < (l1.length : Int)
   ·rw [if_pos c8] at H
    have c8b0 : decide (0 < (l1.length : Int)) = true := decide_eq_true c8
    have c8b1 : decide (0 < l1.length) = true := decide_eq_true (by omega)
    clear c8
    replace H := hBi H
    obtain ⟨⟨t184, t185⟩, A90, H⟩ := H
    replace H : ((impl_small.f k t185).bind fun t188 => (some (t184, t188))) = some (r1, r2) := H
    have A9 := Aside0.mk A90
    clear A90
    replace H := hBi H
    obtain ⟨t188, A100, H⟩ := H
    replace H : (some (t184, t188)) = some (r1, r2) := H
    have A10 := Aside0.mk A100
    clear A100
    simp only [Option.some.injEq, Prod.mk.injEq] at H
    obtain ⟨rfl, rfl⟩ := H
    go_enter Try.func61, Try.ntmps61
    go_wp2_with (first | ((with_reducible refine gate_callee (f := 101) rfl ?_); refine hkGo (N := some 16) Try.func101 #[.slice A0 l0.length c0, .slice A1 l1.length c1] ?_; (with_reducible refine (impl_compare.calls k _ _ l0 _ _ l1 t179 _ ?side1 ?side2 ?side3 ?side4 A3.out).mono ?_); (case side1 => exact hkC (HR0.out)); (case side2 => exact HC0.out); (case side3 => exact hkC (HR1.out)); (case side4 => exact HC1.out); rintro e w' ⟨rfl, ⟨nd, rfl⟩⟩; refine ⟨_, rfl, ?_⟩; have p183 : 0 ≤ (0 : Int) := (by omega); have q183 : 0 < (l1.length : Int) := of_decide_eq_true (by first | (with_reducible assumption) | assumption); obtain ⟨ad183, e183, hx183_0⟩ := Kd.at_int HR1.out 0 p183 q183; cases e183; have qi183 : (0 < l1.length) = True := eq_true (by omega); (try rw [show ((0 : Int)).toNat = 0 from rfl] at hx183_0); (try rw [Addr.add_zero'] at hx183_0); replace p183 := eq_true p183; replace q183 := eq_true q183) | ((with_reducible refine gate_callee (f := 102) rfl ?_); refine hkGo (N := some 28) Try.func102 #[.slice A0 l0.length c0, .int .i64 (rd l1 0)] ?_; (with_reducible refine (impl_divideSmall.calls k _ _ l0 (rd l1 0) t184 t185 _ ?side1 ?side2 A9.out).mono ?_); (case side1 => exact hkC (HR0.out)); (case side2 => exact HC0.out); rintro e w11 ⟨v186, rfl, ho0, hb⟩; refine ⟨_, rfl, ?_⟩; have n_ := hkA (Aside0.mk (Kd.R_lower ho0 (below_size (hkS HB)))) (hkU HB hb); clear HB; obtain ⟨HO187, HB⟩ := n_; (try clear hb); (try clear ho0)) | ((with_reducible refine gate_callee (f := 103) rfl ?_); refine hkGo (N := some 33) Try.func103 #[.int .i64 t185] ?_; (with_reducible refine (impl_small.calls k t185 t188 _ A10.out).mono ?_); rintro e w12 ⟨v189, rfl, ho0, hb⟩; refine ⟨_, rfl, ?_⟩; have n_ := hkA (Aside0.mk (Kd.R_elder' (hkR HO187) (Kd.R_base ho0) hb)) (hkA (Aside0.mk (Kd.R_lower (Kd.R_new' ho0 (Kd.R_lt (hkR HO187))) (below_size (hkS HB)))) (hkU HB hb)); clear HO187 HB; obtain ⟨HO187, HO190, HB⟩ := n_; (try clear hb); (try clear ho0)))
    go_ret2
    exact ⟨_, _, hkE, by (with_reducible repeat (first | apply Kd.R_alloc | apply Kd.R_drewN | apply Kd.R_drew)); exact Kd.R_mono HO187.out (fun _ hk => hk.2), by (with_reducible repeat (first | apply Kd.R_alloc | apply Kd.R_drewN | apply Kd.R_drew)); exact Kd.R_mono HO190.out (fun _ hk => hk.2), hkS HB⟩
   ·rw [if_neg c8] at H
    exact absurd H (by simp)
  ·rw [if_neg c7] at H
   have c7b0 : ((l1.length : Int) == 1) = false := beq_eq_false_iff_ne.mpr c7
   have c7b1 : ((l1.length : Int) != 1) = true := bne_iff_ne.mpr c7
   obtain ⟨ji13, hji13⟩ : ∃ j_ : Int, (wrap64 ((l1.length : Int) - 1)) = j_ := ⟨_, rfl⟩
   replace H : (if 0 ≤ (ji13) then (if (ji13) < (l1.length : Int) then ((bits_Len.f (IntKind.u64.wrap (rd l1 (ji13)))).bind fun t192 => ((impl_up.f k l1 (wrap64 (16 - t192))).bind fun t193 => ((impl_up.f k l0 (wrap64 (16 - t192))).bind fun t196 => (if 0 ≤ (wrap64 ((wrap64 ((l0.length : Int) + 1)) - (t196.length : Int))) then (if t196.length + (wrap64 ((wrap64 ((l0.length : Int) + 1)) - (t196.length : Int)) : Int).toNat < 17592186044416 then (if 0 ≤ (wrap64 ((wrap64 ((l0.length : Int) - (l1.length : Int))) + 1)) then (if (wrap64 ((wrap64 ((l0.length : Int) - (l1.length : Int))) + 1) : Int).toNat ≤ 35184372088832 then ((some (List.replicate (wrap64 ((wrap64 ((l0.length : Int) - (l1.length : Int))) + 1) : Int).toNat 0 : List Int)).bind fun y202 => (impl_divide.l0 k (wrap64 (16 - t192)) t193 (t196 ++ List.replicate (wrap64 ((wrap64 ((l0.length : Int) + 1)) - (t196.length : Int)) : Int).toNat 0) y202 (wrap64 ((y202.length : Int) - 1)))) else (none)) else (none)) else (none)) else (none))))) else (none)) else (none)) = some (r1, r2) := by first | (rw [hji13] at H; exact H) | (simp only [hji13] at H ⊢; exact H)
   (try rw [hji13] at A3)
   have hji13w : (IntKind.i64.wrap ((l1.length : Int) - 1)) = ji13 := (i64_w _).trans hji13
   by_cases c14 : 0 ≤ (ji13)
   ·rw [if_pos c14] at H
    have c14b0 : decide (0 ≤ (ji13)) = true := decide_eq_true c14
    clear c14
    by_cases c15 : (ji13) < (l1.length : Int)
    ·rw [if_pos c15] at H
     have c15b0 : decide ((ji13) < (l1.length : Int)) = true := decide_eq_true c15
     clear c15
     replace H := hBi H
     obtain ⟨t192, A160, H⟩ := H
     replace H : ((impl_up.f k l1 (wrap64 (16 - t192))).bind fun t193 => ((impl_up.f k l0 (wrap64 (16 - t192))).bind fun t196 => (if 0 ≤ (wrap64 ((wrap64 ((l0.length : Int) + 1)) - (t196.length : Int))) then (if t196.length + (wrap64 ((wrap64 ((l0.length : Int) + 1)) - (t196.length : Int)) : Int).toNat < 17592186044416 then (if 0 ≤ (wrap64 ((wrap64 ((l0.length : Int) - (l1.length : Int))) + 1)) then (if (wrap64 ((wrap64 ((l0.length : Int) - (l1.length : Int))) + 1) : Int).toNat ≤ 35184372088832 then ((some (List.replicate (wrap64 ((wrap64 ((l0.length : Int) - (l1.length : Int))) + 1) : Int).toNat 0 : List Int)).bind fun y202 => (impl_divide.l0 k (wrap64 (16 - t192)) t193 (t196 ++ List.replicate (wrap64 ((wrap64 ((l0.length : Int) + 1)) - (t196.length : Int)) : Int).toNat 0) y202 (wrap64 ((y202.length : Int) - 1)))) else (none)) else (none)) else (none)) else (none)))) = some (r1, r2) := H
     have A16 := Aside0.mk A160
     clear A160
     replace H := hBi H
     obtain ⟨t193, A170, H⟩ := H
     replace H : ((impl_up.f k l0 (wrap64 (16 - t192))).bind fun t196 => (if 0 ≤ (wrap64 ((wrap64 ((l0.length : Int) + 1)) - (t196.length : Int))) then (if t196.length + (wrap64 ((wrap64 ((l0.length : Int) + 1)) - (t196.length : Int)) : Int).toNat < 17592186044416 then (if 0 ≤ (wrap64 ((wrap64 ((l0.length : Int) - (l1.length : Int))) + 1)) then (if (wrap64 ((wrap64 ((l0.length : Int) - (l1.length : Int))) + 1) : Int).toNat ≤ 35184372088832 then ((some (List.replicate (wrap64 ((wrap64 ((l0.length : Int) - (l1.length : Int))) + 1) : Int).toNat 0 : List Int)).bind fun y202 => (impl_divide.l0 k (wrap64 (16 - t192)) t193 (t196 ++ List.replicate (wrap64 ((wrap64 ((l0.length : Int) + 1)) - (t196.length : Int)) : Int).toNat 0) y202 (wrap64 ((y202.length : Int) - 1)))) else (none)) else (none)) else (none)) else (none))) = some (r1, r2) := H
     have A17 := Aside0.mk A170
     clear A170
     replace H := hBi H
     obtain ⟨t196, A180, H⟩ := H
     replace H : (if 0 ≤ (wrap64 ((wrap64 ((l0.length : Int) + 1)) - (t196.length : Int))) then (if t196.length + (wrap64 ((wrap64 ((l0.length : Int) + 1)) - (t196.length : Int)) : Int).toNat < 17592186044416 then (if 0 ≤ (wrap64 ((wrap64 ((l0.length : Int) - (l1.length : Int))) + 1)) then (if (wrap64 ((wrap64 ((l0.length : Int) - (l1.length : Int))) + 1) : Int).toNat ≤ 35184372088832 then ((some (List.replicate (wrap64 ((wrap64 ((l0.length : Int) - (l1.length : Int))) + 1) : Int).toNat 0 : List Int)).bind fun y202 => (impl_divide.l0 k (wrap64 (16 - t192)) t193 (t196 ++ List.replicate (wrap64 ((wrap64 ((l0.length : Int) + 1)) - (t196.length : Int)) : Int).toNat 0) y202 (wrap64 ((y202.length : Int) - 1)))) else (none)) else (none)) else (none)) else (none)) = some (r1, r2) := H
     have A18 := Aside0.mk A180
     clear A180
     obtain ⟨ji19, hji19⟩ : ∃ j_ : Int, (wrap64 ((wrap64 ((l0.length : Int) + 1)) - (t196.length : Int))) = j_ := ⟨_, rfl⟩
     replace H : (if 0 ≤ (ji19) then (if t196.length + (ji19 : Int).toNat < 17592186044416 then (if 0 ≤ (wrap64 ((wrap64 ((l0.length : Int) - (l1.length : Int))) + 1)) then (if (wrap64 ((wrap64 ((l0.length : Int) - (l1.length : Int))) + 1) : Int).toNat ≤ 35184372088832 then ((some (List.replicate (wrap64 ((wrap64 ((l0.length : Int) - (l1.length : Int))) + 1) : Int).toNat 0 : List Int)).bind fun y202 => (impl_divide.l0 k (wrap64 (16 - t192)) t193 (t196 ++ List.replicate (ji19 : Int).toNat 0) y202 (wrap64 ((y202.length : Int) - 1)))) else (none)) else (none)) else (none)) else (none)) = some (r1, r2) := by first | (rw [hji19] at H; exact H) | (simp only [hji19] at H ⊢; exact H)
     (try rw [hji19] at A3)
     (try rw [hji19] at A16)
     (try rw [hji19] at A17)
     (try rw [hji19] at A18)
     have hji19w : (IntKind.i64.wrap ((wrap64 ((l0.length : Int) + 1)) - (t196.length : Int))) = ji19 := (i64_w _).trans hji19
     by_cases c20 : 0 ≤ (ji19)
     ·rw [if_pos c20] at H
      have c20b0 := eq_true c20
      have c20b1 : decide (0 ≤ (ji19)) = true := decide_eq_true c20
      clear c20
      by_cases c21 : t196.length + (ji19 : Int).toNat < 17592186044416
      ·rw [if_pos c21] at H
       have LMc21 := Aside0.mk c21
       clear c21
       obtain ⟨y199, hy199⟩ : ∃ y_ : List Int, y_ = (t196 ++ List.replicate (ji19 : Int).toNat 0) := ⟨_, rfl⟩
       replace H : (if 0 ≤ (wrap64 ((wrap64 ((l0.length : Int) - (l1.length : Int))) + 1)) then (if (wrap64 ((wrap64 ((l0.length : Int) - (l1.length : Int))) + 1) : Int).toNat ≤ 35184372088832 then ((some (List.replicate (wrap64 ((wrap64 ((l0.length : Int) - (l1.length : Int))) + 1) : Int).toNat 0 : List Int)).bind fun y202 => (impl_divide.l0 k (wrap64 (16 - t192)) t193 y199 y202 (wrap64 ((y202.length : Int) - 1)))) else (none)) else (none)) = some (r1, r2) := by first | (rw [hy199]; with_reducible exact H) | (have H2_ := (Option.bind_some _ _).symm.trans H; rw [hy199]; with_reducible exact H2_) | (have H2_ := (Option.bind_some _ _).symm.trans H; with_reducible exact H2_) | with_reducible exact H | (rw [hy199]; exact H) | exact H
       have Ny199 := Aside0.mk hy199
       clear hy199
       obtain ⟨ji22, hji22⟩ : ∃ j_ : Int, (wrap64 ((wrap64 ((l0.length : Int) - (l1.length : Int))) + 1)) = j_ := ⟨_, rfl⟩
       replace H : (if 0 ≤ (ji22) then (if (ji22 : Int).toNat ≤ 35184372088832 then ((some (List.replicate (ji22 : Int).toNat 0 : List Int)).bind fun y202 => (impl_divide.l0 k (wrap64 (16 - t192)) t193 y199 y202 (wrap64 ((y202.length : Int) - 1)))) else (none)) else (none)) = some (r1, r2) := by first | (rw [hji22] at H; exact H) | (simp only [hji22] at H ⊢; exact H)
       (try rw [hji22] at A3)
       (try rw [hji22] at A16)
       (try rw [hji22] at A17)
       (try rw [hji22] at A18)
       have hji22w : (IntKind.i64.wrap ((wrap64 ((l0.length : Int) - (l1.length : Int))) + 1)) = ji22 := (i64_w _).trans hji22
       by_cases c23 : 0 ≤ (ji22)
       ·rw [if_pos c23] at H
        have c23b0 := eq_true c23
        have c23b1 : decide (0 ≤ (ji22)) = true := decide_eq_true c23
        clear c23
        by_cases c24 : (ji22 : Int).toNat ≤ 35184372088832
        ·rw [if_pos c24] at H
         have c24b0 := eq_true c24
         have c24b1 : decide ((ji22 : Int).toNat ≤ 35184372088832) = true := decide_eq_true c24
         clear c24
         obtain ⟨y202, hy202⟩ : ∃ y_ : List Int, y_ = (List.replicate (ji22 : Int).toNat 0) := ⟨_, rfl⟩
         replace H : (impl_divide.l0 k (wrap64 (16 - t192)) t193 y199 y202 (wrap64 ((y202.length : Int) - 1))) = some (r1, r2) := by first | (rw [hy202]; with_reducible exact H) | (have H2_ := (Option.bind_some _ _).symm.trans H; rw [hy202]; with_reducible exact H2_) | (have H2_ := (Option.bind_some _ _).symm.trans H; with_reducible exact H2_) | with_reducible exact H | (rw [hy202]; exact H) | exact H
         have Ny202 := Aside0.mk hy202
         clear hy202
         have H' := Aside0.mk H
         clear H
         go_enter Try.func61, Try.ntmps61
         go_wp2_with (first | ((with_reducible refine gate_callee (f := 101) rfl ?_); refine hkGo (N := some 16) Try.func101 #[.slice A0 l0.length c0, .slice A1 l1.length c1] ?_; (with_reducible refine (impl_compare.calls k _ _ l0 _ _ l1 t179 _ ?side1 ?side2 ?side3 ?side4 A3.out).mono ?_); (case side1 => exact hkC (HR0.out)); (case side2 => exact HC0.out); (case side3 => exact hkC (HR1.out)); (case side4 => exact HC1.out); rintro e w' ⟨rfl, ⟨nd, rfl⟩⟩; refine ⟨_, rfl, ?_⟩; have p191 : 0 ≤ ((ji13) : Int) := of_decide_eq_true (by first | (with_reducible assumption) | assumption); have q191 : (ji13) < (l1.length : Int) := of_decide_eq_true (by first | (with_reducible assumption) | assumption); obtain ⟨ad191, e191, hx191_0⟩ := Kd.at_int HR1.out (ji13) p191 q191; cases e191; replace p191 := eq_true p191; replace q191 := eq_true q191) | ((with_reducible refine gate_callee (f := 104) rfl ?_); refine goesL_ (some 41) rfl rfl Try.func104 (by kernel_rfl) rfl #[.int .u64 (IntKind.u64.wrap (rd l1 (ji13)))] rfl (by (try simp only [List.map_toArray, List.map_cons, List.map_nil]); first | done | (simp only [hji13]; rfl) | rfl | (simp only [List.length_drop, List.length_take]; rfl)) ?_; (with_reducible refine (bits_Len.calls (IntKind.u64.wrap (rd l1 (ji13))) t192 _ A16.out).mono ?_); rintro e w' ⟨rfl, ⟨nd, rfl⟩⟩; refine ⟨_, rfl, ?_⟩) | ((with_reducible refine gate_callee (f := 105) rfl ?_); refine hkGo (N := some 45) Try.func105 #[.slice (some ad191) l1.length c1, .int .i64 (wrap64 (16 - t192))] ?_; (with_reducible refine (impl_up.calls k _ _ l1 (wrap64 (16 - t192)) t193 _ ?side1 ?side2 A17.out).mono ?_); (case side1 => exact hkC (HR1.out)); (case side2 => exact HC1.out); rintro e w25 ⟨v194, rfl, ho0, hb⟩; refine ⟨_, rfl, ?_⟩; have n_ := hkA (Aside0.mk (Kd.R_lower ho0 (below_size (hkS HB)))) (hkU HB hb); clear HB; obtain ⟨HO195, HB⟩ := n_; (try clear hb); (try clear hk); (try clear ho0)) | ((with_reducible refine gate_callee (f := 105) rfl ?_); refine hkGo (N := some 48) Try.func105 #[.slice A0 l0.length c0, .int .i64 (wrap64 (16 - t192))] ?_; (with_reducible refine (impl_up.calls k _ _ l0 (wrap64 (16 - t192)) t196 _ ?side1 ?side2 A18.out).mono ?_); (case side1 => exact hkC ((Kd.C_below HR0.out HB.out))); (case side2 => exact HC0.out); rintro e w26 ⟨v197, rfl, ho0, hb⟩; refine ⟨_, rfl, ?_⟩; have n_ := hkA (Aside0.mk (Kd.R_elder' (hkR HO195) (Kd.R_base ho0) hb)) (hkA (Aside0.mk (Kd.R_lower (Kd.R_new' ho0 (Kd.R_lt (hkR HO195))) (below_size (hkS HB)))) (hkU HB hb)); clear HO195 HB; obtain ⟨HO195, HO198, HB⟩ := n_; (try clear hb); (try clear hk); (try clear ho0); obtain ⟨Ao27, co27, eo27⟩ := Kd.R_slice HO198.out; subst eo27) | (at_builtin; refine Kd.R_append_zeros (Kd.int .i64) (w0 := w) w.heap.size rfl (.tmp 49) (.tmp 55) 29 3 3 (.int .i64 0) 8 rfl Try.underlying29 Try.underlying3 info3 rfl (by decide) (by omega) (.slice Ao27 t196.length co27) t196 0 (ji19 : Int) (fun k_ => some k_ ≠ (v194 : Value).ownBlock) rfl rfl rfl ?aF ?aO (of_decide_eq_true (by first | (with_reducible assumption) | assumption)) ?aB ?aS ?aL ?_; (case aB => exact (hkS HB)); (case aF => exact (fun k_ hk => Kd.fresh' (Kd.R_lt (hkR HO195)) k_ hk)); (case aO => exact (by (with_reducible repeat (first | apply Kd.R_alloc | apply Kd.R_drewN | apply Kd.R_drew)); exact Kd.R_mono HO198.out (fun _ hk => hk.2))); (case aS => exact (below_size (hkS HB))); (case aL => have := LMc21.out; omega); intro v200 w28 ho hb hg hat; rw [← Ny199.out] at ho; have n_ := hkA (Aside0.mk (Kd.R_after (ok := (fun _ => True)) (hkR HO195) hg hat)) (hkA (Aside0.mk (hb)) (Aside0.mk (ho))); clear HO195 HB HO198; obtain ⟨HO195, HB, HO201⟩ := n_; clear ho hb hg hat) | ((with_reducible refine gate_dst (N := 63) rfl ?_); refine Kd.R_make (Kd.int .i64) _ 3 rfl (N := 63) rfl 29 _ _ rfl ji22 rfl rfl Try.underlying29 (.int .i64 0) 8 info3 rfl (by decide) (by omega) 0 (ok := fun _ => True) (okp := fun _ => True) rfl (fun _ hk => hk) trivial (of_decide_eq_true (by first | (with_reducible assumption) | assumption)) (Nat.le_trans (Nat.mul_le_mul_right _ (of_decide_eq_true (by first | (with_reducible assumption) | assumption) : ji22.toNat ≤ 35184372088832)) (by omega)) (Below.refl _ _) (Nat.le_refl _) ?_; intro v203 w29 ho30 hb hg_ hnew_; clear hg_ hnew_; (first | rw [← Ny202.out] at ho30 | (simp only [Int.reduceToNat] at ho30; rw [← Ny202.out] at ho30) | (simp only [Int.toNat_zero, List.replicate_zero] at ho30; rw [← Ny202.out] at ho30)); have n_ := hkA (Aside0.mk (Kd.R_elder' (hkR HO195) (Kd.R_base ho30) hb)) (hkA (Aside0.mk (Kd.R_elder' (hkR HO201) (Kd.R_base ho30) hb)) (hkA (Aside0.mk (Kd.R_lower (Kd.R_new' (Kd.R_new' ho30 (Kd.R_lt (hkR HO195))) (Kd.R_lt (hkR HO201))) (below_size (hkS HB)))) (hkU HB hb))); clear HO195 HO201 HB; obtain ⟨HO195, HO201, HO204, HB⟩ := n_; clear hb ho30; obtain ⟨Ao31, co31, eo31⟩ := Kd.R_slice HO204.out; subst eo31))
         go_loopg [12] k (fun kq v12 w' => ∃ (x10_1 : List Int) (x11_1 : List Int) (x12_1 : Int), v12 = .int .i64 x12_1 ∧ Aside0 (impl_divide.l0 kq (wrap64 (16 - t192)) t193 x10_1 x11_1 x12_1 = some (r1, r2)) ∧ Aside0 (kq ≤ k) ∧ Aside0 (Kd.R (Kd.int .i64) 3 w' w.heap.size (fun k_ => some k_ ≠ (v200 : Value).ownBlock ∧ some k_ ≠ ((.slice Ao31 y202.length co31) : Value).ownBlock) v194 t193) ∧ Aside0 (Kd.R (Kd.int .i64) 3 w' w.heap.size (fun k_ => some k_ ≠ (v194 : Value).ownBlock ∧ some k_ ≠ ((.slice Ao31 y202.length co31) : Value).ownBlock) v200 x10_1) ∧ Aside0 (Kd.R (Kd.int .i64) 3 w' w.heap.size (fun k_ => some k_ ≠ (v194 : Value).ownBlock ∧ some k_ ≠ (v200 : Value).ownBlock) (.slice Ao31 y202.length co31) x11_1) ∧ Aside0 (Below w.heap.size w w'))
         case atStart => exact ⟨(y199), (y202), (wrap64 ((y202.length : Int) - 1)), (by first | rfl | (simp; done) | (simp [*]; done)), H', ⟨Nat.le_refl _⟩, ⟨by (with_reducible repeat (first | apply Kd.R_alloc | apply Kd.R_drewN | apply Kd.R_drew)); exact Kd.R_mono HO195.out (fun _ hk => ⟨hk.1.2, hk.2⟩)⟩, ⟨by (with_reducible repeat (first | apply Kd.R_alloc | apply Kd.R_drewN | apply Kd.R_drew)); exact HO201.out⟩, ⟨by (with_reducible repeat (first | apply Kd.R_alloc | apply Kd.R_drewN | apply Kd.R_drew)); exact Kd.R_mono HO204.out (fun _ hk => ⟨hk.1.2, hk.2⟩)⟩, ⟨hkS HB⟩⟩
         case round =>
          clear H'
          try clear c1
          try clear p1
          try clear q1
          try clear hx1
          try clear qi1
          try clear c2
          try clear p2
          try clear c4
          try clear c4b0
          try clear c6
          try clear p6
          try clear c7
          try clear c7b0
          try clear c7b1
          try clear c8
          try clear c8b0
          try clear c8b1
          try clear c10
          try clear c14
          try clear c14b0
          try clear c15
          try clear c15b0
          try clear p18
          try clear q18
          try clear hx18
          try clear qi18
          try clear p19
          try clear q19
          try clear hx19
          try clear c20
          try clear c20b0
          try clear c20b1
          try clear c21
          try clear c23
          try clear c23b0
          try clear c23b1
          try clear c24
          try clear c24b0
          try clear c24b1
          try clear hx183_0
          try clear hx191_0
          try clear p183
          try clear p191
          try clear q183
          try clear q191
          obtain ⟨x10_1, x11_1, x12_1, rfl, HA, HK1, HO_9, HO_10, HO_11, HB⟩ := hrel
          have hl11_1 := (Kd.R_reads' HO_11.out).1
          rw [hl11_1] at HO_11
          (try simp only [hl11_1])
          (try simp only [hl11_1] at HO_9)
          (try simp only [hl11_1] at HO_10)
          cases gk with
          | zero => exact absurd HA.out (by simp [impl_divide.l0])
          | succ k1 =>
           have H := HA.out
           clear HA
           simp only [impl_divide.l0] at H
           by_cases c32 : x12_1 ≥ 0
           ·rw [if_pos c32] at H
            have c32b0 : decide (0 ≤ x12_1) = true := decide_eq_true c32
            clear c32
            replace H := hBi H
            obtain ⟨t214, A330, H⟩ := H
            replace H : ((impl_takeAway.f k1 x10_1 t193 x12_1 t214).bind fun bt215 => (if bt215.1 = true then ((impl_addBack.f k1 bt215.2 t193 x12_1).bind fun t217 => (if 0 ≤ x12_1 then (if x12_1 < (x11_1.length : Int) then (impl_divide.l0 k1 (wrap64 (16 - t192)) t193 t217 (x11_1.set (x12_1 : Int).toNat (wrap64 (t214 - 1))) (wrap64 (x12_1 - 1))) else (none)) else (none))) else (if 0 ≤ x12_1 then (if x12_1 < (x11_1.length : Int) then (impl_divide.l0 k1 (wrap64 (16 - t192)) t193 bt215.2 (x11_1.set (x12_1 : Int).toNat t214) (wrap64 (x12_1 - 1))) else (none)) else (none)))) = some (r1, r2) := H
            have A33 := Aside0.mk A330
            clear A330
            replace H := hBi H
            obtain ⟨⟨t215, t216⟩, A340, H⟩ := H
            replace H : (if t215 = true then ((impl_addBack.f k1 t216 t193 x12_1).bind fun t217 => (if 0 ≤ x12_1 then (if x12_1 < (x11_1.length : Int) then (impl_divide.l0 k1 (wrap64 (16 - t192)) t193 t217 (x11_1.set (x12_1 : Int).toNat (wrap64 (t214 - 1))) (wrap64 (x12_1 - 1))) else (none)) else (none))) else (if 0 ≤ x12_1 then (if x12_1 < (x11_1.length : Int) then (impl_divide.l0 k1 (wrap64 (16 - t192)) t193 t216 (x11_1.set (x12_1 : Int).toNat t214) (wrap64 (x12_1 - 1))) else (none)) else (none))) = some (r1, r2) := H
            have A34 := Aside0.mk A340
            clear A340
            by_cases c35 : t215 = true
            ·subst c35
             have H1 : ((impl_addBack.f k1 t216 t193 x12_1).bind fun t217 => (if 0 ≤ x12_1 then (if x12_1 < (x11_1.length : Int) then (impl_divide.l0 k1 (wrap64 (16 - t192)) t193 t217 (x11_1.set (x12_1 : Int).toNat (wrap64 (t214 - 1))) (wrap64 (x12_1 - 1))) else (none)) else (none))) = some (r1, r2) := by rw [if_pos rfl] at H; exact H
             clear H
             have H := H1
             clear H1
             replace H := hBi H
             obtain ⟨t217, A360, H⟩ := H
             replace H : (if 0 ≤ x12_1 then (if x12_1 < (x11_1.length : Int) then (impl_divide.l0 k1 (wrap64 (16 - t192)) t193 t217 (x11_1.set (x12_1 : Int).toNat (wrap64 (t214 - 1))) (wrap64 (x12_1 - 1))) else (none)) else (none)) = some (r1, r2) := H
             have A36 := Aside0.mk A360
             clear A360
             by_cases c37 : 0 ≤ x12_1
             ·rw [if_pos c37] at H
              have c37b0 : decide (0 ≤ x12_1) = true := decide_eq_true c37
              clear c37
              by_cases c38 : x12_1 < (x11_1.length : Int)
              ·rw [if_pos c38] at H
               have c38b0 : decide (x12_1 < (x11_1.length : Int)) = true := decide_eq_true c38
               clear c38
               obtain ⟨y218, hy218⟩ : ∃ y_ : List Int, y_ = (x11_1.set (x12_1 : Int).toNat (wrap64 (t214 - 1))) := ⟨_, rfl⟩
               replace H : (impl_divide.l0 k1 (wrap64 (16 - t192)) t193 t217 y218 (wrap64 (x12_1 - 1))) = some (r1, r2) := by first | (rw [hy218]; with_reducible exact H) | (have H2_ := (Option.bind_some _ _).symm.trans H; rw [hy218]; with_reducible exact H2_) | (have H2_ := (Option.bind_some _ _).symm.trans H; with_reducible exact H2_) | with_reducible exact H | (rw [hy218]; exact H) | exact H
               have Ny218 := Aside0.mk hy218
               clear hy218
               have H' := Aside0.mk H
               clear H
               obtain ⟨Ao40, co40, eo40⟩ := Kd.R_slice HO_10.out
               subst eo40
               obtain ⟨Ao41, co41, eo41⟩ := Kd.R_slice HO_9.out
               subst eo41
               go_wp2_with (first | ((with_reducible refine gate_callee (f := 106) rfl ?_); refine hkGo (N := some 74) Try.func106 #[.slice Ao40 x10_1.length co40, .slice Ao41 t193.length co41, .int .i64 x12_1] ?_; (with_reducible refine (impl_digitOf.calls k1 _ _ x10_1 _ _ t193 x12_1 t214 _ ?side1 ?side2 ?side3 ?side4 A33.out).mono ?_); (case side1 => exact hkC ((Kd.R_reads' HO_10.out).2.2)); (case side2 => exact (Kd.R_reads' HO_10.out).2.1); (case side3 => exact hkC ((Kd.R_reads' HO_9.out).2.2)); (case side4 => exact (Kd.R_reads' HO_9.out).2.1); rintro e w' ⟨rfl, ⟨nd, rfl⟩⟩; refine ⟨_, rfl, ?_⟩; (try (rw [drewN_self wr]; generalize hq_ : World.drewN wr _ = wr; have n0_ : Aside0 (Kd.R (Kd.int .i64) 3 wr w.heap.size (fun k_ => some k_ ≠ (.slice Ao41 t193.length co41 : Value).ownBlock ∧ some k_ ≠ (.slice Ao31 x11_1.length co31 : Value).ownBlock) (.slice Ao40 x10_1.length co40) x10_1) := ⟨by rw [← hq_]; exact (hkR HO_10)⟩; have n1_ : Aside0 (Kd.R (Kd.int .i64) 3 wr w.heap.size (fun k_ => some k_ ≠ (.slice Ao41 t193.length co41 : Value).ownBlock ∧ some k_ ≠ (.slice Ao40 x10_1.length co40 : Value).ownBlock) (.slice Ao31 x11_1.length co31) x11_1) := ⟨by rw [← hq_]; exact (hkR HO_11)⟩; have n2_ : Aside0 (Kd.R (Kd.int .i64) 3 wr w.heap.size (fun k_ => some k_ ≠ (.slice Ao40 x10_1.length co40 : Value).ownBlock ∧ some k_ ≠ (.slice Ao31 x11_1.length co31 : Value).ownBlock) (.slice Ao41 t193.length co41) t193) := ⟨by rw [← hq_]; exact (hkR HO_9)⟩; have n3_ : Aside0 (Below w.heap.size w wr) := ⟨by rw [← hq_]; exact (hkS HB)⟩; clear HO_10 HO_11 HO_9 HB hq_; have HO_10 := n0_; have HO_11 := n1_; have HO_9 := n2_; have HB := n3_; clear n0_ n1_ n2_ n3_))) | ((with_reducible refine gate_callee (f := 107) rfl ?_); refine hkGo (N := some 79) Try.func107 #[.slice Ao40 x10_1.length co40, .slice Ao41 t193.length co41, .int .i64 x12_1, .int .i64 t214] ?_; (with_reducible refine (impl_takeAway.calls k1 (fun k_ => some k_ = (.slice Ao40 x10_1.length co40 : Value).ownBlock) (.slice Ao40 x10_1.length co40) x10_1 _ _ t193 x12_1 t214 true t216 w _ ?side1 ?side2 ?side3 ?side4 A34.out).mono ?_); (case side1 => exact hkS HB); (case side2 => exact Kd.R_tight rfl HO_10.out); (case side3 => exact Kd.C_kept_own (HO_9.out) (fun k_ hk_ hs_ => by first | exact (hk_.1) hs_ | exact hkP hk_ hs_)); (case side4 => exact (Kd.R_reads' HO_9.out).2.1); rintro e w42 ⟨rfl, hy0, hb, hkp⟩; refine ⟨_, rfl, ?_⟩; have n_ := hkA (Aside0.mk (Kd.R_mono (ok' := fun k_ => some k_ ≠ (.slice Ao40 x10_1.length co40 : Value).ownBlock ∧ some k_ ≠ (.slice Ao31 x11_1.length co31 : Value).ownBlock) (Kd.R_keptB (HO_9.out) hkp (fun k_ hk_ hs_ => by first | exact (hk_.1) hs_ | exact hkP hk_ hs_)) (fun k_ hk_ => by first | exact ⟨hk_.1.1, hk_.1.2⟩ | exact hkQ hk_))) (hkA (Aside0.mk (Kd.R_reok rfl hy0 (fun k_ e_ => HO_10.out.1 k_ e_))) (hkA (Aside0.mk (Kd.R_mono (ok' := fun k_ => some k_ ≠ (.slice Ao41 t193.length co41 : Value).ownBlock ∧ some k_ ≠ (.slice Ao40 x10_1.length co40 : Value).ownBlock) (Kd.R_keptB (HO_11.out) hkp (fun k_ hk_ hs_ => by first | exact (hk_.2) hs_ | exact hkP hk_ hs_)) (fun k_ hk_ => by first | exact ⟨hk_.1.1, hk_.1.2⟩ | exact hkQ hk_))) (Aside0.mk (hb)))); clear HO_9 HO_10 HO_11 HB; obtain ⟨HO_9, HO_10, HO_11, HB⟩ := n_; (try clear hb); (try clear hkp); (try clear hy0)) | ((with_reducible refine gate_callee (f := 108) rfl ?_); refine hkGo (N := some 85) Try.func108 #[.slice Ao40 x10_1.length co40, .slice Ao41 t193.length co41, .int .i64 x12_1] ?_; (with_reducible refine (impl_addBack.calls k1 (fun k_ => some k_ = (.slice Ao40 x10_1.length co40 : Value).ownBlock) (.slice Ao40 x10_1.length co40) t216 _ _ t193 x12_1 t217 w _ ?side1 ?side2 ?side3 ?side4 A36.out).mono ?_); (case side1 => exact hkS HB); (case side2 => exact Kd.R_tight rfl HO_10.out); (case side3 => exact Kd.C_kept_own (HO_9.out) (fun k_ hk_ hs_ => by first | exact (hk_.1) hs_ | exact hkP hk_ hs_)); (case side4 => exact (Kd.R_reads' HO_9.out).2.1); rintro e w43 ⟨rfl, hy0, hb, hkp⟩; refine ⟨_, rfl, ?_⟩; have n_ := hkA (Aside0.mk (Kd.R_mono (ok' := fun k_ => some k_ ≠ (.slice Ao40 x10_1.length co40 : Value).ownBlock ∧ some k_ ≠ (.slice Ao31 x11_1.length co31 : Value).ownBlock) (Kd.R_keptB (HO_9.out) hkp (fun k_ hk_ hs_ => by first | exact (hk_.1) hs_ | exact hkP hk_ hs_)) (fun k_ hk_ => by first | exact ⟨hk_.1.1, hk_.1.2⟩ | exact hkQ hk_))) (hkA (Aside0.mk (Kd.R_reok rfl hy0 (fun k_ e_ => HO_10.out.1 k_ e_))) (hkA (Aside0.mk (Kd.R_mono (ok' := fun k_ => some k_ ≠ (.slice Ao41 t193.length co41 : Value).ownBlock ∧ some k_ ≠ (.slice Ao40 x10_1.length co40 : Value).ownBlock) (Kd.R_keptB (HO_11.out) hkp (fun k_ hk_ hs_ => by first | exact (hk_.2) hs_ | exact hkP hk_ hs_)) (fun k_ hk_ => by first | exact ⟨hk_.1.1, hk_.1.2⟩ | exact hkQ hk_))) (Aside0.mk (hb)))); clear HO_9 HO_10 HO_11 HB; obtain ⟨HO_9, HO_10, HO_11, HB⟩ := n_; (try clear hb); (try clear hkp); (try clear hy0); have p39 : 0 ≤ (x12_1 : Int) := of_decide_eq_true (by first | (with_reducible assumption) | assumption); have q39 : (x12_1 : Int) < ((x11_1.length : Int) : Int) := of_decide_eq_true (by first | (with_reducible assumption) | assumption); obtain ⟨go39, co39, eo39, gb39, gl39, cl39, HG39⟩ := Kd.R_form HO_11.out (by omega); (first | cases eo39 | (injection eo39 with ea_ en_ ec_; (first | subst ea_ | (injection ea_ with ea_; subst ea_)); subst ec_; clear en_)); have GB39 := Aside0.mk gb39; have GG39 := Aside0.mk HG39; clear gb39 gl39 HG39; obtain ⟨hx39_0, hf39_0⟩ := Kd.R_celln 0 HO_11.out (x12_1 : Int) p39 q39; replace p39 := eq_true p39; replace q39 := eq_true q39; obtain ⟨hy44_, hz44_⟩ := Kd.R_celln 0 HO_11.out (x12_1 : Int) (of_decide_eq_true (by first | (with_reducible assumption) | assumption)) (of_decide_eq_true (by first | (with_reducible assumption) | assumption)); have HP44 := Kd.R_putg HO_11.out (x12_1 : Int) (wrap64 (t214 - 1))) | ((with_reducible refine gate_store (t := 3) (p := 89) rfl ?_); refine store_event (t := 3) (p := 89) (v := ?vo_w45) (w1 := (w43.setCell ⟨go39, (x12_1 : Int).toNat, none⟩ (.int .i64 (wrap64 (t214 - 1))))) ?hg ?ho ?hn ?hr ?_; (case ho => rfl); (case hg => rfl); (case hn => rfl); (case hr => first | (go_simp; done) | (go_simp; rfl)); intro w45 hw; have hg : w43.grownBy w45 (some go39) := (by rw [hw]; exact HP44.2); have hp_ : Kd.R (Kd.int .i64) 3 w45 w.heap.size (fun k_ => some k_ ≠ (.slice Ao41 t193.length co41 : Value).ownBlock ∧ some k_ ≠ (.slice Ao40 x10_1.length co40 : Value).ownBlock) (.slice (some ⟨go39, 0, none⟩) x11_1.length co31) y218 := (by rw [hw, Ny218.out]; exact HP44.1); clear HP44; have n_ := hkA (Aside0.mk (Kd.R_after (v := (.slice (some ⟨go39, 0, none⟩) x11_1.length co31)) (v1 := (.slice (some ⟨go39, 0, none⟩) x11_1.length co31)) (ok := (fun k_ => some k_ ≠ (.slice Ao40 x10_1.length co40 : Value).ownBlock)) (hkR HO_9) hg (.inl rfl))) (hkA (Aside0.mk (Kd.R_after (v := (.slice (some ⟨go39, 0, none⟩) x11_1.length co31)) (v1 := (.slice (some ⟨go39, 0, none⟩) x11_1.length co31)) (ok := (fun k_ => some k_ ≠ (.slice Ao41 t193.length co41 : Value).ownBlock)) (hkR HO_10) hg (.inl rfl))) (hkA (Aside0.mk (hp_)) (Aside0.mk ((by rw [hw]; exact below_set (HB.out) GB39.out : Below w.heap.size w w45))))); clear HO_9 HO_10 HO_11 HB; obtain ⟨HO_9, HO_10, HO_11, HB⟩ := n_; clear hg hw hp_))
               (try simp only [← hl11_1])
               go_roundg k1
               case measure => have := HK1.out; omega
               case rel => exact ⟨(t217), (y218), (wrap64 (x12_1 - 1)), (by first | rfl | (simp; done) | (simp [*]; done)), H', ⟨by have := HK1.out; omega⟩, ⟨by (try simp only [hl11_1]); (with_reducible repeat (first | apply Kd.R_alloc | apply Kd.R_drewN | apply Kd.R_drew)); exact HO_9.out⟩, ⟨by (try simp only [hl11_1]); (with_reducible repeat (first | apply Kd.R_alloc | apply Kd.R_drewN | apply Kd.R_drew)); exact HO_10.out⟩, ⟨by (try simp only [hl11_1]); (with_reducible repeat (first | apply Kd.R_alloc | apply Kd.R_drewN | apply Kd.R_drew)); exact HO_11.out⟩, ⟨hkS HB⟩⟩
              ·rw [if_neg c38] at H
               exact absurd H (by simp)
             ·rw [if_neg c37] at H
              exact absurd H (by simp)
            ·replace c35 := Bool.eq_false_iff.mpr c35
             subst c35
             have H1 : (if 0 ≤ x12_1 then (if x12_1 < (x11_1.length : Int) then (impl_divide.l0 k1 (wrap64 (16 - t192)) t193 t216 (x11_1.set (x12_1 : Int).toNat t214) (wrap64 (x12_1 - 1))) else (none)) else (none)) = some (r1, r2) := by rw [if_neg (show ¬ (false = true) by decide)] at H; exact H
             clear H
             have H := H1
             clear H1
             by_cases c46 : 0 ≤ x12_1
             ·rw [if_pos c46] at H
              have c46b0 : decide (0 ≤ x12_1) = true := decide_eq_true c46
              clear c46
              by_cases c47 : x12_1 < (x11_1.length : Int)
              ·rw [if_pos c47] at H
               have c47b0 : decide (x12_1 < (x11_1.length : Int)) = true := decide_eq_true c47
               clear c47
               obtain ⟨y219, hy219⟩ : ∃ y_ : List Int, y_ = (x11_1.set (x12_1 : Int).toNat t214) := ⟨_, rfl⟩
               replace H : (impl_divide.l0 k1 (wrap64 (16 - t192)) t193 t216 y219 (wrap64 (x12_1 - 1))) = some (r1, r2) := by first | (rw [hy219]; with_reducible exact H) | (have H2_ := (Option.bind_some _ _).symm.trans H; rw [hy219]; with_reducible exact H2_) | (have H2_ := (Option.bind_some _ _).symm.trans H; with_reducible exact H2_) | with_reducible exact H | (rw [hy219]; exact H) | exact H
               have Ny219 := Aside0.mk hy219
               clear hy219
               have H' := Aside0.mk H
               clear H
               obtain ⟨Ao49, co49, eo49⟩ := Kd.R_slice HO_10.out
               subst eo49
               obtain ⟨Ao50, co50, eo50⟩ := Kd.R_slice HO_9.out
               subst eo50
               go_wp2_with (first | ((with_reducible refine gate_callee (f := 106) rfl ?_); refine hkGo (N := some 74) Try.func106 #[.slice Ao49 x10_1.length co49, .slice Ao50 t193.length co50, .int .i64 x12_1] ?_; (with_reducible refine (impl_digitOf.calls k1 _ _ x10_1 _ _ t193 x12_1 t214 _ ?side1 ?side2 ?side3 ?side4 A33.out).mono ?_); (case side1 => exact hkC ((Kd.R_reads' HO_10.out).2.2)); (case side2 => exact (Kd.R_reads' HO_10.out).2.1); (case side3 => exact hkC ((Kd.R_reads' HO_9.out).2.2)); (case side4 => exact (Kd.R_reads' HO_9.out).2.1); rintro e w' ⟨rfl, ⟨nd, rfl⟩⟩; refine ⟨_, rfl, ?_⟩; (try (rw [drewN_self wr]; generalize hq_ : World.drewN wr _ = wr; have n0_ : Aside0 (Kd.R (Kd.int .i64) 3 wr w.heap.size (fun k_ => some k_ ≠ (.slice Ao50 t193.length co50 : Value).ownBlock ∧ some k_ ≠ (.slice Ao31 x11_1.length co31 : Value).ownBlock) (.slice Ao49 x10_1.length co49) x10_1) := ⟨by rw [← hq_]; exact (hkR HO_10)⟩; have n1_ : Aside0 (Kd.R (Kd.int .i64) 3 wr w.heap.size (fun k_ => some k_ ≠ (.slice Ao50 t193.length co50 : Value).ownBlock ∧ some k_ ≠ (.slice Ao49 x10_1.length co49 : Value).ownBlock) (.slice Ao31 x11_1.length co31) x11_1) := ⟨by rw [← hq_]; exact (hkR HO_11)⟩; have n2_ : Aside0 (Kd.R (Kd.int .i64) 3 wr w.heap.size (fun k_ => some k_ ≠ (.slice Ao49 x10_1.length co49 : Value).ownBlock ∧ some k_ ≠ (.slice Ao31 x11_1.length co31 : Value).ownBlock) (.slice Ao50 t193.length co50) t193) := ⟨by rw [← hq_]; exact (hkR HO_9)⟩; have n3_ : Aside0 (Below w.heap.size w wr) := ⟨by rw [← hq_]; exact (hkS HB)⟩; clear HO_10 HO_11 HO_9 HB hq_; have HO_10 := n0_; have HO_11 := n1_; have HO_9 := n2_; have HB := n3_; clear n0_ n1_ n2_ n3_))) | ((with_reducible refine gate_callee (f := 107) rfl ?_); refine hkGo (N := some 79) Try.func107 #[.slice Ao49 x10_1.length co49, .slice Ao50 t193.length co50, .int .i64 x12_1, .int .i64 t214] ?_; (with_reducible refine (impl_takeAway.calls k1 (fun k_ => some k_ = (.slice Ao49 x10_1.length co49 : Value).ownBlock) (.slice Ao49 x10_1.length co49) x10_1 _ _ t193 x12_1 t214 false t216 w _ ?side1 ?side2 ?side3 ?side4 A34.out).mono ?_); (case side1 => exact hkS HB); (case side2 => exact Kd.R_tight rfl HO_10.out); (case side3 => exact Kd.C_kept_own (HO_9.out) (fun k_ hk_ hs_ => by first | exact (hk_.1) hs_ | exact hkP hk_ hs_)); (case side4 => exact (Kd.R_reads' HO_9.out).2.1); rintro e w51 ⟨rfl, hy0, hb, hkp⟩; refine ⟨_, rfl, ?_⟩; have n_ := hkA (Aside0.mk (Kd.R_mono (ok' := fun k_ => some k_ ≠ (.slice Ao49 x10_1.length co49 : Value).ownBlock ∧ some k_ ≠ (.slice Ao31 x11_1.length co31 : Value).ownBlock) (Kd.R_keptB (HO_9.out) hkp (fun k_ hk_ hs_ => by first | exact (hk_.1) hs_ | exact hkP hk_ hs_)) (fun k_ hk_ => by first | exact ⟨hk_.1.1, hk_.1.2⟩ | exact hkQ hk_))) (hkA (Aside0.mk (Kd.R_reok rfl hy0 (fun k_ e_ => HO_10.out.1 k_ e_))) (hkA (Aside0.mk (Kd.R_mono (ok' := fun k_ => some k_ ≠ (.slice Ao50 t193.length co50 : Value).ownBlock ∧ some k_ ≠ (.slice Ao49 x10_1.length co49 : Value).ownBlock) (Kd.R_keptB (HO_11.out) hkp (fun k_ hk_ hs_ => by first | exact (hk_.2) hs_ | exact hkP hk_ hs_)) (fun k_ hk_ => by first | exact ⟨hk_.1.1, hk_.1.2⟩ | exact hkQ hk_))) (Aside0.mk (hb)))); clear HO_9 HO_10 HO_11 HB; obtain ⟨HO_9, HO_10, HO_11, HB⟩ := n_; (try clear hb); (try clear hkp); (try clear hy0); have p48 : 0 ≤ (x12_1 : Int) := of_decide_eq_true (by first | (with_reducible assumption) | assumption); have q48 : (x12_1 : Int) < ((x11_1.length : Int) : Int) := of_decide_eq_true (by first | (with_reducible assumption) | assumption); obtain ⟨go48, co48, eo48, gb48, gl48, cl48, HG48⟩ := Kd.R_form HO_11.out (by omega); (first | cases eo48 | (injection eo48 with ea_ en_ ec_; (first | subst ea_ | (injection ea_ with ea_; subst ea_)); subst ec_; clear en_)); have GB48 := Aside0.mk gb48; have GG48 := Aside0.mk HG48; clear gb48 gl48 HG48; obtain ⟨hx48_0, hf48_0⟩ := Kd.R_celln 0 HO_11.out (x12_1 : Int) p48 q48; replace p48 := eq_true p48; replace q48 := eq_true q48; obtain ⟨hy52_, hz52_⟩ := Kd.R_celln 0 HO_11.out (x12_1 : Int) (of_decide_eq_true (by first | (with_reducible assumption) | assumption)) (of_decide_eq_true (by first | (with_reducible assumption) | assumption)); have HP52 := Kd.R_putg HO_11.out (x12_1 : Int) t214) | ((with_reducible refine gate_store (t := 3) (p := 89) rfl ?_); refine store_event (t := 3) (p := 89) (v := ?vo_w53) (w1 := (w51.setCell ⟨go48, (x12_1 : Int).toNat, none⟩ (.int .i64 t214))) ?hg ?ho ?hn ?hr ?_; (case ho => rfl); (case hg => rfl); (case hn => rfl); (case hr => first | (go_simp; done) | (go_simp; rfl)); intro w53 hw; have hg : w51.grownBy w53 (some go48) := (by rw [hw]; exact HP52.2); have hp_ : Kd.R (Kd.int .i64) 3 w53 w.heap.size (fun k_ => some k_ ≠ (.slice Ao50 t193.length co50 : Value).ownBlock ∧ some k_ ≠ (.slice Ao49 x10_1.length co49 : Value).ownBlock) (.slice (some ⟨go48, 0, none⟩) x11_1.length co31) y219 := (by rw [hw, Ny219.out]; exact HP52.1); clear HP52; have n_ := hkA (Aside0.mk (Kd.R_after (v := (.slice (some ⟨go48, 0, none⟩) x11_1.length co31)) (v1 := (.slice (some ⟨go48, 0, none⟩) x11_1.length co31)) (ok := (fun k_ => some k_ ≠ (.slice Ao49 x10_1.length co49 : Value).ownBlock)) (hkR HO_9) hg (.inl rfl))) (hkA (Aside0.mk (Kd.R_after (v := (.slice (some ⟨go48, 0, none⟩) x11_1.length co31)) (v1 := (.slice (some ⟨go48, 0, none⟩) x11_1.length co31)) (ok := (fun k_ => some k_ ≠ (.slice Ao50 t193.length co50 : Value).ownBlock)) (hkR HO_10) hg (.inl rfl))) (hkA (Aside0.mk (hp_)) (Aside0.mk ((by rw [hw]; exact below_set (HB.out) GB48.out : Below w.heap.size w w53))))); clear HO_9 HO_10 HO_11 HB; obtain ⟨HO_9, HO_10, HO_11, HB⟩ := n_; clear hg hw hp_))
               (try simp only [← hl11_1])
               go_roundg k1
               case measure => have := HK1.out; omega
               case rel => exact ⟨(t216), (y219), (wrap64 (x12_1 - 1)), (by first | rfl | (simp; done) | (simp [*]; done)), H', ⟨by have := HK1.out; omega⟩, ⟨by (try simp only [hl11_1]); (with_reducible repeat (first | apply Kd.R_alloc | apply Kd.R_drewN | apply Kd.R_drew)); exact HO_9.out⟩, ⟨by (try simp only [hl11_1]); (with_reducible repeat (first | apply Kd.R_alloc | apply Kd.R_drewN | apply Kd.R_drew)); exact HO_10.out⟩, ⟨by (try simp only [hl11_1]); (with_reducible repeat (first | apply Kd.R_alloc | apply Kd.R_drewN | apply Kd.R_drew)); exact HO_11.out⟩, ⟨hkS HB⟩⟩
              ·rw [if_neg c47] at H
               exact absurd H (by simp)
             ·rw [if_neg c46] at H
              exact absurd H (by simp)
           ·rw [if_neg c32] at H
            have c32b0 : decide (0 ≤ x12_1) = false := decide_eq_false c32
            clear c32
            replace H := hBi H
            obtain ⟨t205, A540, H⟩ := H
            replace H : ((impl_trim.f k1 x10_1).bind fun t208 => ((impl_down.f k1 t208 (wrap64 (16 - t192))).bind fun t211 => (some (t205, t211)))) = some (r1, r2) := H
            have A54 := Aside0.mk A540
            clear A540
            replace H := hBi H
            obtain ⟨t208, A550, H⟩ := H
            replace H : ((impl_down.f k1 t208 (wrap64 (16 - t192))).bind fun t211 => (some (t205, t211))) = some (r1, r2) := H
            have A55 := Aside0.mk A550
            clear A550
            replace H := hBi H
            obtain ⟨t211, A560, H⟩ := H
            replace H : (some (t205, t211)) = some (r1, r2) := H
            have A56 := Aside0.mk A560
            clear A560
            simp only [Option.some.injEq, Prod.mk.injEq] at H
            obtain ⟨rfl, rfl⟩ := H
            go_wp2_with (first | ((with_reducible refine gate_callee (f := 109) rfl ?_); refine hkGo (N := some 91) Try.func109 #[.slice Ao31 x11_1.length co31] ?_; (with_reducible refine (impl_trim.calls k1 (fun k_ => some k_ = (.slice Ao31 x11_1.length co31 : Value).ownBlock) (.slice Ao31 x11_1.length co31) x11_1 t205 w _ ?side1 ?side2 A54.out).mono ?_); (case side1 => exact hkS HB); (case side2 => exact Kd.R_tight rfl HO_11.out); rintro e w57 ⟨v206, rfl, ho0, hb, hkp⟩; refine ⟨_, rfl, ?_⟩; have n_ := hkA (Aside0.mk (Kd.R_mono (ok' := fun k_ => some k_ ≠ (v200 : Value).ownBlock ∧ some k_ ≠ (v206 : Value).ownBlock) (Kd.R_keptB (HO_9.out) hkp (fun k_ hk_ hs_ => by first | exact (hk_.2) hs_ | exact hkP hk_ hs_)) (fun k_ hk_ => ⟨hk_.1.1, fun e_ => Or.elim (ho0.1 k_ e_.symm) (fun hs_ => hk_.2.1 hs_) (fun hn_ => Nat.not_le.2 hk_.2.2 hn_)⟩))) (hkA (Aside0.mk (Kd.R_mono (ok' := fun k_ => some k_ ≠ (v194 : Value).ownBlock ∧ some k_ ≠ (v206 : Value).ownBlock) (Kd.R_keptB (HO_10.out) hkp (fun k_ hk_ hs_ => by first | exact (hk_.2) hs_ | exact hkP hk_ hs_)) (fun k_ hk_ => ⟨hk_.1.1, fun e_ => Or.elim (ho0.1 k_ e_.symm) (fun hs_ => hk_.2.1 hs_) (fun hn_ => Nat.not_le.2 hk_.2.2 hn_)⟩))) (hkA (Aside0.mk (Kd.R_mono (ok' := fun k_ => some k_ ≠ (v194 : Value).ownBlock ∧ some k_ ≠ (v200 : Value).ownBlock) ho0 (fun k_ hk_ => ⟨Or.elim hk_ (fun hs_ => fun e_ => (((HO_9.out).1 k_ e_.symm).2) hs_) (fun hn_ => (Kd.fresh' (Kd.R_lt (hkR HO_9)) k_ hn_)), Or.elim hk_ (fun hs_ => fun e_ => (((HO_10.out).1 k_ e_.symm).2) hs_) (fun hn_ => (Kd.fresh' (Kd.R_lt (hkR HO_10)) k_ hn_))⟩))) (Aside0.mk (hb)))); clear HO_9 HO_10 HB HO_11; obtain ⟨HO_9, HO_10, HO207, HB⟩ := n_; (try clear hb); (try clear hkp); (try clear ho0); obtain ⟨Ao58, co58, eo58⟩ := Kd.R_slice HO_10.out; subst eo58) | ((with_reducible refine gate_callee (f := 109) rfl ?_); refine hkGo (N := some 93) Try.func109 #[.slice Ao58 x10_1.length co58] ?_; (with_reducible refine (impl_trim.calls k1 (fun k_ => some k_ = (.slice Ao58 x10_1.length co58 : Value).ownBlock) (.slice Ao58 x10_1.length co58) x10_1 t208 w _ ?side1 ?side2 A55.out).mono ?_); (case side1 => exact hkS HB); (case side2 => exact Kd.R_tight rfl HO_10.out); rintro e w59 ⟨v209, rfl, ho0, hb, hkp⟩; refine ⟨_, rfl, ?_⟩; have n_ := hkA (Aside0.mk (Kd.R_mono (ok' := fun k_ => some k_ ≠ (v206 : Value).ownBlock ∧ some k_ ≠ (v209 : Value).ownBlock) (Kd.R_keptB (HO_9.out) hkp (fun k_ hk_ hs_ => by first | exact (hk_.1) hs_ | exact hkP hk_ hs_)) (fun k_ hk_ => ⟨hk_.1.2, fun e_ => Or.elim (ho0.1 k_ e_.symm) (fun hs_ => hk_.2.1 hs_) (fun hn_ => Nat.not_le.2 hk_.2.2 hn_)⟩))) (hkA (Aside0.mk (Kd.R_mono (ok' := fun k_ => some k_ ≠ (v194 : Value).ownBlock ∧ some k_ ≠ (v209 : Value).ownBlock) (Kd.R_keptB (HO207.out) hkp (fun k_ hk_ hs_ => by first | exact (hk_.2) hs_ | exact hkP hk_ hs_)) (fun k_ hk_ => ⟨hk_.1.1, fun e_ => Or.elim (ho0.1 k_ e_.symm) (fun hs_ => hk_.2.1 hs_) (fun hn_ => Nat.not_le.2 hk_.2.2 hn_)⟩))) (hkA (Aside0.mk (Kd.R_mono (ok' := fun k_ => some k_ ≠ (v194 : Value).ownBlock ∧ some k_ ≠ (v206 : Value).ownBlock) ho0 (fun k_ hk_ => ⟨Or.elim hk_ (fun hs_ => fun e_ => (((HO_9.out).1 k_ e_.symm).1) hs_) (fun hn_ => (Kd.fresh' (Kd.R_lt (hkR HO_9)) k_ hn_)), Or.elim hk_ (fun hs_ => fun e_ => (((HO207.out).1 k_ e_.symm).2) hs_) (fun hn_ => (Kd.fresh' (Kd.R_lt (hkR HO207)) k_ hn_))⟩))) (Aside0.mk (hb)))); clear HO_9 HO207 HB HO_10; obtain ⟨HO_9, HO207, HO210, HB⟩ := n_; (try clear hb); (try clear hkp); (try clear ho0); obtain ⟨Ao60, co60, eo60⟩ := Kd.R_slice HO210.out; subst eo60) | ((with_reducible refine gate_callee (f := 110) rfl ?_); refine hkGo (N := some 95) Try.func110 #[.slice Ao60 t208.length co60, .int .i64 (wrap64 (16 - t192))] ?_; (with_reducible refine (impl_down.calls k1 _ _ t208 (wrap64 (16 - t192)) t211 _ ?side1 ?side2 A56.out).mono ?_); (case side1 => exact hkC ((Kd.R_reads' HO210.out).2.2)); (case side2 => exact (Kd.R_reads' HO210.out).2.1); rintro e w61 ⟨v212, rfl, ho0, hb⟩; refine ⟨_, rfl, ?_⟩; have n_ := hkA (Aside0.mk (Kd.R_elder' (hkR HO_9) (Kd.R_base ho0) hb)) (hkA (Aside0.mk (Kd.R_elder' (hkR HO207) (Kd.R_base ho0) hb)) (hkA (Aside0.mk (Kd.R_elder' (hkR HO210) (Kd.R_base ho0) hb)) (hkA (Aside0.mk (Kd.R_lower (Kd.R_new' (Kd.R_new' (Kd.R_new' ho0 (Kd.R_lt (hkR HO_9))) (Kd.R_lt (hkR HO207))) (Kd.R_lt (hkR HO210))) (below_size (hkS HB)))) (hkU HB hb)))); clear HO_9 HO207 HO210 HB; obtain ⟨HO_9, HO207, HO210, HO213, HB⟩ := n_; (try clear hb); (try clear ho0)))
            go_ret2
            exact ⟨_, _, by first | rfl | (simp [errW_none, errW_some] <;> rfl) | (simp only [← hji13, ← hji19, ← hji22]; first | rfl | (simp [errW_none, errW_some] <;> rfl)) | (simp [*, errW_none, errW_some] <;> rfl), by (with_reducible repeat (first | apply Kd.R_alloc | apply Kd.R_drewN | apply Kd.R_drew)); exact Kd.R_mono HO207.out (fun _ hk => hk.2), by (with_reducible repeat (first | apply Kd.R_alloc | apply Kd.R_drewN | apply Kd.R_drew)); exact Kd.R_mono HO213.out (fun _ hk => hk.1.2), hkS HB⟩
        ·rw [if_neg c24] at H
         exact absurd H (by simp)
       ·rw [if_neg c23] at H
        exact absurd H (by simp)
      ·rw [if_neg c21] at H
       exact absurd H (by simp)
     ·rw [if_neg c20] at H
      exact absurd H (by simp)
    ·rw [if_neg c15] at H
     exact absurd H (by simp)
   ·rw [if_neg c14] at H
    exact absurd H (by simp)

end Go.Proofs.Ytgjpahofopoflaa.PFnExactNatDiv
