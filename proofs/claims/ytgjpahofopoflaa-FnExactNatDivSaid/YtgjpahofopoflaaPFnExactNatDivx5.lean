-- Written by our own driver (wip/hand/hprint.py) over the seat's translation.
import Derived.Test.YtgjpahofopoflaaPFnExactNatDivx0
import Derived.Test.YtgjpahofopoflaaPFnExactNatDivx3
namespace Go.Proofs.Ytgjpahofopoflaa.PFnExactNatDiv
open Go.RowKit Go.Proofs.YtgjpahofopoflaaW.PrintWords Go.Proofs.YtgjpahofopoflaaW.PrintLast Go.Proofs.YtgjpahofopoflaaW.PrintMore
attribute [local go_sem] max2_int min2_int max_two min_two max_three min_three max_four min_four   -- for this text's walks alone
set_option linter.unusedVariables false
set_option linter.unusedSimpArgs false

/-! ### impl_up: function 105 -/
def impl_up.l0 : Nat → Int → List Int → Int → List Int → Int → Int → Option (List Int)
 | 0, _, _, _, _, _, _ => none
 | k + 1, x1, x5, x6, x21, x22, x23 => if x23 < x22 then (if 0 ≤ x23 then (if x23 < (x21.length : Int) then (if 0 ≤ (Int.tmod x1 16) then (if x5.length < 17592186044416 then (impl_up.l0 k x1 (x5 ++ [Int.tmod (wrap64 (x6 + (shl .i64 (rd x21 x23) (Int.tmod x1 16)))) 65536]) (wrap64 (Int.tdiv (wrap64 (x6 + (shl .i64 (rd x21 x23) (Int.tmod x1 16)))) 65536)) x21 x22 (wrap64 (x23 + 1))) else (none)) else (none)) else (none)) else (none)) else (if x5.length < 17592186044416 then ((impl_trim.f k (x5 ++ [x6])).bind fun t142 => (some t142)) else (none))
def impl_up.f (k : Nat) (l0 : List Int) (a1 : Int) : Option (List Int) := if (l0.length : Int) = 0 then (some ([] : List Int)) else (if 0 ≤ (wrap64 (Int.tdiv a1 16)) then (if (wrap64 (Int.tdiv a1 16)) ≤ (wrap64 ((wrap64 ((wrap64 (Int.tdiv a1 16)) + (l0.length : Int))) + 1)) then (if (wrap64 ((wrap64 ((wrap64 (Int.tdiv a1 16)) + (l0.length : Int))) + 1)) ≤ 35184372088832 then (impl_up.l0 k a1 (List.replicate (wrap64 (Int.tdiv a1 16) : Int).toNat 0) 0 l0 (l0.length : Int) 0) else (none)) else (none)) else (none))
theorem impl_up.mono_l : ∀ k, (∀ y0 y1 y2 y3 y4 y5, LeO (impl_up.l0 k y0 y1 y2 y3 y4 y5) (impl_up.l0 (k + 1) y0 y1 y2 y3 y4 y5))
 | 0 => fun _ _ _ _ _ _ r h => by simp [impl_up.l0] at h
 | k + 1 => by
  have ih0 := impl_up.mono_l k
  ·intro y0 y1 y2 y3 y4 y5
   unfold impl_up.l0
   repeat' first
   | (with_reducible exact ih0 _ _ _ _ _ _)
   | (with_reducible exact impl_trim.mono _ _)
   | (with_reducible exact LeO.refl _)
   | (with_reducible exact LeO.none _)
   | (with_reducible refine LeO.ite ?_ ?_)
   | (with_reducible refine LeO.bind ?_ (fun _ => ?_))
   | exact ih0 _ _ _ _ _ _
   | exact impl_trim.mono _ _
   | exact LeO.none _
   | refine LeO.ite ?_ ?_
   | refine LeO.bind ?_ (fun _ => ?_)
theorem impl_up.mono : ∀ a0 a1 k, LeO (impl_up.f k a0 a1) (impl_up.f (k + 1) a0 a1) := by
 intro a0 a1 k
 have ih0 := impl_up.mono_l k
 unfold impl_up.f
 repeat' first
   | (with_reducible exact ih0 _ _ _ _ _ _)
   | (with_reducible exact impl_trim.mono _ _)
   | (with_reducible exact LeO.refl _)
   | (with_reducible exact LeO.none _)
   | (with_reducible refine LeO.ite ?_ ?_)
   | (with_reducible refine LeO.bind ?_ (fun _ => ?_))
   | exact ih0 _ _ _ _ _ _
   | exact impl_trim.mono _ _
   | exact LeO.none _
   | refine LeO.ite ?_ ?_
   | refine LeO.bind ?_ (fun _ => ?_)
set_option maxHeartbeats 8000000 in
set_option maxRecDepth 100000 in
theorem impl_up.calls (k : Nat) (A0 : Option Addr) (c0 : Nat) (l0 : List Int) (a1 : Int) (r : List Int) (w : World) (hr0 : Kd.C (Kd.int .i64) w A0 l0.length l0) (hc0 : l0.length ≤ c0) (h : impl_up.f k l0 a1 = some r) :
  Calls Try.prog 105 #[.slice A0 l0.length c0, .int .i64 a1] w fun e w' => ∃ v0_ : Value, e = .returned (v0_) ∧ Kd.R (Kd.int .i64) 3 w' w.heap.size (fun _ => True) v0_ r ∧ Below w.heap.size w w' := by
 have HR0 := Aside0.mk hr0
 have HC0 := Aside0.mk hc0
 clear hr0 hc0
 have HB := Aside0.mk (Below.refl w.heap.size w)
 have H : (if (l0.length : Int) = 0 then (some ([] : List Int)) else (if 0 ≤ (wrap64 (Int.tdiv a1 16)) then (if (wrap64 (Int.tdiv a1 16)) ≤ (wrap64 ((wrap64 ((wrap64 (Int.tdiv a1 16)) + (l0.length : Int))) + 1)) then (if (wrap64 ((wrap64 ((wrap64 (Int.tdiv a1 16)) + (l0.length : Int))) + 1)) ≤ 35184372088832 then (impl_up.l0 k a1 (List.replicate (wrap64 (Int.tdiv a1 16) : Int).toNat 0) 0 l0 (l0.length : Int) 0) else (none)) else (none)) else (none))) = some r := h
 clear h
 by_cases c3 : (l0.length : Int) = 0
 ·rw [if_pos c3] at H
  have c3b0 : ((l0.length : Int) == 0) = true := beq_iff_eq.mpr c3
  have c3b1 : ((l0.length : Int) != 0) = false := bne_eq_false_iff_eq.mpr c3
  clear c3
  obtain rfl := Option.some.inj H
  go_enter Try.func105, Try.ntmps105
  go_wp2
  go_ret
  exact ⟨_, hkE, by first | exact Kd.R_nil _ _ _ _ _ | exact Kd.N_nil _ _ _ _ _ | exact Kd.V_nil _ _ _ _ _ | exact Kd.Q_nil _ _ _ _ _ | exact Kd.S_nil _ _ _ _ _, hkS HB⟩
 ·rw [if_neg c3] at H
  have c3b0 : ((l0.length : Int) == 0) = false := beq_eq_false_iff_ne.mpr c3
  have c3b1 : ((l0.length : Int) != 0) = true := bne_iff_ne.mpr c3
  have c3b2 : ¬ (l0 = []) := fun h_ => c3 (by rw [h_]; rfl)
  obtain ⟨ji4, hji4⟩ : ∃ j_ : Int, (wrap64 (Int.tdiv a1 16)) = j_ := ⟨_, rfl⟩
  replace H : (if 0 ≤ (ji4) then (if (ji4) ≤ (wrap64 ((wrap64 ((ji4) + (l0.length : Int))) + 1)) then (if (wrap64 ((wrap64 ((ji4) + (l0.length : Int))) + 1)) ≤ 35184372088832 then (impl_up.l0 k a1 (List.replicate (ji4 : Int).toNat 0) 0 l0 (l0.length : Int) 0) else (none)) else (none)) else (none)) = some r := by first | (rw [hji4] at H; exact H) | (simp only [hji4] at H ⊢; exact H)
  have hji4w : (IntKind.i64.wrap (Int.tdiv a1 16)) = ji4 := (i64_w _).trans hji4
  by_cases c5 : 0 ≤ (ji4)
  ·rw [if_pos c5] at H
   have c5b0 := eq_true c5
   have c5b1 : decide (0 ≤ (ji4)) = true := decide_eq_true c5
   clear c5
   by_cases c6 : (ji4) ≤ (wrap64 ((wrap64 ((ji4) + (l0.length : Int))) + 1))
   ·rw [if_pos c6] at H
    have c6b0 := eq_true c6
    have c6b1 : decide ((ji4) ≤ (wrap64 ((wrap64 ((ji4) + (l0.length : Int))) + 1))) = true := decide_eq_true c6
    by_cases c7 : (wrap64 ((wrap64 ((ji4) + (l0.length : Int))) + 1)) ≤ 35184372088832
    ·rw [if_pos c7] at H
     have c7b0 := eq_true c7
     have c7b1 : decide ((wrap64 ((wrap64 ((ji4) + (l0.length : Int))) + 1)) ≤ 35184372088832) = true := decide_eq_true c7
     obtain ⟨y132, hy132⟩ : ∃ y_ : List Int, y_ = (List.replicate (ji4 : Int).toNat 0) := ⟨_, rfl⟩
     replace H : (impl_up.l0 k a1 y132 0 l0 (l0.length : Int) 0) = some r := by first | (rw [hy132]; with_reducible exact H) | (have H2_ := (Option.bind_some _ _).symm.trans H; rw [hy132]; with_reducible exact H2_) | (have H2_ := (Option.bind_some _ _).symm.trans H; with_reducible exact H2_) | with_reducible exact H | (rw [hy132]; exact H) | exact H
     have Ny132 := Aside0.mk hy132
     clear hy132
     have H' := Aside0.mk H
     clear H
     go_enter Try.func105, Try.ntmps105
     go_wp2_with (first | ((with_reducible refine gate_dst (N := 20) rfl ?_); refine Kd.hR_makecap (Kd.int .i64) _ 3 rfl (N := 20) rfl 29 _ _ rfl ji4 (wrap64 ((wrap64 ((ji4) + (l0.length : Int))) + 1)) rfl rfl Try.underlying29 (.int .i64 0) 8 info3 rfl (by decide) (by decide) 0 (ok := fun _ => True) (okp := fun _ => True) rfl (fun _ hk => hk) trivial (of_decide_eq_true (by first | (with_reducible assumption) | assumption)) (of_decide_eq_true (by first | (with_reducible assumption) | assumption)) 35184372088832 (by decide) (of_decide_eq_true (by first | (with_reducible assumption) | assumption)) (Below.refl _ _) (Nat.le_refl _) ?_; intro v133 w8 ho9 hb hg_ hnew_; clear hg_ hnew_; (first | rw [← Ny132.out] at ho9 | (simp only [Int.reduceToNat] at ho9; rw [← Ny132.out] at ho9) | (simp only [Int.toNat_zero, List.replicate_zero] at ho9; rw [← Ny132.out] at ho9)); have n_ := hkA (Aside0.mk (Kd.R_lower ho9 (below_size (hkS HB)))) (hkU HB hb); clear HB; obtain ⟨HO134, HB⟩ := n_; clear hb ho9))
     go_loopg [5, 6, 23] k (fun kq v5 v6 v23 w' => ∃ (x5_1 : List Int) (x6_1 : Int) (x23_1 : Int), v6 = .int .i64 x6_1 ∧ v23 = .int .i64 x23_1 ∧ Aside0 (impl_up.l0 kq a1 x5_1 x6_1 l0 (l0.length : Int) x23_1 = some r) ∧ Aside0 (kq ≤ k) ∧ Aside0 (Kd.R (Kd.int .i64) 3 w' w.heap.size (fun _ => True) v5 x5_1) ∧ Aside0 (Below w.heap.size w w'))
     case atStart => exact ⟨(y132), (0), (0), (by first | rfl | (simp; done) | (simp [*]; done)), (by first | rfl | (simp; done) | (simp [*]; done)), H', ⟨Nat.le_refl _⟩, ⟨by (with_reducible repeat (first | apply Kd.R_alloc | apply Kd.R_drewN | apply Kd.R_drew)); exact HO134.out⟩, ⟨hkS HB⟩⟩
     case round =>
      clear H'
      try clear c1
      try clear p2
      try clear c3
      try clear c3b0
      try clear c3b1
      try clear c3b2
      try clear c5
      try clear c5b0
      try clear c5b1
      try clear c6
      try clear c6b0
      try clear c6b1
      try clear p6
      try clear c7
      try clear c7b0
      try clear c7b1
      obtain ⟨x5_1, x6_1, x23_1, rfl, rfl, HA, HK1, HO_5, HB⟩ := hrel
      cases gk with
      | zero => exact absurd HA.out (by simp [impl_up.l0])
      | succ k1 =>
       have H := HA.out
       clear HA
       simp only [impl_up.l0] at H
       by_cases c10 : x23_1 < (l0.length : Int)
       ·rw [if_pos c10] at H
        have c10b0 : decide (x23_1 < (l0.length : Int)) = true := decide_eq_true c10
        clear c10
        by_cases c11 : 0 ≤ x23_1
        ·rw [if_pos c11] at H
         have c11b0 : decide (0 ≤ x23_1) = true := decide_eq_true c11
         clear c11
         by_cases c12 : x23_1 < (l0.length : Int)
         ·rw [if_pos c12] at H
          have c12b0 : decide (x23_1 < (l0.length : Int)) = true := decide_eq_true c12
          clear c12
          obtain ⟨ji13, hji13⟩ : ∃ j_ : Int, (Int.tmod a1 16) = j_ := ⟨_, rfl⟩
          replace H : (if 0 ≤ (ji13) then (if x5_1.length < 17592186044416 then (impl_up.l0 k1 a1 (x5_1 ++ [Int.tmod (wrap64 (x6_1 + (shl .i64 (rd l0 x23_1) (ji13)))) 65536]) (wrap64 (Int.tdiv (wrap64 (x6_1 + (shl .i64 (rd l0 x23_1) (ji13)))) 65536)) l0 (l0.length : Int) (wrap64 (x23_1 + 1))) else (none)) else (none)) = some r := by first | (rw [hji13] at H; exact H) | (simp only [hji13] at H ⊢; exact H)
          by_cases c14 : 0 ≤ (ji13)
          ·rw [if_pos c14] at H
           have c14b0 := eq_true c14
           have c14b1 : decide (0 ≤ (ji13)) = true := decide_eq_true c14
           clear c14
           obtain ⟨ji15, hji15⟩ : ∃ j_ : Int, (shl .i64 (rd l0 x23_1) (ji13)) = j_ := ⟨_, rfl⟩
           replace H : (if x5_1.length < 17592186044416 then (impl_up.l0 k1 a1 (x5_1 ++ [Int.tmod (wrap64 (x6_1 + (ji15))) 65536]) (wrap64 (Int.tdiv (wrap64 (x6_1 + (ji15))) 65536)) l0 (l0.length : Int) (wrap64 (x23_1 + 1))) else (none)) = some r := by first | (rw [hji15] at H; exact H) | (simp only [hji15] at H ⊢; exact H)
           have hji15_ : (IntKind.i64.wrap ((rd l0 x23_1) * 2 ^ min (ji13).toNat 64)) = ji15 := hji15
           have hji15z : (ji13) ≤ 64 → (IntKind.i64.wrap ((rd l0 x23_1) * 2 ^ (ji13).toNat)) = ji15 := shl_small hji15
           have hji15y : (wrap64 ((rd l0 x23_1) * 2 ^ min (ji13).toNat 64)) = ji15 := (i64_w _).symm.trans hji15_
           have hji15x : (ji13) ≤ 64 → (wrap64 ((rd l0 x23_1) * 2 ^ (ji13).toNat)) = ji15 := fun h_ => (i64_w _).symm.trans (hji15z h_)
           by_cases c16 : x5_1.length < 17592186044416
           ·rw [if_pos c16] at H
            have LMc16 := Aside0.mk c16
            clear c16
            obtain ⟨y136, hy136⟩ : ∃ y_ : List Int, y_ = (x5_1 ++ [Int.tmod (wrap64 (x6_1 + (ji15))) 65536]) := ⟨_, rfl⟩
            replace H : (impl_up.l0 k1 a1 y136 (wrap64 (Int.tdiv (wrap64 (x6_1 + (ji15))) 65536)) l0 (l0.length : Int) (wrap64 (x23_1 + 1))) = some r := by first | (rw [hy136]; with_reducible exact H) | (have H2_ := (Option.bind_some _ _).symm.trans H; rw [hy136]; with_reducible exact H2_) | (have H2_ := (Option.bind_some _ _).symm.trans H; with_reducible exact H2_) | with_reducible exact H | (rw [hy136]; exact H) | exact H
            have Ny136 := Aside0.mk hy136
            clear hy136
            have H' := Aside0.mk H
            clear H
            have p135 : 0 ≤ (x23_1 : Int) := of_decide_eq_true (by first | (with_reducible assumption) | assumption)
            have q135 : x23_1 < (l0.length : Int) := of_decide_eq_true (by first | (with_reducible assumption) | assumption)
            obtain ⟨ad135, e135, hx135_0⟩ := Kd.at_int HR0.out x23_1 p135 q135
            cases e135
            replace hx135_0 := (HB.out.cell (World.block_lt_of_cell? w _ hx135_0)).trans hx135_0
            replace p135 := eq_true p135
            replace q135 := eq_true q135
            go_wp2_with (first | ((with_reducible refine gate_builtin (b := .append) (xs := #[.tmp 33, .tmp 36]) rfl ?_); at_builtin; refine Kd.R_append (Kd.int .i64) (w0 := w) w.heap.size rfl (.tmp 33) (.tmp 36) 29 3 (.int .i64 0) 8 rfl Try.underlying29 info3 rfl (by decide) (by omega) u5 x5_1 (Int.tmod (wrap64 (x6_1 + (ji15))) 65536) [.int .i64 (Int.tmod (wrap64 (x6_1 + (ji15))) 65536)] (fun _ => True) (fun _ => False) rfl rfl ?aP (fun _ hk => hk.elim) ?aF ?aO ?aB ?aS ?aL ?_; (case aP => exact rfl); (case aB => exact (hkS HB)); (case aF => exact (fun _ _ => trivial)); (case aO => exact (hkR HO_5)); (case aS => exact (below_size (hkS HB))); (case aL => have := LMc16.out; omega); intro v137 w17 ho hb hg hat; rw [← Ny136.out] at ho; have n_ := hkA (Aside0.mk (hb)) (Aside0.mk (ho)); clear HB HO_5; obtain ⟨HB, HO138⟩ := n_; clear ho hb hg hat))
            go_roundg k1
            case measure => have := HK1.out; omega
            case rel => exact ⟨(y136), (wrap64 (Int.tdiv (wrap64 (x6_1 + (ji15))) 65536)), (wrap64 (x23_1 + 1)), (by first | rfl | (simp; done) | (simp only [← hji15] <;> (first | rfl | simp)) | (simp [*]; done)), (by first | rfl | (simp; done) | (simp [*]; done)), H', ⟨by have := HK1.out; omega⟩, ⟨by (with_reducible repeat (first | apply Kd.R_alloc | apply Kd.R_drewN | apply Kd.R_drew)); exact HO138.out⟩, ⟨hkS HB⟩⟩
           ·rw [if_neg c16] at H
            exact absurd H (by simp)
          ·rw [if_neg c14] at H
           exact absurd H (by simp)
         ·rw [if_neg c12] at H
          exact absurd H (by simp)
        ·rw [if_neg c11] at H
         exact absurd H (by simp)
       ·rw [if_neg c10] at H
        have c10b0 : decide (x23_1 < (l0.length : Int)) = false := decide_eq_false c10
        clear c10
        by_cases c18 : x5_1.length < 17592186044416
        ·rw [if_pos c18] at H
         have LMc18 := Aside0.mk c18
         clear c18
         obtain ⟨y139, hy139⟩ : ∃ y_ : List Int, y_ = (x5_1 ++ [x6_1]) := ⟨_, rfl⟩
         replace H : ((impl_trim.f k1 y139).bind fun t142 => (some t142)) = some r := by first | (rw [hy139]; with_reducible exact H) | (have H2_ := (Option.bind_some _ _).symm.trans H; rw [hy139]; with_reducible exact H2_) | (have H2_ := (Option.bind_some _ _).symm.trans H; with_reducible exact H2_) | with_reducible exact H | (rw [hy139]; exact H) | exact H
         have Ny139 := Aside0.mk hy139
         clear hy139
         replace H := hBi H
         obtain ⟨t142, A190, H⟩ := H
         replace H : (some t142) = some r := H
         have A19 := Aside0.mk A190
         clear A190
         obtain rfl := Option.some.inj H
         go_wp2_with (first | ((with_reducible refine gate_builtin (b := .append) (xs := #[.tmp 41, .tmp 43]) rfl ?_); at_builtin; refine Kd.R_append (Kd.int .i64) (w0 := w) w.heap.size rfl (.tmp 41) (.tmp 43) 29 3 (.int .i64 0) 8 rfl Try.underlying29 info3 rfl (by decide) (by omega) u5 x5_1 x6_1 [.int .i64 x6_1] (fun _ => True) (fun _ => False) rfl rfl ?aP (fun _ hk => hk.elim) ?aF ?aO ?aB ?aS ?aL ?_; (case aP => exact rfl); (case aB => exact (hkS HB)); (case aF => exact (fun _ _ => trivial)); (case aO => exact (hkR HO_5)); (case aS => exact (below_size (hkS HB))); (case aL => have := LMc18.out; omega); intro v140 w20 ho hb hg hat; rw [← Ny139.out] at ho; have n_ := hkA (Aside0.mk (hb)) (Aside0.mk (ho)); clear HB HO_5; obtain ⟨HB, HO141⟩ := n_; clear ho hb hg hat; obtain ⟨Ao21, co21, eo21⟩ := Kd.R_slice HO141.out; subst eo21) | ((with_reducible refine gate_callee (f := 109) rfl ?_); refine hkGo (N := some 45) Try.func109 #[.slice Ao21 y139.length co21] ?_; (with_reducible refine (impl_trim.calls k1 (fun k_ => some k_ = (.slice Ao21 y139.length co21 : Value).ownBlock) (.slice Ao21 y139.length co21) y139 t142 w _ ?side1 ?side2 A19.out).mono ?_); (case side1 => exact hkS HB); (case side2 => exact Kd.R_tight rfl HO141.out); rintro e w22 ⟨v143, rfl, ho0, hb, hkp⟩; refine ⟨_, rfl, ?_⟩; have n_ := hkA (Aside0.mk (Kd.R_mono (ok' := fun k_ => True) ho0 (fun k_ hk_ => trivial))) (Aside0.mk (hb)); clear HB HO141; obtain ⟨HO144, HB⟩ := n_; (try clear hb); (try clear hkp); (try clear ho0)))
         go_ret
         exact ⟨_, by first | rfl | (simp [errW_none, errW_some] <;> rfl) | (simp only [← hji4]; first | rfl | (simp [errW_none, errW_some] <;> rfl)) | (simp [*, errW_none, errW_some] <;> rfl), by (with_reducible repeat (first | apply Kd.R_alloc | apply Kd.R_drewN | apply Kd.R_drew)); exact HO144.out, hkS HB⟩
        ·rw [if_neg c18] at H
         exact absurd H (by simp)
    ·rw [if_neg c7] at H
     exact absurd H (by simp)
   ·rw [if_neg c6] at H
    exact absurd H (by simp)
  ·rw [if_neg c5] at H
   exact absurd H (by simp)

end Go.Proofs.Ytgjpahofopoflaa.PFnExactNatDiv
