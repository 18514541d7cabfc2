-- Written by our own driver (wip/hand/hprint.py) over the seat's translation.
import Derived.Test.YtgjpahofopoflaaPFnExactNatDivx0
import Derived.Test.YtgjpahofopoflaaPFnExactNatDivx3
namespace Go.Proofs.Ytgjpahofopoflaa.PFnExactNatDiv
open Go.RowKit Go.Proofs.YtgjpahofopoflaaW.PrintWords Go.Proofs.YtgjpahofopoflaaW.PrintLast Go.Proofs.YtgjpahofopoflaaW.PrintMore
attribute [local go_sem] max2_int min2_int max_two min_two max_three min_three max_four min_four   -- for this text's walks alone
set_option linter.unusedVariables false
set_option linter.unusedSimpArgs false

/-! ### impl_down: function 110 -/
def impl_down.l0 : Nat → Int → List Int → List Int → List Int → Int → Int → Option (List Int)
 | 0, _, _, _, _, _, _ => none
 | k + 1, x1, x5, x6, x21, x22, x23 => if x23 < x22 then (if 0 ≤ x23 then (if x23 < (x21.length : Int) then (if (wrap64 (x23 + 1)) < (x5.length : Int) then (if 0 ≤ (wrap64 (x23 + 1)) then (if 0 ≤ (Int.tmod x1 16) then (if x6.length < 17592186044416 then (impl_down.l0 k x1 x5 (x6 ++ [Int.tmod (shr .i64 (wrap64 ((rd x21 x23) + (wrap64 ((rd x5 (wrap64 (x23 + 1))) * 65536)))) (Int.tmod x1 16)) 65536]) x21 x22 (wrap64 (x23 + 1))) else (none)) else (none)) else (none)) else (if 0 ≤ (Int.tmod x1 16) then (if x6.length < 17592186044416 then (impl_down.l0 k x1 x5 (x6 ++ [Int.tmod (shr .i64 (rd x21 x23) (Int.tmod x1 16)) 65536]) x21 x22 (wrap64 (x23 + 1))) else (none)) else (none))) else (none)) else (none)) else ((impl_trim.f k x6).bind fun t176 => (some t176))
def impl_down.f (k : Nat) (l0 : List Int) (a1 : Int) : Option (List Int) := if (wrap64 (Int.tdiv a1 16)) ≥ (l0.length : Int) then (some ([] : List Int)) else (if 0 ≤ (wrap64 (Int.tdiv a1 16)) then (if (wrap64 (Int.tdiv a1 16)) ≤ (l0.length : Int) then (if 0 ≤ ((l0.drop ((wrap64 (Int.tdiv a1 16)) : Int).toNat).length : Int) then (if ((l0.drop ((wrap64 (Int.tdiv a1 16)) : Int).toNat).length : Int) ≤ 35184372088832 then (impl_down.l0 k a1 (l0.drop ((wrap64 (Int.tdiv a1 16)) : Int).toNat) (([] : List Int)) (l0.drop ((wrap64 (Int.tdiv a1 16)) : Int).toNat) ((l0.drop ((wrap64 (Int.tdiv a1 16)) : Int).toNat).length : Int) 0) else (none)) else (none)) else (none)) else (none))
theorem impl_down.mono_l : ∀ k, (∀ y0 y1 y2 y3 y4 y5, LeO (impl_down.l0 k y0 y1 y2 y3 y4 y5) (impl_down.l0 (k + 1) y0 y1 y2 y3 y4 y5))
 | 0 => fun _ _ _ _ _ _ r h => by simp [impl_down.l0] at h
 | k + 1 => by
  have ih0 := impl_down.mono_l k
  ·intro y0 y1 y2 y3 y4 y5
   unfold impl_down.l0
   repeat' first
   | (with_reducible exact ih0 _ _ _ _ _ _)
   | (with_reducible exact impl_trim.mono _ _)
   | (with_reducible exact LeO.refl _)
   | (with_reducible exact LeO.none _)
   | (with_reducible refine LeO.ite ?_ ?_)
   | (with_reducible refine LeO.bind ?_ (fun _ => ?_))
   | exact ih0 _ _ _ _ _ _
   | exact impl_trim.mono _ _
   | exact LeO.none _
   | refine LeO.ite ?_ ?_
   | refine LeO.bind ?_ (fun _ => ?_)
theorem impl_down.mono : ∀ a0 a1 k, LeO (impl_down.f k a0 a1) (impl_down.f (k + 1) a0 a1) := by
 intro a0 a1 k
 have ih0 := impl_down.mono_l k
 unfold impl_down.f
 repeat' first
   | (with_reducible exact ih0 _ _ _ _ _ _)
   | (with_reducible exact impl_trim.mono _ _)
   | (with_reducible exact LeO.refl _)
   | (with_reducible exact LeO.none _)
   | (with_reducible refine LeO.ite ?_ ?_)
   | (with_reducible refine LeO.bind ?_ (fun _ => ?_))
   | exact ih0 _ _ _ _ _ _
   | exact impl_trim.mono _ _
   | exact LeO.none _
   | refine LeO.ite ?_ ?_
   | refine LeO.bind ?_ (fun _ => ?_)
set_option maxHeartbeats 8000000 in
set_option maxRecDepth 100000 in
theorem impl_down.calls (k : Nat) (A0 : Option Addr) (c0 : Nat) (l0 : List Int) (a1 : Int) (r : List Int) (w : World) (hr0 : Kd.C (Kd.int .i64) w A0 l0.length l0) (hc0 : l0.length ≤ c0) (h : impl_down.f k l0 a1 = some r) :
  Calls Try.prog 110 #[.slice A0 l0.length c0, .int .i64 a1] w fun e w' => ∃ v0_ : Value, e = .returned (v0_) ∧ Kd.R (Kd.int .i64) 3 w' w.heap.size (fun _ => True) v0_ r ∧ Below w.heap.size w w' := by
 have HR0 := Aside0.mk hr0
 have HC0 := Aside0.mk hc0
 clear hr0 hc0
 have HB := Aside0.mk (Below.refl w.heap.size w)
 have H : (if (wrap64 (Int.tdiv a1 16)) ≥ (l0.length : Int) then (some ([] : List Int)) else (if 0 ≤ (wrap64 (Int.tdiv a1 16)) then (if (wrap64 (Int.tdiv a1 16)) ≤ (l0.length : Int) then (if 0 ≤ ((l0.drop ((wrap64 (Int.tdiv a1 16)) : Int).toNat).length : Int) then (if ((l0.drop ((wrap64 (Int.tdiv a1 16)) : Int).toNat).length : Int) ≤ 35184372088832 then (impl_down.l0 k a1 (l0.drop ((wrap64 (Int.tdiv a1 16)) : Int).toNat) (([] : List Int)) (l0.drop ((wrap64 (Int.tdiv a1 16)) : Int).toNat) ((l0.drop ((wrap64 (Int.tdiv a1 16)) : Int).toNat).length : Int) 0) else (none)) else (none)) else (none)) else (none))) = some r := h
 clear h
 by_cases c3 : (wrap64 (Int.tdiv a1 16)) ≥ (l0.length : Int)
 ·rw [if_pos c3] at H
  have c3b0 : decide ((l0.length : Int) ≤ (wrap64 (Int.tdiv a1 16))) = true := decide_eq_true c3
  clear c3
  obtain rfl := Option.some.inj H
  go_enter Try.func110, Try.ntmps110
  go_wp2
  go_ret
  exact ⟨_, hkE, by first | exact Kd.R_nil _ _ _ _ _ | exact Kd.N_nil _ _ _ _ _ | exact Kd.V_nil _ _ _ _ _ | exact Kd.Q_nil _ _ _ _ _ | exact Kd.S_nil _ _ _ _ _, hkS HB⟩
 ·rw [if_neg c3] at H
  have c3b0 : decide ((l0.length : Int) ≤ (wrap64 (Int.tdiv a1 16))) = false := decide_eq_false c3
  clear c3
  obtain ⟨ji4, hji4⟩ : ∃ j_ : Int, (wrap64 (Int.tdiv a1 16)) = j_ := ⟨_, rfl⟩
  replace H : (if 0 ≤ (ji4) then (if (ji4) ≤ (l0.length : Int) then (if 0 ≤ ((l0.drop ((ji4) : Int).toNat).length : Int) then (if ((l0.drop ((ji4) : Int).toNat).length : Int) ≤ 35184372088832 then (impl_down.l0 k a1 (l0.drop ((ji4) : Int).toNat) (([] : List Int)) (l0.drop ((ji4) : Int).toNat) ((l0.drop ((ji4) : Int).toNat).length : Int) 0) else (none)) else (none)) else (none)) else (none)) = some r := by first | (rw [hji4] at H; exact H) | (simp only [hji4] at H ⊢; exact H)
  (try rw [hji4] at c3b0)
  have hji4w : (IntKind.i64.wrap (Int.tdiv a1 16)) = ji4 := (i64_w _).trans hji4
  by_cases c5 : 0 ≤ (ji4)
  ·rw [if_pos c5] at H
   have c5b0 := eq_true c5
   have c5b1 : decide (0 ≤ (ji4)) = true := decide_eq_true c5
   clear c5
   by_cases c6 : (ji4) ≤ (l0.length : Int)
   ·rw [if_pos c6] at H
    have c6b0 := eq_true c6
    have c6b1 : decide ((ji4) ≤ (l0.length : Int)) = true := decide_eq_true c6
    clear c6
    by_cases c7 : 0 ≤ ((l0.drop ((ji4) : Int).toNat).length : Int)
    ·rw [if_pos c7] at H
     have c7b0 := eq_true c7
     have c7b1 : decide (0 ≤ ((l0.drop ((ji4) : Int).toNat).length : Int)) = true := decide_eq_true c7
     clear c7
     by_cases c8 : ((l0.drop ((ji4) : Int).toNat).length : Int) ≤ 35184372088832
     ·rw [if_pos c8] at H
      have c8b0 := eq_true c8
      have c8b1 : decide (((l0.drop ((ji4) : Int).toNat).length : Int) ≤ 35184372088832) = true := decide_eq_true c8
      clear c8
      obtain ⟨y165, hy165⟩ : ∃ y_ : List Int, y_ = (([] : List Int)) := ⟨_, rfl⟩
      replace H : (impl_down.l0 k a1 (l0.drop ((ji4) : Int).toNat) y165 (l0.drop ((ji4) : Int).toNat) ((l0.drop ((ji4) : Int).toNat).length : Int) 0) = some r := by first | (rw [hy165]; with_reducible exact H) | (have H2_ := (Option.bind_some _ _).symm.trans H; rw [hy165]; with_reducible exact H2_) | (have H2_ := (Option.bind_some _ _).symm.trans H; with_reducible exact H2_) | with_reducible exact H | (rw [hy165]; exact H) | exact H
      have Ny165 := Aside0.mk hy165
      clear hy165
      have H' := Aside0.mk H
      clear H
      obtain ⟨i09, hi09, _, hsz9, _⟩ := info_parts info3
      obtain ⟨A9, hcut9, hA9, hC9⟩ := print_drop_of (P := Try.prog) (Value.int .i64) 0 29 3 .i64 Try.underlying29 hi09 hsz9 A0 c0 l0 (ji4) (of_decide_eq_true (by first | (with_reducible assumption) | assumption)) (of_decide_eq_true (by first | (with_reducible assumption) | assumption)) HC0.out
      have HR164 := Aside0.mk (Kd.C_of_reads (h1 := fun _ => rfl) (hA9 _ (Kd.reads_of_C HR0.out)))
      have HC164 := Aside0.mk hC9
      clear hA9 hC9 hi09 hsz9
      generalize hcutq : (l0.drop ((ji4) : Int).toNat) = cutq at *
      have Ncutq := Aside0.mk hcutq
      clear hcutq
      go_enter Try.func110, Try.ntmps110
      go_wp2_with (first | ((with_reducible refine gate_dst (N := 20) rfl ?_); refine Kd.hR_makecap (Kd.int .i64) _ 3 rfl (N := 20) rfl 29 _ _ rfl (0 : Int) (cutq.length : Int) rfl rfl Try.underlying29 (.int .i64 0) 8 info3 rfl (by decide) (by decide) 0 (ok := fun _ => True) (okp := fun _ => True) rfl (fun _ hk => hk) trivial (by omega) (of_decide_eq_true (by first | (with_reducible assumption) | assumption)) 35184372088832 (by decide) (of_decide_eq_true (by first | (with_reducible assumption) | assumption)) (Below.refl _ _) (Nat.le_refl _) ?_; intro v166 w10 ho11 hb hg_ hnew_; clear hg_ hnew_; (first | rw [← Ny165.out] at ho11 | (simp only [Int.reduceToNat] at ho11; rw [← Ny165.out] at ho11) | (simp only [Int.toNat_zero, List.replicate_zero] at ho11; rw [← Ny165.out] at ho11)); have n_ := hkA (Aside0.mk (Kd.R_lower ho11 (below_size (hkS HB)))) (hkU HB hb); clear HB; obtain ⟨HO167, HB⟩ := n_; clear hb ho11))
      go_loopg [6, 23] k (fun kq v6 v23 w' => ∃ (x6_1 : List Int) (x23_1 : Int), v23 = .int .i64 x23_1 ∧ Aside0 (impl_down.l0 kq a1 cutq x6_1 cutq (cutq.length : Int) x23_1 = some r) ∧ Aside0 (kq ≤ k) ∧ Aside0 (Kd.R (Kd.int .i64) 3 w' w.heap.size (fun _ => True) v6 x6_1) ∧ Aside0 (Below w.heap.size w w'))
      case atStart => exact ⟨(y165), (0), (by first | rfl | (simp; done) | (simp [*]; done)), H', ⟨Nat.le_refl _⟩, ⟨by (with_reducible repeat (first | apply Kd.R_alloc | apply Kd.R_drewN | apply Kd.R_drew)); exact HO167.out⟩, ⟨hkS HB⟩⟩
      case round =>
       clear H'
       try clear c1
       try clear p2
       try clear c3
       try clear c3b0
       try clear c5
       try clear c5b0
       try clear c5b1
       try clear c6
       try clear c6b0
       try clear c6b1
       try clear p6
       try clear c7
       try clear c7b0
       try clear c7b1
       try clear c8
       try clear c8b0
       try clear c8b1
       try clear c11
       obtain ⟨x6_1, x23_1, rfl, HA, HK1, HO_6, HB⟩ := hrel
       cases gk with
       | zero => exact absurd HA.out (by simp [impl_down.l0])
       | succ k1 =>
        have H := HA.out
        clear HA
        simp only [impl_down.l0] at H
        by_cases c12 : x23_1 < (cutq.length : Int)
        ·rw [if_pos c12] at H
         have c12b0 : decide (x23_1 < (cutq.length : Int)) = true := decide_eq_true c12
         clear c12
         by_cases c13 : 0 ≤ x23_1
         ·rw [if_pos c13] at H
          have c13b0 : decide (0 ≤ x23_1) = true := decide_eq_true c13
          clear c13
          by_cases c14 : x23_1 < (cutq.length : Int)
          ·rw [if_pos c14] at H
           have c14b0 : decide (x23_1 < (cutq.length : Int)) = true := decide_eq_true c14
           clear c14
           by_cases c15 : (wrap64 (x23_1 + 1)) < (cutq.length : Int)
           ·rw [if_pos c15] at H
            have c15b0 : decide ((wrap64 (x23_1 + 1)) < (cutq.length : Int)) = true := decide_eq_true c15
            clear c15
            obtain ⟨ji16, hji16⟩ : ∃ j_ : Int, (wrap64 (x23_1 + 1)) = j_ := ⟨_, rfl⟩
            replace H : (if 0 ≤ (ji16) then (if 0 ≤ (Int.tmod a1 16) then (if x6_1.length < 17592186044416 then (impl_down.l0 k1 a1 cutq (x6_1 ++ [Int.tmod (shr .i64 (wrap64 ((rd cutq x23_1) + (wrap64 ((rd cutq (ji16)) * 65536)))) (Int.tmod a1 16)) 65536]) cutq (cutq.length : Int) ji16) else (none)) else (none)) else (none)) = some r := by first | (rw [hji16] at H; exact H) | (simp only [hji16] at H ⊢; exact H)
            (try rw [hji16] at c15b0)
            have hji16w : (IntKind.i64.wrap (x23_1 + 1)) = ji16 := (i64_w _).trans hji16
            by_cases c17 : 0 ≤ (ji16)
            ·rw [if_pos c17] at H
             have c17b0 : decide (0 ≤ (ji16)) = true := decide_eq_true c17
             clear c17
             obtain ⟨ji18, hji18⟩ : ∃ j_ : Int, (Int.tmod a1 16) = j_ := ⟨_, rfl⟩
             replace H : (if 0 ≤ (ji18) then (if x6_1.length < 17592186044416 then (impl_down.l0 k1 a1 cutq (x6_1 ++ [Int.tmod (shr .i64 (wrap64 ((rd cutq x23_1) + (wrap64 ((rd cutq (ji16)) * 65536)))) (ji18)) 65536]) cutq (cutq.length : Int) ji16) else (none)) else (none)) = some r := by first | (rw [hji18] at H; exact H) | (simp only [hji18] at H ⊢; exact H)
             by_cases c19 : 0 ≤ (ji18)
             ·rw [if_pos c19] at H
              have c19b0 := eq_true c19
              have c19b1 : decide (0 ≤ (ji18)) = true := decide_eq_true c19
              clear c19
              obtain ⟨ji20, hji20⟩ : ∃ j_ : Int, (shr .i64 (wrap64 ((rd cutq x23_1) + (wrap64 ((rd cutq (ji16)) * 65536)))) (ji18)) = j_ := ⟨_, rfl⟩
              replace H : (if x6_1.length < 17592186044416 then (impl_down.l0 k1 a1 cutq (x6_1 ++ [Int.tmod (ji20) 65536]) cutq (cutq.length : Int) ji16) else (none)) = some r := by first | (rw [hji20] at H; exact H) | (simp only [hji20] at H ⊢; exact H)
              have hji20_ : ((wrap64 ((rd cutq x23_1) + (wrap64 ((rd cutq (ji16)) * 65536)))) / 2 ^ min (ji18).toNat 64) = ji20 := hji20
              have hji20z : (ji18) ≤ 64 → ((wrap64 ((rd cutq x23_1) + (wrap64 ((rd cutq (ji16)) * 65536)))) / 2 ^ (ji18).toNat) = ji20 := shr_small hji20
              by_cases c21 : x6_1.length < 17592186044416
              ·rw [if_pos c21] at H
               have LMc21 := Aside0.mk c21
               clear c21
               obtain ⟨y170, hy170⟩ : ∃ y_ : List Int, y_ = (x6_1 ++ [Int.tmod (ji20) 65536]) := ⟨_, rfl⟩
               replace H : (impl_down.l0 k1 a1 cutq y170 cutq (cutq.length : Int) ji16) = some r := by first | (rw [hy170]; with_reducible exact H) | (have H2_ := (Option.bind_some _ _).symm.trans H; rw [hy170]; with_reducible exact H2_) | (have H2_ := (Option.bind_some _ _).symm.trans H; with_reducible exact H2_) | with_reducible exact H | (rw [hy170]; exact H) | exact H
               have Ny170 := Aside0.mk hy170
               clear hy170
               have H' := Aside0.mk H
               clear H
               have p168 : 0 ≤ (x23_1 : Int) := of_decide_eq_true (by first | (with_reducible assumption) | assumption)
               have q168 : x23_1 < (cutq.length : Int) := of_decide_eq_true (by first | (with_reducible assumption) | assumption)
               obtain ⟨ad168, e168, hx168_0⟩ := Kd.at_int HR164.out x23_1 p168 q168
               cases e168
               replace hx168_0 := (HB.out.cell (World.block_lt_of_cell? w _ hx168_0)).trans hx168_0
               replace p168 := eq_true p168
               replace q168 := eq_true q168
               have p169 : 0 ≤ ((ji16) : Int) := of_decide_eq_true (by first | (with_reducible assumption) | assumption)
               have q169 : (ji16) < (cutq.length : Int) := of_decide_eq_true (by first | (with_reducible assumption) | assumption)
               obtain ⟨ad169, e169, hx169_0⟩ := Kd.at_int HR164.out (ji16) p169 q169
               obtain rfl : ad168 = ad169 := (by injection e169)
               replace hx169_0 := (HB.out.cell (World.block_lt_of_cell? w _ hx169_0)).trans hx169_0
               replace p169 := eq_true p169
               replace q169 := eq_true q169
               go_wp2_with (first | ((with_reducible refine gate_builtin (b := .append) (xs := #[.tmp 41, .tmp 47]) rfl ?_); at_builtin; refine Kd.R_append (Kd.int .i64) (w0 := w) w.heap.size rfl (.tmp 41) (.tmp 47) 29 3 (.int .i64 0) 8 rfl Try.underlying29 info3 rfl (by decide) (by omega) u6 x6_1 (Int.tmod (ji20) 65536) [.int .i64 (Int.tmod (ji20) 65536)] (fun _ => True) (fun _ => False) rfl rfl ?aP (fun _ hk => hk.elim) ?aF ?aO ?aB ?aS ?aL ?_; (case aP => exact rfl); (case aB => exact (hkS HB)); (case aF => exact (fun _ _ => trivial)); (case aO => exact (hkR HO_6)); (case aS => exact (below_size (hkS HB))); (case aL => have := LMc21.out; omega); intro v171 w22 ho hb hg hat; rw [← Ny170.out] at ho; have n_ := hkA (Aside0.mk (hb)) (Aside0.mk (ho)); clear HB HO_6; obtain ⟨HB, HO172⟩ := n_; clear ho hb hg hat))
               go_roundg k1
               case measure => have := HK1.out; omega
               case rel => exact ⟨(y170), (ji16), (by first | rfl | (simp; done) | (simp only [← hji16] <;> (first | rfl | simp)) | (simp [*]; done)), H', ⟨by have := HK1.out; omega⟩, ⟨by (with_reducible repeat (first | apply Kd.R_alloc | apply Kd.R_drewN | apply Kd.R_drew)); exact HO172.out⟩, ⟨hkS HB⟩⟩
              ·rw [if_neg c21] at H
               exact absurd H (by simp)
             ·rw [if_neg c19] at H
              exact absurd H (by simp)
            ·rw [if_neg c17] at H
             exact absurd H (by simp)
           ·rw [if_neg c15] at H
            have c15b0 : decide ((wrap64 (x23_1 + 1)) < (cutq.length : Int)) = false := decide_eq_false c15
            clear c15
            obtain ⟨ji23, hji23⟩ : ∃ j_ : Int, (Int.tmod a1 16) = j_ := ⟨_, rfl⟩
            replace H : (if 0 ≤ (ji23) then (if x6_1.length < 17592186044416 then (impl_down.l0 k1 a1 cutq (x6_1 ++ [Int.tmod (shr .i64 (rd cutq x23_1) (ji23)) 65536]) cutq (cutq.length : Int) (wrap64 (x23_1 + 1))) else (none)) else (none)) = some r := by first | (rw [hji23] at H; exact H) | (simp only [hji23] at H ⊢; exact H)
            by_cases c24 : 0 ≤ (ji23)
            ·rw [if_pos c24] at H
             have c24b0 := eq_true c24
             have c24b1 : decide (0 ≤ (ji23)) = true := decide_eq_true c24
             clear c24
             obtain ⟨ji25, hji25⟩ : ∃ j_ : Int, (shr .i64 (rd cutq x23_1) (ji23)) = j_ := ⟨_, rfl⟩
             replace H : (if x6_1.length < 17592186044416 then (impl_down.l0 k1 a1 cutq (x6_1 ++ [Int.tmod (ji25) 65536]) cutq (cutq.length : Int) (wrap64 (x23_1 + 1))) else (none)) = some r := by first | (rw [hji25] at H; exact H) | (simp only [hji25] at H ⊢; exact H)
             have hji25_ : ((rd cutq x23_1) / 2 ^ min (ji23).toNat 64) = ji25 := hji25
             have hji25z : (ji23) ≤ 64 → ((rd cutq x23_1) / 2 ^ (ji23).toNat) = ji25 := shr_small hji25
             by_cases c26 : x6_1.length < 17592186044416
             ·rw [if_pos c26] at H
              have LMc26 := Aside0.mk c26
              clear c26
              obtain ⟨y173, hy173⟩ : ∃ y_ : List Int, y_ = (x6_1 ++ [Int.tmod (ji25) 65536]) := ⟨_, rfl⟩
              replace H : (impl_down.l0 k1 a1 cutq y173 cutq (cutq.length : Int) (wrap64 (x23_1 + 1))) = some r := by first | (rw [hy173]; with_reducible exact H) | (have H2_ := (Option.bind_some _ _).symm.trans H; rw [hy173]; with_reducible exact H2_) | (have H2_ := (Option.bind_some _ _).symm.trans H; with_reducible exact H2_) | with_reducible exact H | (rw [hy173]; exact H) | exact H
              have Ny173 := Aside0.mk hy173
              clear hy173
              have H' := Aside0.mk H
              clear H
              have p168 : 0 ≤ (x23_1 : Int) := of_decide_eq_true (by first | (with_reducible assumption) | assumption)
              have q168 : x23_1 < (cutq.length : Int) := of_decide_eq_true (by first | (with_reducible assumption) | assumption)
              obtain ⟨ad168, e168, hx168_0⟩ := Kd.at_int HR164.out x23_1 p168 q168
              cases e168
              replace hx168_0 := (HB.out.cell (World.block_lt_of_cell? w _ hx168_0)).trans hx168_0
              replace p168 := eq_true p168
              replace q168 := eq_true q168
              go_wp2_with (first | ((with_reducible refine gate_builtin (b := .append) (xs := #[.tmp 41, .tmp 47]) rfl ?_); at_builtin; refine Kd.R_append (Kd.int .i64) (w0 := w) w.heap.size rfl (.tmp 41) (.tmp 47) 29 3 (.int .i64 0) 8 rfl Try.underlying29 info3 rfl (by decide) (by omega) u6 x6_1 (Int.tmod (ji25) 65536) [.int .i64 (Int.tmod (ji25) 65536)] (fun _ => True) (fun _ => False) rfl rfl ?aP (fun _ hk => hk.elim) ?aF ?aO ?aB ?aS ?aL ?_; (case aP => exact rfl); (case aB => exact (hkS HB)); (case aF => exact (fun _ _ => trivial)); (case aO => exact (hkR HO_6)); (case aS => exact (below_size (hkS HB))); (case aL => have := LMc26.out; omega); intro v174 w27 ho hb hg hat; rw [← Ny173.out] at ho; have n_ := hkA (Aside0.mk (hb)) (Aside0.mk (ho)); clear HB HO_6; obtain ⟨HB, HO175⟩ := n_; clear ho hb hg hat))
              go_roundg k1
              case measure => have := HK1.out; omega
              case rel => exact ⟨(y173), (wrap64 (x23_1 + 1)), (by first | rfl | (simp; done) | (simp [*]; done)), H', ⟨by have := HK1.out; omega⟩, ⟨by (with_reducible repeat (first | apply Kd.R_alloc | apply Kd.R_drewN | apply Kd.R_drew)); exact HO175.out⟩, ⟨hkS HB⟩⟩
             ·rw [if_neg c26] at H
              exact absurd H (by simp)
            ·rw [if_neg c24] at H
             exact absurd H (by simp)
          ·rw [if_neg c14] at H
           exact absurd H (by simp)
         ·rw [if_neg c13] at H
          exact absurd H (by simp)
        ·rw [if_neg c12] at H
         have c12b0 : decide (x23_1 < (cutq.length : Int)) = false := decide_eq_false c12
         clear c12
         replace H := hBi H
         obtain ⟨t176, A280, H⟩ := H
         replace H : (some t176) = some r := H
         have A28 := Aside0.mk A280
         clear A280
         obtain rfl := Option.some.inj H
         obtain ⟨Ao29, co29, eo29⟩ := Kd.R_slice HO_6.out
         subst eo29
         go_wp2_with (first | ((with_reducible refine gate_callee (f := 109) rfl ?_); refine hkGo (N := some 51) Try.func109 #[.slice Ao29 x6_1.length co29] ?_; (with_reducible refine (impl_trim.calls k1 (fun k_ => some k_ = (.slice Ao29 x6_1.length co29 : Value).ownBlock) (.slice Ao29 x6_1.length co29) x6_1 t176 w _ ?side1 ?side2 A28.out).mono ?_); (case side1 => exact hkS HB); (case side2 => exact Kd.R_tight rfl HO_6.out); rintro e w30 ⟨v177, rfl, ho0, hb, hkp⟩; refine ⟨_, rfl, ?_⟩; have n_ := hkA (Aside0.mk (Kd.R_mono (ok' := fun k_ => True) ho0 (fun k_ hk_ => trivial))) (Aside0.mk (hb)); clear HB HO_6; obtain ⟨HO178, HB⟩ := n_; (try clear hb); (try clear hkp); (try clear ho0)))
         go_ret
         exact ⟨_, by first | rfl | (simp [errW_none, errW_some] <;> rfl) | (simp only [← hji4]; first | rfl | (simp [errW_none, errW_some] <;> rfl)) | (simp [*, errW_none, errW_some] <;> rfl), by (with_reducible repeat (first | apply Kd.R_alloc | apply Kd.R_drewN | apply Kd.R_drew)); exact HO178.out, hkS HB⟩
     ·rw [if_neg c8] at H
      exact absurd H (by simp)
    ·rw [if_neg c7] at H
     exact absurd H (by simp)
   ·rw [if_neg c6] at H
    exact absurd H (by simp)
  ·rw [if_neg c5] at H
   exact absurd H (by simp)

end Go.Proofs.Ytgjpahofopoflaa.PFnExactNatDiv
