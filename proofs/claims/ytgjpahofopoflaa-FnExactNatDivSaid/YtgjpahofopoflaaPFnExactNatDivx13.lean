-- Written by our own driver (wip/hand/hprint.py) over the seat's translation.
import Derived.Test.YtgjpahofopoflaaPFnExactNatDivx0
import Derived.Test.YtgjpahofopoflaaPFnExactNatDivx12
namespace Go.Proofs.Ytgjpahofopoflaa.PFnExactNatDiv
open Go.RowKit Go.Proofs.YtgjpahofopoflaaW.PrintWords Go.Proofs.YtgjpahofopoflaaW.PrintLast Go.Proofs.YtgjpahofopoflaaW.PrintMore
attribute [local go_sem] max2_int min2_int max_two min_two max_three min_three max_four min_four   -- for this text's walks alone
set_option linter.unusedVariables false
set_option linter.unusedSimpArgs false

/-! ### spec_l2mul: function 58 -/
mutual
def spec_l2mul.l0 : Nat → List Int → Int → List Int → List Int → Option (List Int)
 | 0, _, _, _, _ => none
 | k + 1, x5, x6, x258000, x259000 => if x6 < (x258000.length : Int) then (spec_l2mul.l1 k x5 x6 0 0 x258000 x259000) else ((spec_l2norm.f k x5).bind fun t263 => (some t263))
def spec_l2mul.l1 : Nat → List Int → Int → Int → Int → List Int → List Int → Option (List Int)
 | 0, _, _, _, _, _, _ => none
 | k + 1, x5, x6, x7, x8, x258000, x259000 => if x8 < (x259000.length : Int) then (if 0 ≤ (wrap64 (x6 + x8)) then (if (wrap64 (x6 + x8)) < (x5.length : Int) then (if 0 ≤ x6 then (if x6 < (x258000.length : Int) then (if 0 ≤ x8 then (spec_l2mul.l1 k (x5.set ((wrap64 (x6 + x8)) : Int).toNat (Int.tmod (wrap64 ((wrap64 ((rd x5 (wrap64 (x6 + x8))) + (wrap64 ((rd x258000 x6) * (rd x259000 x8))))) + x7)) 65536)) x6 (wrap64 (Int.tdiv (wrap64 ((wrap64 ((rd x5 (wrap64 (x6 + x8))) + (wrap64 ((rd x258000 x6) * (rd x259000 x8))))) + x7)) 65536)) (wrap64 (x8 + 1)) x258000 x259000) else (none)) else (none)) else (none)) else (none)) else (none)) else (if 0 ≤ (wrap64 (x6 + (x259000.length : Int))) then (if (wrap64 (x6 + (x259000.length : Int))) < (x5.length : Int) then (spec_l2mul.l0 k (x5.set ((wrap64 (x6 + (x259000.length : Int))) : Int).toNat (wrap64 ((rd x5 (wrap64 (x6 + (x259000.length : Int)))) + x7))) (wrap64 (x6 + 1)) x258000 x259000) else (none)) else (none))
end
def spec_l2mul.f (k : Nat) (l0_0 : List Int) (l1_0 : List Int) : Option (List Int) := if 0 ≤ (wrap64 ((l0_0.length : Int) + (l1_0.length : Int))) then (if (wrap64 ((l0_0.length : Int) + (l1_0.length : Int)) : Int).toNat ≤ 35184372088832 then (spec_l2mul.l0 k (List.replicate (wrap64 ((l0_0.length : Int) + (l1_0.length : Int)) : Int).toNat 0) 0 l0_0 l1_0) else (none)) else (none)
theorem spec_l2mul.mono_l : ∀ k, (∀ y0 y1 y2 y3, LeO (spec_l2mul.l0 k y0 y1 y2 y3) (spec_l2mul.l0 (k + 1) y0 y1 y2 y3)) ∧ (∀ y0 y1 y2 y3 y4 y5, LeO (spec_l2mul.l1 k y0 y1 y2 y3 y4 y5) (spec_l2mul.l1 (k + 1) y0 y1 y2 y3 y4 y5))
 | 0 => ⟨fun _ _ _ _ r h => by simp [spec_l2mul.l0] at h, fun _ _ _ _ _ _ r h => by simp [spec_l2mul.l1] at h⟩
 | k + 1 => by
  obtain ⟨ih0, ih1⟩ := spec_l2mul.mono_l k
  refine ⟨?_, ?_⟩
  ·intro y0 y1 y2 y3
   unfold spec_l2mul.l0
   repeat' first
   | (with_reducible exact ih0 _ _ _ _)
   | (with_reducible exact ih1 _ _ _ _ _ _)
   | (with_reducible exact spec_l2norm.mono _ _)
   | (with_reducible exact LeO.refl _)
   | (with_reducible exact LeO.none _)
   | (with_reducible refine LeO.ite ?_ ?_)
   | (with_reducible refine LeO.bind ?_ (fun _ => ?_))
   | exact ih0 _ _ _ _
   | exact ih1 _ _ _ _ _ _
   | exact spec_l2norm.mono _ _
   | exact LeO.none _
   | refine LeO.ite ?_ ?_
   | refine LeO.bind ?_ (fun _ => ?_)
  ·intro y0 y1 y2 y3 y4 y5
   unfold spec_l2mul.l1
   repeat' first
   | (with_reducible exact ih0 _ _ _ _)
   | (with_reducible exact ih1 _ _ _ _ _ _)
   | (with_reducible exact spec_l2norm.mono _ _)
   | (with_reducible exact LeO.refl _)
   | (with_reducible exact LeO.none _)
   | (with_reducible refine LeO.ite ?_ ?_)
   | (with_reducible refine LeO.bind ?_ (fun _ => ?_))
   | exact ih0 _ _ _ _
   | exact ih1 _ _ _ _ _ _
   | exact spec_l2norm.mono _ _
   | exact LeO.none _
   | refine LeO.ite ?_ ?_
   | refine LeO.bind ?_ (fun _ => ?_)
theorem spec_l2mul.mono : ∀ a0 a1 k, LeO (spec_l2mul.f k a0 a1) (spec_l2mul.f (k + 1) a0 a1) := by
 intro a0 a1 k
 obtain ⟨ih0, ih1⟩ := spec_l2mul.mono_l k
 unfold spec_l2mul.f
 repeat' first
   | (with_reducible exact ih0 _ _ _ _)
   | (with_reducible exact ih1 _ _ _ _ _ _)
   | (with_reducible exact spec_l2norm.mono _ _)
   | (with_reducible exact LeO.refl _)
   | (with_reducible exact LeO.none _)
   | (with_reducible refine LeO.ite ?_ ?_)
   | (with_reducible refine LeO.bind ?_ (fun _ => ?_))
   | exact ih0 _ _ _ _
   | exact ih1 _ _ _ _ _ _
   | exact spec_l2norm.mono _ _
   | exact LeO.none _
   | refine LeO.ite ?_ ?_
   | refine LeO.bind ?_ (fun _ => ?_)
def spec_l2mul.T9 : Bool × List (List Nat × List Nat) := (true, [([], []), ([], []), ([], []), ([1, 2], [1, 2]), ([0, 3], [0, 3]), ([4], [4]), ([], []), ([6], [6]), ([], []), ([7, 8], [7, 8]), ([9], [9]), ([], []), ([11], [11]), ([], []), ([12, 13], [12, 13]), ([14], [14]), ([10, 15], [10, 15]), ([5, 16], [5, 16]), ([], []), ([17, 18], [17, 18]), ([19, 0, 1, 2, 3, 4, 5, 6, 7, 8, 9, 10, 11, 12, 13, 14, 15, 16, 17, 18, 19], [19])])
def spec_l2mul.B9 : List Nat := [0, 0, 0, 6, 15, 31, 0, 64, 0, 448, 960, 0, 2048, 0, 14336, 30720, 65472, 131071, 0, 524287, 1048575]
theorem spec_l2mul.tab9 : rtab .any (opsOf Try.f58 9) = spec_l2mul.T9 := by kernel_rfl
theorem spec_l2mul.bits9 : waitsOk spec_l2mul.T9.2 spec_l2mul.B9 = true := by kernel_rfl
def spec_l2mul.T12 : Bool × List (List Nat × List Nat) := (true, [([], []), ([], []), ([], []), ([2], [2]), ([3], [3]), ([1, 4], [1, 4]), ([], []), ([], []), ([], []), ([8], [8]), ([9], [9]), ([7, 10], [7, 10]), ([6, 11], [6, 11]), ([12], [12]), ([], []), ([13, 14], [13, 14]), ([0, 5, 0, 1, 2, 3, 4, 5, 6, 7, 8, 9, 10, 11, 12, 13, 14, 15], [0, 5]), ([16, 15, 0, 1, 2, 3, 4, 5, 6, 7, 8, 9, 10, 11, 12, 13, 14, 15], [15, 16])])
def spec_l2mul.B12 : List Nat := [0, 0, 0, 4, 12, 30, 0, 0, 0, 256, 768, 1920, 4032, 8128, 0, 32704, 65535, 131071]
theorem spec_l2mul.tab12 : rtab .any (opsOf Try.f58 12) = spec_l2mul.T12 := by kernel_rfl
theorem spec_l2mul.bits12 : waitsOk spec_l2mul.T12.2 spec_l2mul.B12 = true := by kernel_rfl
set_option maxHeartbeats 8000000 in
set_option maxRecDepth 100000 in
theorem spec_l2mul.calls (k : Nat) (A0_0 : Option Addr) (c0_0 : Nat) (l0_0 : List Int) (A1_0 : Option Addr) (c1_0 : Nat) (l1_0 : List Int) (r : List Int) (w : World) (hr0_0 : Kd.C (Kd.int .i64) w A0_0 l0_0.length l0_0) (hc0_0 : l0_0.length ≤ c0_0) (hr1_0 : Kd.C (Kd.int .i64) w A1_0 l1_0.length l1_0) (hc1_0 : l1_0.length ≤ c1_0) (h : spec_l2mul.f k l0_0 l1_0 = some r) :
  Calls Try.prog 58 #[.agg #[.slice A0_0 l0_0.length c0_0], .agg #[.slice A1_0 l1_0.length c1_0]] w fun e w' => ∃ v0_ : Value, e = .returned (.agg #[v0_]) ∧ Kd.R (Kd.int .i64) 3 w' w.heap.size (fun _ => True) v0_ r ∧ Below w.heap.size w w' := by
 have hu38 := Try.underlying38
 have HR0_0 := Aside0.mk hr0_0
 have HC0_0 := Aside0.mk hc0_0
 clear hr0_0 hc0_0
 have HR1_0 := Aside0.mk hr1_0
 have HC1_0 := Aside0.mk hc1_0
 clear hr1_0 hc1_0
 have HB := Aside0.mk (Below.refl w.heap.size w)
 have H : (if 0 ≤ (wrap64 ((l0_0.length : Int) + (l1_0.length : Int))) then (if (wrap64 ((l0_0.length : Int) + (l1_0.length : Int)) : Int).toNat ≤ 35184372088832 then (spec_l2mul.l0 k (List.replicate (wrap64 ((l0_0.length : Int) + (l1_0.length : Int)) : Int).toNat 0) 0 l0_0 l1_0) else (none)) else (none)) = some r := h
 clear h
 obtain ⟨ji3, hji3⟩ : ∃ j_ : Int, (wrap64 ((l0_0.length : Int) + (l1_0.length : Int))) = j_ := ⟨_, rfl⟩
 replace H : (if 0 ≤ (ji3) then (if (ji3 : Int).toNat ≤ 35184372088832 then (spec_l2mul.l0 k (List.replicate (ji3 : Int).toNat 0) 0 l0_0 l1_0) else (none)) else (none)) = some r := by first | (rw [hji3] at H; exact H) | (simp only [hji3] at H ⊢; exact H)
 have hji3w : (IntKind.i64.wrap ((l0_0.length : Int) + (l1_0.length : Int))) = ji3 := (i64_w _).trans hji3
 by_cases c4 : 0 ≤ (ji3)
 ·rw [if_pos c4] at H
  have c4b0 := eq_true c4
  have c4b1 : decide (0 ≤ (ji3)) = true := decide_eq_true c4
  clear c4
  by_cases c5 : (ji3 : Int).toNat ≤ 35184372088832
  ·rw [if_pos c5] at H
   have c5b0 := eq_true c5
   have c5b1 : decide ((ji3 : Int).toNat ≤ 35184372088832) = true := decide_eq_true c5
   clear c5
   obtain ⟨y260, hy260⟩ : ∃ y_ : List Int, y_ = (List.replicate (ji3 : Int).toNat 0) := ⟨_, rfl⟩
   replace H : (spec_l2mul.l0 k y260 0 l0_0 l1_0) = some r := by first | (rw [hy260]; with_reducible exact H) | (have H2_ := (Option.bind_some _ _).symm.trans H; rw [hy260]; with_reducible exact H2_) | (have H2_ := (Option.bind_some _ _).symm.trans H; with_reducible exact H2_) | with_reducible exact H | (rw [hy260]; exact H) | exact H
   have Ny260 := Aside0.mk hy260
   clear hy260
   have H' := Aside0.mk H
   clear H
   go_enter Try.func58, Try.ntmps58
   go_wp2_with (first | ((with_reducible refine gate_dst (N := 2) rfl ?_); refine hkBox (N := 2) (cs := #[.slice A0_0 l0_0.length c0_0]) (t := 38) ?_; intro gb257 hg w6 hbox hb; have n_ := hkA (hkU HB hb) (hkA (Aside0.mk (hbox)) (hkA (hkG hg (hkS HB)) (hkG hg (hkS HB)))); clear HB; obtain ⟨HB, BK257, GW257, GE257⟩ := n_; clear hb hbox hg) | ((with_reducible refine gate_dst (N := 3) rfl ?_); refine hkBox (N := 3) (cs := #[.slice A1_0 l1_0.length c1_0]) (t := 38) ?_; intro gb258 hg w7 hbox hb; have n_ := hkA (hkBb BK257 hb) (hkA (hkU HB hb) (hkA (Aside0.mk (hbox)) (hkA (hkG hg (hkS HB)) (hkA (hkG hg (hkS HB)) (hkA (hkN hg BK257) (hkM hg BK257)))))); clear BK257 HB; obtain ⟨BK257, HB, BK258, GW258, GE258, NB257_258, NB258_257⟩ := n_; clear hb hbox hg) | ((with_reducible refine gate_dst (N := 4) rfl ?_); refine hkBox (N := 4) (cs := #[.slice none 0 0]) (t := 38) ?_; intro gb259 hg w8 hbox hb; have n_ := hkA (hkBb BK257 hb) (hkA (hkBb BK258 hb) (hkA (hkU HB hb) (hkA (Aside0.mk (hbox)) (hkA (hkG hg (hkS HB)) (hkA (hkG hg (hkS HB)) (hkA (hkN hg BK257) (hkA (hkM hg BK257) (hkA (hkN hg BK258) (hkM hg BK258))))))))); clear BK257 BK258 HB; obtain ⟨BK257, BK258, HB, BK259, GW259, GE259, NB257_259, NB259_257, NB258_259, NB259_258⟩ := n_; clear hb hbox hg; have hnb9 := NB257_258.out; have hnc9 := NB258_257.out; have hnb10 := NB257_259.out; have hnc10 := NB259_257.out; obtain ⟨hcz11_0, hfz11_0⟩ := hkc1 BK257; have hnb12 := NB258_259.out; have hnc12 := NB259_258.out; obtain ⟨hcz13_0, hfz13_0⟩ := hkc1 BK258) | ((with_reducible refine gate_dst (N := 17) rfl ?_); refine Kd.R_make (Kd.int .i64) _ 3 rfl (N := 17) rfl 29 _ _ rfl ji3 rfl rfl Try.underlying29 (.int .i64 0) 8 info3 rfl (by decide) (by omega) 0 (ok := fun _ => True) (okp := fun _ => True) rfl (fun _ hk => hk) trivial (of_decide_eq_true (by first | (with_reducible assumption) | assumption)) (Nat.le_trans (Nat.mul_le_mul_right _ (of_decide_eq_true (by first | (with_reducible assumption) | assumption) : ji3.toNat ≤ 35184372088832)) (by omega)) (Below.refl _ _) (Nat.le_refl _) ?_; intro v261 w14 ho15 hb hg_ hnew_; clear hg_ hnew_; (first | rw [← Ny260.out] at ho15 | (simp only [Int.reduceToNat] at ho15; rw [← Ny260.out] at ho15) | (simp only [Int.toNat_zero, List.replicate_zero] at ho15; rw [← Ny260.out] at ho15)); have n_ := hkA (Aside0.mk (Kd.R_lower ho15 (below_size (hkS HB)))) (hkA (hkBb BK257 hb) (hkA (hkBb BK258 hb) (hkA (hkBb BK259 hb) (hkU HB hb)))); clear BK257 BK258 BK259 HB; obtain ⟨HO262, BK257, BK258, BK259, HB⟩ := n_; clear hb ho15))
   go_loopg [6] k (fun kq v6 w' => ∃ (x5_1 : List Int) (x6_1 : Int), v6 = .int .i64 x6_1 ∧ Aside0 (spec_l2mul.l0 kq x5_1 x6_1 l0_0 l1_0 = some r) ∧ Aside0 (kq ≤ k) ∧ Aside0 (Kd.R (Kd.int .i64) 3 w' w.heap.size (fun _ => True) v261 x5_1) ∧ Aside0 (w'.heap[gb257]? = some (.cells #[(.slice A0_0 l0_0.length c0_0)] 38 (0, 0))) ∧ Aside0 (w'.heap[gb258]? = some (.cells #[(.slice A1_0 l1_0.length c1_0)] 38 (0, 0))) ∧ Aside0 (w'.heap[gb259]? = some (.cells #[(.slice none 0 0)] 38 (0, 0))) ∧ Aside0 (Below w.heap.size w w'))
   case atStart => exact ⟨(y260), (0), (by first | rfl | (simp; done) | (simp [*]; done)), H', ⟨Nat.le_refl _⟩, ⟨by (with_reducible repeat (first | apply Kd.R_alloc | apply Kd.R_drewN | apply Kd.R_drew)); exact HO262.out⟩, ⟨by refine hkz ?_; exact BK257.out⟩, ⟨by refine hkz ?_; exact BK258.out⟩, ⟨by refine hkz ?_; exact BK259.out⟩, ⟨hkS HB⟩⟩
   case round =>
    clear H'
    try clear c1
    try clear p2
    try clear c4
    try clear c4b0
    try clear c4b1
    try clear c5
    try clear c5b0
    try clear c5b1
    try clear p6
    try clear c9
    try clear c10
    try clear c12
    try clear hcz11_0 hcz13_0 hfz11_0 hfz13_0
    obtain ⟨x5_1, x6_1, rfl, HA, HK1, HO_5, BK257, BK258, BK259, HB⟩ := hrel
    cases gk with
    | zero => exact absurd HA.out (by simp [spec_l2mul.l0])
    | succ k1 =>
     have H := HA.out
     clear HA
     simp only [spec_l2mul.l0] at H
     by_cases c16 : x6_1 < (l0_0.length : Int)
     ·rw [if_pos c16] at H
      have c16b0 : decide (x6_1 < (l0_0.length : Int)) = true := decide_eq_true c16
      clear c16
      have H' := Aside0.mk H
      clear H
      have hnb17 := NB257_258.out
      have hnc17 := NB258_257.out
      have hnb18 := NB257_259.out
      have hnc18 := NB259_257.out
      obtain ⟨hcz19_0, hfz19_0⟩ := hkc1 BK257
      go_wp2
      go_loopg [7, 8] k1 (fun kq v7 v8 w' => ∃ (x5_2 : List Int) (x7_2 : Int) (x8_2 : Int), v7 = .int .i64 x7_2 ∧ v8 = .int .i64 x8_2 ∧ Aside0 (spec_l2mul.l1 kq x5_2 x6_1 x7_2 x8_2 l0_0 l1_0 = some r) ∧ Aside0 (kq ≤ k1) ∧ Aside0 (Kd.R (Kd.int .i64) 3 w' w.heap.size (fun _ => True) v261 x5_2) ∧ Aside0 (w'.heap[gb257]? = some (.cells #[(.slice A0_0 l0_0.length c0_0)] 38 (0, 0))) ∧ Aside0 (w'.heap[gb258]? = some (.cells #[(.slice A1_0 l1_0.length c1_0)] 38 (0, 0))) ∧ Aside0 (w'.heap[gb259]? = some (.cells #[(.slice none 0 0)] 38 (0, 0))) ∧ Aside0 (Below w.heap.size w w'))
      case atStart => exact ⟨(x5_1), (0), (0), (by first | rfl | (simp; done) | (simp [*]; done)), (by first | rfl | (simp; done) | (simp [*]; done)), H', ⟨Nat.le_refl _⟩, ⟨by (with_reducible repeat (first | apply Kd.R_alloc | apply Kd.R_drewN | apply Kd.R_drew)); exact HO_5.out⟩, ⟨by refine hkz ?_; exact BK257.out⟩, ⟨by refine hkz ?_; exact BK258.out⟩, ⟨by refine hkz ?_; exact BK259.out⟩, ⟨hkS HB⟩⟩
      case round =>
       clear H'
       try clear c1
       try clear p2
       try clear c4
       try clear c4b0
       try clear c4b1
       try clear c5
       try clear c5b0
       try clear c5b1
       try clear p6
       try clear c9
       try clear c10
       try clear c12
       try clear c16
       try clear c16b0
       try clear c17
       try clear c18
       try clear hcz11_0 hcz13_0 hcz19_0 hfz11_0 hfz13_0 hfz19_0
       try clear p2
       try clear p6
       obtain ⟨x5_2, x7_2, x8_2, rfl, rfl, HA, HK2, HO_5, BK257, BK258, BK259, HB⟩ := hrel
       cases gk with
       | zero => exact absurd HA.out (by simp [spec_l2mul.l1])
       | succ k2 =>
        have H := HA.out
        clear HA
        simp only [spec_l2mul.l1] at H
        by_cases c20 : x8_2 < (l1_0.length : Int)
        ·rw [if_pos c20] at H
         have c20b0 : decide (x8_2 < (l1_0.length : Int)) = true := decide_eq_true c20
         clear c20
         obtain ⟨ji21, hji21⟩ : ∃ j_ : Int, (wrap64 (x6_1 + x8_2)) = j_ := ⟨_, rfl⟩
         replace H : (if 0 ≤ (ji21) then (if (ji21) < (x5_2.length : Int) then (if 0 ≤ x6_1 then (if x6_1 < (l0_0.length : Int) then (if 0 ≤ x8_2 then (spec_l2mul.l1 k2 (x5_2.set ((ji21) : Int).toNat (Int.tmod (wrap64 ((wrap64 ((rd x5_2 (ji21)) + (wrap64 ((rd l0_0 x6_1) * (rd l1_0 x8_2))))) + x7_2)) 65536)) x6_1 (wrap64 (Int.tdiv (wrap64 ((wrap64 ((rd x5_2 (ji21)) + (wrap64 ((rd l0_0 x6_1) * (rd l1_0 x8_2))))) + x7_2)) 65536)) (wrap64 (x8_2 + 1)) l0_0 l1_0) else (none)) else (none)) else (none)) else (none)) else (none)) = some r := by first | (rw [hji21] at H; exact H) | (simp only [hji21] at H ⊢; exact H)
         have hji21w : (IntKind.i64.wrap (x6_1 + x8_2)) = ji21 := (i64_w _).trans hji21
         by_cases c22 : 0 ≤ (ji21)
         ·rw [if_pos c22] at H
          have c22b0 : decide (0 ≤ (ji21)) = true := decide_eq_true c22
          clear c22
          by_cases c23 : (ji21) < (x5_2.length : Int)
          ·rw [if_pos c23] at H
           have c23b0 : decide ((ji21) < (x5_2.length : Int)) = true := decide_eq_true c23
           clear c23
           by_cases c24 : 0 ≤ x6_1
           ·rw [if_pos c24] at H
            have c24b0 : decide (0 ≤ x6_1) = true := decide_eq_true c24
            clear c24
            by_cases c25 : x6_1 < (l0_0.length : Int)
            ·rw [if_pos c25] at H
             have c25b0 : decide (x6_1 < (l0_0.length : Int)) = true := decide_eq_true c25
             clear c25
             by_cases c26 : 0 ≤ x8_2
             ·rw [if_pos c26] at H
              have c26b0 : decide (0 ≤ x8_2) = true := decide_eq_true c26
              clear c26
              obtain ⟨y269, hy269⟩ : ∃ y_ : List Int, y_ = (x5_2.set ((ji21) : Int).toNat (Int.tmod (wrap64 ((wrap64 ((rd x5_2 (ji21)) + (wrap64 ((rd l0_0 x6_1) * (rd l1_0 x8_2))))) + x7_2)) 65536)) := ⟨_, rfl⟩
              replace H : (spec_l2mul.l1 k2 y269 x6_1 (wrap64 (Int.tdiv (wrap64 ((wrap64 ((rd x5_2 (ji21)) + (wrap64 ((rd l0_0 x6_1) * (rd l1_0 x8_2))))) + x7_2)) 65536)) (wrap64 (x8_2 + 1)) l0_0 l1_0) = some r := by first | (rw [hy269]; with_reducible exact H) | (have H2_ := (Option.bind_some _ _).symm.trans H; rw [hy269]; with_reducible exact H2_) | (have H2_ := (Option.bind_some _ _).symm.trans H; with_reducible exact H2_) | with_reducible exact H | (rw [hy269]; exact H) | exact H
              have Ny269 := Aside0.mk hy269
              clear hy269
              have H' := Aside0.mk H
              clear H
              have hnb28 := NB258_257.out
              have hnc28 := NB257_258.out
              have hnb29 := NB258_259.out
              have hnc29 := NB259_258.out
              obtain ⟨hcz30_0, hfz30_0⟩ := hkc1 BK258
              try go_wp2
              have n_ := hkA (Aside0.mk (Kd.R_drew HO_5.out)) (hkA (Aside0.mk (blk_drew BK257.out)) (hkA (Aside0.mk (blk_drew BK258.out)) (hkA (Aside0.mk (blk_drew BK259.out)) (Aside0.mk (below_drew1 HB.out)))))
              clear HO_5 BK257 BK258 BK259 HB
              obtain ⟨HO_5, BK257, BK258, BK259, HB⟩ := n_
              obtain ⟨Ao32, co32, eo32⟩ := Kd.R_slice HO_5.out
              (first | subst eo32 | (injection eo32 with f1_ f2_ f3_; have f4_ := f1_.symm; have f5_ := f3_.symm; clear f1_ f2_ f3_; subst f4_; subst f5_))
              have p266 : 0 ≤ ((ji21) : Int) := of_decide_eq_true (by first | (with_reducible assumption) | assumption)
              have q266 : (ji21) < (x5_2.length : Int) := of_decide_eq_true (by first | (with_reducible assumption) | assumption)
              obtain ⟨ad266, e266, hx266_0⟩ := Kd.at_int (Kd.R_reads' HO_5.out).2.2 (ji21) p266 q266
              cases e266
              replace p266 := eq_true p266
              replace q266 := eq_true q266
              have p267 : 0 ≤ (x6_1 : Int) := of_decide_eq_true (by first | (with_reducible assumption) | assumption)
              have q267 : x6_1 < (l0_0.length : Int) := of_decide_eq_true (by first | (with_reducible assumption) | assumption)
              obtain ⟨ad267, e267, hx267_0⟩ := Kd.at_int HR0_0.out x6_1 p267 q267
              have hw267_0 := hx267_0
              cases e267
              replace hx267_0 := (HB.out.cell (World.block_lt_of_cell? w _ hx267_0)).trans hx267_0
              replace p267 := eq_true p267
              replace q267 := eq_true q267
              have p268 : 0 ≤ (x8_2 : Int) := of_decide_eq_true (by first | (with_reducible assumption) | assumption)
              have q268 : x8_2 < (l1_0.length : Int) := of_decide_eq_true (by first | (with_reducible assumption) | assumption)
              obtain ⟨ad268, e268, hx268_0⟩ := Kd.at_int HR1_0.out x8_2 p268 q268
              have hw268_0 := hx268_0
              cases e268
              replace hx268_0 := (HB.out.cell (World.block_lt_of_cell? w _ hx268_0)).trans hx268_0
              replace p268 := eq_true p268
              replace q268 := eq_true q268
              refine start_ (n := 21) (S := fun w' => w'.cell? ⟨gb257, 0, none⟩ = some (.slice (some ad267) l0_0.length c0_0) ∧ w'.cell? ⟨gb258, 0, none⟩ = some (.slice (some ad268) l1_0.length c1_0) ∧ w'.cell? (ad266.add ((ji21)).toNat) = some (.int .i64 (rd x5_2 (ji21))) ∧ w'.cell? (ad267.add (x6_1).toNat) = some (.int .i64 (rd l0_0 x6_1)) ∧ w'.cell? (ad268.add (x8_2).toNat) = some (.int .i64 (rd l1_0 x8_2))) (ds := []) #[false, false, false, false, false, false, false, false, false, false, false, false, false, false, false, false, false, false, false, false, false] (by kernel_rfl) rfl rfl ⟨(blk_cell BK257.out 0).trans rfl, (blk_cell BK258.out 0).trans rfl, hx266_0, ((HB.out.cell (World.block_lt_of_cell? w _ hw267_0)).trans hw267_0), ((HB.out.cell (World.block_lt_of_cell? w _ hw268_0)).trans hw268_0)⟩ (fun hHeld => ?_); refine with_tabW spec_l2mul.tab9 spec_l2mul.bits9 (fun HT_ HW_ => ?_)
              generalize wr.drew = w31 at HO_5 BK257 BK258 BK259 HB hx266_0 hx267_0 hx268_0 hHeld ⊢
              refine hkPt (i := 0) (N := some 32) HT_ ?_
              refine hkPt (i := 1) (N := some 33) HT_ ?_
              refine hkPt (i := 2) (N := some 34) HT_ ?_
              refine hkPt (i := 3) (N := some 35) HT_ ?_
              refine hkPt (i := 4) (N := some 36) HT_ ?_
              refine hkPt (i := 6) (N := some 38) HT_ ?_
              refine hkPt (i := 8) (N := some 40) HT_ ?_
              refine hkPt (i := 11) (N := some 43) HT_ ?_
              refine hkPt (i := 13) (N := some 45) HT_ ?_
              refine hkPt (i := 18) (N := some 50) HT_ ?_
              refine hkTt (i := 5) (N := some 37) HT_ HW_ hHeld ?_ (hy := by rintro w' ⟨s0, s1, s2, s3, s4⟩; go_simp; with_reducible rfl)
              refine hkTt (i := 7) (N := some 39) HT_ HW_ hHeld ?_ (hy := by rintro w' ⟨s0, s1, s2, s3, s4⟩; go_simp; with_reducible rfl)
              refine hkPt (i := 9) (N := some 41) HT_ ?_
              refine hkTt (i := 10) (N := some 42) HT_ HW_ hHeld ?_ (hy := by rintro w' ⟨s0, s1, s2, s3, s4⟩; go_simp; with_reducible rfl)
              refine hkTt (i := 12) (N := some 44) HT_ HW_ hHeld ?_ (hy := by rintro w' ⟨s0, s1, s2, s3, s4⟩; go_simp; with_reducible rfl)
              refine hkPt (i := 14) (N := some 46) HT_ ?_
              refine hkTt (i := 15) (N := some 47) HT_ HW_ hHeld ?_ (hy := by rintro w' ⟨s0, s1, s2, s3, s4⟩; go_simp; with_reducible rfl)
              refine hkPt (i := 16) (N := some 48) HT_ ?_
              refine hkPt (i := 17) (N := some 49) HT_ ?_
              refine hkPt (i := 19) (N := some 51) HT_ ?_
              refine hkPt (i := 20) (N := some 9) HT_ ?_
              refine done_ (done_of HT_.out (by kernel_rfl)) ?_
              have p27 : 0 ≤ ((ji21) : Int) := of_decide_eq_true (by first | (with_reducible assumption) | assumption)
              have q27 : ((ji21) : Int) < ((x5_2.length : Int) : Int) := of_decide_eq_true (by first | (with_reducible assumption) | assumption)
              obtain ⟨go27, co27, eo27, gb27, gl27, cl27, HG27⟩ := Kd.R_form HO_5.out (by omega)
              (first | cases eo27 | (injection eo27 with ea_ en_ ec_; (first | subst ea_ | (injection ea_ with ea_; subst ea_)); subst ec_; clear en_))
              have GB27 := Aside0.mk gb27
              have GG27 := Aside0.mk HG27
              clear gb27 gl27 HG27
              (first | simp only [add_plain] at hx266_0 | skip)
              obtain ⟨hx27_0, hf27_0⟩ := Kd.R_celln 0 HO_5.out ((ji21) : Int) p27 q27
              replace p27 := eq_true p27
              replace q27 := eq_true q27
              obtain ⟨hy33_, hz33_⟩ := Kd.R_celln 0 HO_5.out ((ji21) : Int) (of_decide_eq_true (by first | (with_reducible assumption) | assumption)) (of_decide_eq_true (by first | (with_reducible assumption) | assumption))
              have HP33 := Kd.R_putg HO_5.out ((ji21) : Int) (Int.tmod (wrap64 ((wrap64 ((rd x5_2 (ji21)) + (wrap64 ((rd l0_0 x6_1) * (rd l1_0 x8_2))))) + x7_2)) 65536)
              try go_wp2_with (first | ((with_reducible refine gate_store (t := 3) (p := 58) rfl ?_); refine store_event (t := 3) (p := 58) (v := ?vo_w34) (w1 := (w31.setCell ⟨go27, ((ji21) : Int).toNat, none⟩ (.int .i64 (Int.tmod (wrap64 ((wrap64 ((rd x5_2 (ji21)) + (wrap64 ((rd l0_0 x6_1) * (rd l1_0 x8_2))))) + x7_2)) 65536)))) ?hg ?ho ?hn ?hr ?_; (case ho => rfl); (case hg => rfl); (case hn => rfl); (case hr => first | (go_simp; done) | (go_simp; rfl)); intro w34 hw; have hg : w31.grownBy w34 (some go27) := (by rw [hw]; exact HP33.2); have hp_ : Kd.R (Kd.int .i64) 3 w34 w.heap.size (fun _ => True) (.slice (some ⟨go27, 0, none⟩) x5_2.length co32) y269 := (by rw [hw, Ny269.out]; exact HP33.1); clear HP33; have n_ := hkA (Aside0.mk (hp_)) (hkA (Aside0.mk (blk_grown (g := gb257) (o := .cells #[.slice (some ad267) l0_0.length c0_0] 38 (0, 0)) (hkB BK257) hg (Kd.R_ne HO_5.out BK257.out (by decide)))) (hkA (Aside0.mk (blk_grown (g := gb258) (o := .cells #[.slice (some ad268) l1_0.length c1_0] 38 (0, 0)) (hkB BK258) hg (Kd.R_ne HO_5.out BK258.out (by decide)))) (hkA (Aside0.mk (blk_grown (g := gb259) (o := .cells #[.slice none 0 0] 38 (0, 0)) (hkB BK259) hg (Kd.R_ne HO_5.out BK259.out (by decide)))) (Aside0.mk ((by rw [hw]; exact below_set (HB.out) GB27.out : Below w.heap.size w w34)))))); clear HO_5 BK257 BK258 BK259 HB; obtain ⟨HO_5, BK257, BK258, BK259, HB⟩ := n_; clear hg hw hp_))
              go_roundg k2
              case measure => have := HK1.out; have := HK2.out; omega
              case rel => exact ⟨(y269), (wrap64 (Int.tdiv (wrap64 ((wrap64 ((rd x5_2 (ji21)) + (wrap64 ((rd l0_0 x6_1) * (rd l1_0 x8_2))))) + x7_2)) 65536)), (wrap64 (x8_2 + 1)), (by first | rfl | (simp; done) | (simp only [← hji21] <;> (first | rfl | simp)) | (simp [*]; done)), (by first | rfl | (simp; done) | (simp [*]; done)), H', ⟨by have := HK1.out; have := HK2.out; omega⟩, ⟨by (with_reducible repeat (first | apply Kd.R_alloc | apply Kd.R_drewN | apply Kd.R_drew)); exact HO_5.out⟩, ⟨by refine hkz ?_; exact BK257.out⟩, ⟨by refine hkz ?_; exact BK258.out⟩, ⟨by refine hkz ?_; exact BK259.out⟩, ⟨hkS HB⟩⟩
             ·rw [if_neg c26] at H
              exact absurd H (by simp)
            ·rw [if_neg c25] at H
             exact absurd H (by simp)
           ·rw [if_neg c24] at H
            exact absurd H (by simp)
          ·rw [if_neg c23] at H
           exact absurd H (by simp)
         ·rw [if_neg c22] at H
          exact absurd H (by simp)
        ·rw [if_neg c20] at H
         have c20b0 : decide (x8_2 < (l1_0.length : Int)) = false := decide_eq_false c20
         clear c20
         obtain ⟨ji35, hji35⟩ : ∃ j_ : Int, (wrap64 (x6_1 + (l1_0.length : Int))) = j_ := ⟨_, rfl⟩
         replace H : (if 0 ≤ (ji35) then (if (ji35) < (x5_2.length : Int) then (spec_l2mul.l0 k2 (x5_2.set ((ji35) : Int).toNat (wrap64 ((rd x5_2 (ji35)) + x7_2))) (wrap64 (x6_1 + 1)) l0_0 l1_0) else (none)) else (none)) = some r := by first | (rw [hji35] at H; exact H) | (simp only [hji35] at H ⊢; exact H)
         have hji35w : (IntKind.i64.wrap (x6_1 + (l1_0.length : Int))) = ji35 := (i64_w _).trans hji35
         by_cases c36 : 0 ≤ (ji35)
         ·rw [if_pos c36] at H
          have c36b0 : decide (0 ≤ (ji35)) = true := decide_eq_true c36
          clear c36
          by_cases c37 : (ji35) < (x5_2.length : Int)
          ·rw [if_pos c37] at H
           have c37b0 : decide ((ji35) < (x5_2.length : Int)) = true := decide_eq_true c37
           clear c37
           obtain ⟨y271, hy271⟩ : ∃ y_ : List Int, y_ = (x5_2.set ((ji35) : Int).toNat (wrap64 ((rd x5_2 (ji35)) + x7_2))) := ⟨_, rfl⟩
           replace H : (spec_l2mul.l0 k2 y271 (wrap64 (x6_1 + 1)) l0_0 l1_0) = some r := by first | (rw [hy271]; with_reducible exact H) | (have H2_ := (Option.bind_some _ _).symm.trans H; rw [hy271]; with_reducible exact H2_) | (have H2_ := (Option.bind_some _ _).symm.trans H; with_reducible exact H2_) | with_reducible exact H | (rw [hy271]; exact H) | exact H
           have Ny271 := Aside0.mk hy271
           clear hy271
           have H' := Aside0.mk H
           clear H
           have hnb39 := NB258_257.out
           have hnc39 := NB257_258.out
           have hnb40 := NB258_259.out
           have hnc40 := NB259_258.out
           obtain ⟨hcz41_0, hfz41_0⟩ := hkc1 BK258
           try go_wp2
           have n_ := hkA (Aside0.mk (Kd.R_drew HO_5.out)) (hkA (Aside0.mk (blk_drew BK257.out)) (hkA (Aside0.mk (blk_drew BK258.out)) (hkA (Aside0.mk (blk_drew BK259.out)) (Aside0.mk (below_drew1 HB.out)))))
           clear HO_5 BK257 BK258 BK259 HB
           obtain ⟨HO_5, BK257, BK258, BK259, HB⟩ := n_
           obtain ⟨Ao43, co43, eo43⟩ := Kd.R_slice HO_5.out
           (first | subst eo43 | (injection eo43 with f1_ f2_ f3_; have f4_ := f1_.symm; have f5_ := f3_.symm; clear f1_ f2_ f3_; subst f4_; subst f5_))
           have p270 : 0 ≤ ((ji35) : Int) := of_decide_eq_true (by first | (with_reducible assumption) | assumption)
           have q270 : (ji35) < (x5_2.length : Int) := of_decide_eq_true (by first | (with_reducible assumption) | assumption)
           obtain ⟨ad270, e270, hx270_0⟩ := Kd.at_int (Kd.R_reads' HO_5.out).2.2 (ji35) p270 q270
           cases e270
           replace p270 := eq_true p270
           replace q270 := eq_true q270
           have p38 : 0 ≤ ((ji35) : Int) := of_decide_eq_true (by first | (with_reducible assumption) | assumption)
           have q38 : ((ji35) : Int) < ((x5_2.length : Int) : Int) := of_decide_eq_true (by first | (with_reducible assumption) | assumption)
           obtain ⟨go38, co38, eo38, gb38, gl38, cl38, HG38⟩ := Kd.R_form HO_5.out (by omega)
           (first | cases eo38 | (injection eo38 with ea_ en_ ec_; (first | subst ea_ | (injection ea_ with ea_; subst ea_)); subst ec_; clear en_))
           have GB38 := Aside0.mk gb38
           have GG38 := Aside0.mk HG38
           clear gb38 gl38 HG38
           (first | simp only [add_plain] at hx270_0 | skip)
           obtain ⟨hx38_0, hf38_0⟩ := Kd.R_celln 0 HO_5.out ((ji35) : Int) p38 q38
           replace p38 := eq_true p38
           replace q38 := eq_true q38
           have HP44 := Kd.R_putn HO_5.out ((ji35) : Int) (wrap64 ((rd x5_2 (ji35)) + x7_2))
           rw [← Ny271.out] at HP44
           have HQ44 := Aside0.mk HP44
           clear HP44
           refine start_ (n := 18) (S := fun w' => w'.cell? ⟨gb258, 0, none⟩ = some (.slice A1_0 l1_0.length c1_0) ∧ w'.cell? ⟨go38, ((ji35)).toNat, none⟩ = some (.int .i64 (rd x5_2 (ji35)))) (ds := [17]) #[false, false, false, false, false, false, false, false, false, false, false, false, false, false, false, false, false, false] (by kernel_rfl) rfl rfl ⟨(blk_cell BK258.out 0).trans rfl, hx270_0⟩ (fun hHeld => ?_); refine with_tabW spec_l2mul.tab12 spec_l2mul.bits12 (fun HT_ HW_ => ?_)
           generalize wr.drew = w42 at HO_5 BK257 BK258 BK259 HB GG38 HQ44 hf38_0 hx270_0 hx38_0 hHeld ⊢
           refine hkPt (i := 0) (N := some 61) HT_ ?_
           refine hkPt (i := 1) (N := some 62) HT_ ?_
           refine hkPt (i := 2) (N := some 63) HT_ ?_
           refine hkPt (i := 6) (N := some 67) HT_ ?_
           refine hkPt (i := 7) (N := some 68) HT_ ?_
           refine hkPt (i := 8) (N := some 69) HT_ ?_
           refine hkPt (i := 14) (N := some 75) HT_ ?_
           refine hkTt (i := 3) (N := some 64) HT_ HW_ hHeld ?_ (hy := by rintro w' ⟨s0, s1⟩; go_simp; with_reducible rfl)
           refine hkPt (i := 4) (N := some 65) HT_ ?_
           refine hkPt (i := 5) (N := some 66) HT_ ?_
           refine hkTt (i := 9) (N := some 70) HT_ HW_ hHeld ?_ (hy := by rintro w' ⟨s0, s1⟩; go_simp; with_reducible rfl)
           refine hkPt (i := 10) (N := some 71) HT_ ?_
           refine hkPt (i := 11) (N := some 72) HT_ ?_
           refine hkPt (i := 12) (N := some 73) HT_ ?_
           refine hkTt (i := 13) (N := some 74) HT_ HW_ hHeld ?_ (hy := by rintro w' ⟨s0, s1⟩; go_simp; with_reducible rfl)
           refine hkPt (i := 15) (N := some 76) HT_ ?_
           refine hkPt (i := 16) (N := some 77) HT_ ?_
           refine last_ (i := 17) (N := none) #[true, true, true, true, true, true, true, true, true, true, true, true, true, true, true, true, true, true] rfl rfl (one_of HT_.out (by kernel_rfl)) (by decide) (fun K hK => ?_)
           refine skip_ (w1 := ?_) (by rfl) rfl ?_ ?_
           rotate_left
           ·go_simp
            rfl
           refine hK.out _ _ ?_
           clear hK K
           refine done_ (done_of HT_.out (by kernel_rfl)) ?_
           try go_wp2
           go_roundg k2
           case measure => have := HK1.out; have := HK2.out; omega
           case rel => exact ⟨(y271), (wrap64 (x6_1 + 1)), (by first | rfl | (simp; done) | (simp [*]; done)), H', ⟨by have := HK1.out; have := HK2.out; omega⟩, ⟨by (with_reducible repeat (first | apply Kd.R_alloc | apply Kd.R_drewN | apply Kd.R_drew)); exact HQ44.out⟩, ⟨by refine hkz ?_; refine blk_far ?_ (by have h_ := Kd.R_ne HO_5.out BK257.out (by decide); intro e_; exact h_ (by rw [e_]; rfl)) _; refine hkz ?_; exact BK257.out⟩, ⟨by refine hkz ?_; refine blk_far ?_ (by have h_ := Kd.R_ne HO_5.out BK258.out (by decide); intro e_; exact h_ (by rw [e_]; rfl)) _; refine hkz ?_; exact BK258.out⟩, ⟨by refine hkz ?_; refine blk_far ?_ (by have h_ := Kd.R_ne HO_5.out BK259.out (by decide); intro e_; exact h_ (by rw [e_]; rfl)) _; refine hkz ?_; exact BK259.out⟩, ⟨by repeat (first | (with_reducible first | exact HB.out | apply below_alloc | apply pw_below_drewN | apply below_drew1 | refine below_set ?_ GB38.out | refine below_set ?_ GE257.out | refine below_set ?_ GE258.out | refine below_set ?_ GE259.out) | exact HB.out)⟩⟩
          ·rw [if_neg c37] at H
           exact absurd H (by simp)
         ·rw [if_neg c36] at H
          exact absurd H (by simp)
     ·rw [if_neg c16] at H
      have c16b0 : decide (x6_1 < (l0_0.length : Int)) = false := decide_eq_false c16
      clear c16
      replace H := hBi H
      obtain ⟨t263, A450, H⟩ := H
      replace H : (some t263) = some r := H
      have A45 := Aside0.mk A450
      clear A450
      obtain rfl := Option.some.inj H
      have hnb46 := NB257_258.out
      have hnc46 := NB258_257.out
      have hnb47 := NB257_259.out
      have hnc47 := NB259_257.out
      obtain ⟨hcz48_0, hfz48_0⟩ := hkc1 BK257
      obtain ⟨Ao49, co49, eo49⟩ := Kd.R_slice HO_5.out
      subst eo49
      go_wp2_with (first | ((with_reducible refine gate_callee (f := 99) rfl ?_); refine hkGo (N := some 79) Try.func99 #[.slice Ao49 x5_1.length co49] ?_; (with_reducible refine (spec_l2norm.calls k1 _ _ x5_1 t263 _ ?side1 ?side2 A45.out).mono ?_); (case side1 => exact hkC ((Kd.R_reads' HO_5.out).2.2)); (case side2 => exact (Kd.R_reads' HO_5.out).2.1); rintro e w50 ⟨v264, rfl, ho0, hb⟩; refine ⟨_, rfl, ?_⟩; have n_ := hkA (Aside0.mk (Kd.R_elder' (hkR HO_5) (Kd.R_base ho0) hb)) (hkA (Aside0.mk (Kd.R_lower (Kd.R_new' ho0 (Kd.R_lt (hkR HO_5))) (below_size (hkS HB)))) (hkA (hkBb BK257 hb) (hkA (hkBb BK258 hb) (hkA (hkBb BK259 hb) (hkU HB hb))))); clear HO_5 BK257 BK258 BK259 HB; obtain ⟨HO_5, HO265, BK257, BK258, BK259, HB⟩ := n_; (try clear hb); (try clear ho0); obtain ⟨Ao51, co51, eo51⟩ := Kd.R_slice HO265.out; subst eo51; have hnb52 := NB259_258.out; have hnc52 := NB258_259.out; obtain ⟨hcz53_0, hfz53_0⟩ := hkc1 BK259))
      refine bodyPost_ret (results_cell_row rfl _ _ gb259 38 #[.slice Ao51 t263.length co51] (0, 0) _ rfl hkPp Try.underlying38 rfl (by kernel_rfl)) rfl ?_
      exact ⟨_, by first | rfl | (simp [errW_none, errW_some] <;> rfl) | (simp only [← hji3]; first | rfl | (simp [errW_none, errW_some] <;> rfl)) | (simp [*, errW_none, errW_some] <;> rfl), by (with_reducible repeat (first | apply Kd.R_alloc | apply Kd.R_drewN | apply Kd.R_drew)); exact Kd.R_mono (Kd.R_far (p := ⟨gb259, 0, none⟩) (Kd.R_types HO265.out BK259.out (by decide)) (fun _ hk => hk.2) (.slice Ao51 t263.length co51)) (fun _ hk => trivial), hkS HB⟩
  ·rw [if_neg c5] at H
   exact absurd H (by simp)
 ·rw [if_neg c4] at H
  exact absurd H (by simp)

end Go.Proofs.Ytgjpahofopoflaa.PFnExactNatDiv
