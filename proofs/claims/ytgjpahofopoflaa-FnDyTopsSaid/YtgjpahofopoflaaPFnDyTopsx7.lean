-- Written by our own driver (wip/hand/hprint.py) over the seat's translation.
import Derived.Test.YtgjpahofopoflaaPFnDyTopsx0
import Derived.Test.YtgjpahofopoflaaPFnDyTopsx1
namespace Go.Proofs.Ytgjpahofopoflaa.PFnDyTops
open Go.RowKit Go.Proofs.YtgjpahofopoflaaW.PrintWords Go.Proofs.YtgjpahofopoflaaW.PrintLast Go.Proofs.YtgjpahofopoflaaW.PrintMore
attribute [local go_sem] max2_int min2_int max_two min_two max_three min_three max_four min_four   -- for this text's walks alone
set_option linter.unusedVariables false
set_option linter.unusedSimpArgs false

/-! ### spec_l2trail: function 128 -/
def spec_l2trail.l0 : Nat → Int → List Int → Option (Int)
 | 0, _, _ => none
 | k + 1, x3, x243000 => if x3 < (wrap64 (16 * (x243000.length : Int))) then ((spec_l2bit.f x243000 x3).bind fun t243 => (if t243 = 1 then (some x3) else (spec_l2trail.l0 k (wrap64 (x3 + 1)) x243000))) else (some 0)
def spec_l2trail.f (k : Nat) (l0_0 : List Int) : Option (Int) := spec_l2trail.l0 k 0 l0_0
theorem spec_l2trail.mono_l : ∀ k, (∀ y0 y1, LeO (spec_l2trail.l0 k y0 y1) (spec_l2trail.l0 (k + 1) y0 y1))
 | 0 => fun _ _ r h => by simp [spec_l2trail.l0] at h
 | k + 1 => by
  have ih0 := spec_l2trail.mono_l k
  ·intro y0 y1
   unfold spec_l2trail.l0
   repeat' first
   | (with_reducible exact ih0 _ _)
   | (with_reducible exact LeO.refl _)
   | (with_reducible exact LeO.none _)
   | (with_reducible refine LeO.ite ?_ ?_)
   | (with_reducible refine LeO.bind ?_ (fun _ => ?_))
   | exact ih0 _ _
   | exact LeO.none _
   | refine LeO.ite ?_ ?_
   | refine LeO.bind ?_ (fun _ => ?_)
theorem spec_l2trail.mono : ∀ a0 k, LeO (spec_l2trail.f k a0) (spec_l2trail.f (k + 1) a0) := by
 intro a0 k
 have ih0 := spec_l2trail.mono_l k
 unfold spec_l2trail.f
 repeat' first
   | (with_reducible exact ih0 _ _)
   | (with_reducible exact LeO.refl _)
   | (with_reducible exact LeO.none _)
   | (with_reducible refine LeO.ite ?_ ?_)
   | (with_reducible refine LeO.bind ?_ (fun _ => ?_))
   | exact ih0 _ _
   | exact LeO.none _
   | refine LeO.ite ?_ ?_
   | refine LeO.bind ?_ (fun _ => ?_)
set_option maxHeartbeats 8000000 in
set_option maxRecDepth 100000 in
theorem spec_l2trail.calls (k : Nat) (A0_0 : Option Addr) (c0_0 : Nat) (l0_0 : List Int) (r : Int) (w : World) (hr0_0 : Kd.C (Kd.int .i64) w A0_0 l0_0.length l0_0) (hc0_0 : l0_0.length ≤ c0_0) (h : spec_l2trail.f k l0_0 = some r) :
  Calls Try.prog 128 #[.agg #[.slice A0_0 l0_0.length c0_0]] w fun e w' => e = .returned (.int .i64 r) ∧ Below w.heap.size w w' := by
 have hu38 := Try.underlying38
 have HR0_0 := Aside0.mk hr0_0
 have HC0_0 := Aside0.mk hc0_0
 clear hr0_0 hc0_0
 have HB := Aside0.mk (Below.refl w.heap.size w)
 have H : (spec_l2trail.l0 k 0 l0_0) = some r := h
 clear h
 have H' := Aside0.mk H
 clear H
 go_enter Try.func128, Try.ntmps128
 go_wp2_with (first | ((with_reducible refine gate_dst (N := 1) rfl ?_); refine box_event ?hg (N := 1) ?hd (cs := #[.slice A0_0 l0_0.length c0_0]) (t := 38) ?hr ?_; (case hd => rfl); (case hg => rfl); (case hr => first | (go_simp; done) | (go_simp; rfl)); intro gb242 hg w2 hbox hb; have n0_ := hkU HB hb; have n1_ := Aside0.mk (hbox); have n2_ := hkG hg (hkS HB); have n3_ := hkG hg (hkS HB); clear HB; have HB := n0_; have BK242 := n1_; have GW242 := n2_; have GE242 := n3_; clear n0_ n1_ n2_ n3_; clear hb hbox hg))
 go_loopg [3] k (fun kq v3 w' => ∃ (x3_1 : Int), v3 = .int .i64 x3_1 ∧ Aside0 (spec_l2trail.l0 kq x3_1 l0_0 = some r) ∧ Aside0 (kq ≤ k) ∧ Aside0 (w'.heap[gb242]? = some (.cells #[(.slice A0_0 l0_0.length c0_0)] 38 (0, 0))) ∧ Aside0 (Below w.heap.size w w'))
 case atStart => exact ⟨(0), (by first | rfl | (simp; done) | (simp [*]; done)), H', ⟨Nat.le_refl _⟩, ⟨by refine hkz ?_; exact BK242.out⟩, ⟨hkS HB⟩⟩
 case round =>
  clear H'
  try clear c1
  try clear p2
  obtain ⟨x3_1, rfl, HA, HK1, BK242, HB⟩ := hrel
  cases gk with
  | zero => exact absurd HA.out (by simp [spec_l2trail.l0])
  | succ k1 =>
   have H := HA.out
   clear HA
   simp only [spec_l2trail.l0] at H
   by_cases c3 : x3_1 < (wrap64 (16 * (l0_0.length : Int)))
   ·rw [if_pos c3] at H
    have c3b0 : decide (x3_1 < (wrap64 (16 * (l0_0.length : Int)))) = true := decide_eq_true c3
    clear c3
    replace H := Option.bind_eq_some_iff.mp H
    obtain ⟨t243, A40, H⟩ := H
    replace H : (if t243 = 1 then (some x3_1) else (spec_l2trail.l0 k1 (wrap64 (x3_1 + 1)) l0_0)) = some r := H
    have A4 := Aside0.mk A40
    clear A40
    by_cases c5 : t243 = 1
    ·rw [if_pos c5] at H
     have c5b0 : (t243 == 1) = true := beq_iff_eq.mpr c5
     have c5b1 : (t243 != 1) = false := bne_eq_false_iff_eq.mpr c5
     clear c5
     obtain rfl := Option.some.inj H
     have hcz6_0 : wr.cell? ⟨gb242, 0, none⟩ = some (.slice A0_0 l0_0.length c0_0) := (blk_cell BK242.out 0).trans rfl
     have hfz6_0 := blk_frozen BK242.out 0
     go_wp2_with (first | ((with_reducible refine gate_callee (f := 73) rfl ?_); refine goesL_ (some 14) rfl rfl Try.func73 (by kernel_rfl) rfl #[.agg #[.slice A0_0 l0_0.length c0_0], .int .i64 x3_1] rfl hkL ?_; (with_reducible refine (spec_l2bit.calls _ _ l0_0 x3_1 t243 _ ?side1 ?side2 A4.out).mono ?_); (case side1 => exact hkC ((Kd.C_below HR0_0.out HB.out))); (case side2 => exact HC0_0.out); rintro e w7 ⟨rfl, hb⟩; refine ⟨_, rfl, ?_⟩; have n0_ := hkBb BK242 hb; have n1_ := hkU HB hb; clear BK242; clear HB; have BK242 := n0_; have HB := n1_; clear n0_ n1_; (try clear hb); (try clear hb2); (try clear hk); (try clear hi)))
     go_ret
     exact ⟨hkE, hkS HB⟩
    ·rw [if_neg c5] at H
     have c5b0 : (t243 == 1) = false := beq_eq_false_iff_ne.mpr c5
     have c5b1 : (t243 != 1) = true := bne_iff_ne.mpr c5
     have H' := Aside0.mk H
     clear H
     have hcz8_0 : wr.cell? ⟨gb242, 0, none⟩ = some (.slice A0_0 l0_0.length c0_0) := (blk_cell BK242.out 0).trans rfl
     have hfz8_0 := blk_frozen BK242.out 0
     go_wp2_with (first | ((with_reducible refine gate_callee (f := 73) rfl ?_); refine goesL_ (some 14) rfl rfl Try.func73 (by kernel_rfl) rfl #[.agg #[.slice A0_0 l0_0.length c0_0], .int .i64 x3_1] rfl hkL ?_; (with_reducible refine (spec_l2bit.calls _ _ l0_0 x3_1 t243 _ ?side1 ?side2 A4.out).mono ?_); (case side1 => exact hkC ((Kd.C_below HR0_0.out HB.out))); (case side2 => exact HC0_0.out); rintro e w9 ⟨rfl, hb⟩; refine ⟨_, rfl, ?_⟩; have n0_ := hkBb BK242 hb; have n1_ := hkU HB hb; clear BK242; clear HB; have BK242 := n0_; have HB := n1_; clear n0_ n1_; (try clear hb); (try clear hb2); (try clear hk); (try clear hi)))
     go_roundg k1
     case measure => have := HK1.out; omega
     case rel => exact ⟨(wrap64 (x3_1 + 1)), (by first | rfl | (simp; done) | (simp [*]; done)), H', ⟨by have := HK1.out; omega⟩, ⟨by refine hkz ?_; exact BK242.out⟩, ⟨hkS HB⟩⟩
   ·rw [if_neg c3] at H
    have c3b0 : decide (x3_1 < (wrap64 (16 * (l0_0.length : Int)))) = false := decide_eq_false c3
    clear c3
    obtain rfl := Option.some.inj H
    have hcz10_0 : wr.cell? ⟨gb242, 0, none⟩ = some (.slice A0_0 l0_0.length c0_0) := (blk_cell BK242.out 0).trans rfl
    have hfz10_0 := blk_frozen BK242.out 0
    go_wp2
    go_ret
    exact ⟨hkE, hkS HB⟩

/-! ### spec_l2small: function 111 -/
def spec_l2small.l0 : Nat → Int → List Int → Int → Int → List Int → Option (List Int × Int)
 | 0, _, _, _, _, _ => none
 | k + 1, x1, x6, x7, x8, x245000 => if x8 ≥ 0 then (if 0 ≤ x8 then (if x8 < (x245000.length : Int) then (if x1 = 0 then (none) else (if x8 < (x6.length : Int) then (spec_l2small.l0 k x1 (x6.set (x8 : Int).toNat (wrap64 (Int.tdiv (wrap64 ((wrap64 (x7 * 65536)) + (rd x245000 x8))) x1))) (Int.tmod (wrap64 ((wrap64 (x7 * 65536)) + (rd x245000 x8))) x1) (wrap64 (x8 - 1)) x245000) else (none))) else (none)) else (none)) else ((spec_l2norm.f k x6).bind fun t251 => (some (t251, x7)))
def spec_l2small.f (k : Nat) (l0_0 : List Int) (a1 : Int) : Option (List Int × Int) := if 0 ≤ (l0_0.length : Int) then (if ((l0_0.length : Int) : Int).toNat ≤ 35184372088832 then (spec_l2small.l0 k a1 (List.replicate ((l0_0.length : Int) : Int).toNat 0) 0 (wrap64 ((l0_0.length : Int) - 1)) l0_0) else (none)) else (none)
theorem spec_l2small.mono_l : ∀ k, (∀ y0 y1 y2 y3 y4, LeO (spec_l2small.l0 k y0 y1 y2 y3 y4) (spec_l2small.l0 (k + 1) y0 y1 y2 y3 y4))
 | 0 => fun _ _ _ _ _ r h => by simp [spec_l2small.l0] at h
 | k + 1 => by
  have ih0 := spec_l2small.mono_l k
  ·intro y0 y1 y2 y3 y4
   unfold spec_l2small.l0
   repeat' first
   | (with_reducible exact ih0 _ _ _ _ _)
   | (with_reducible exact spec_l2norm.mono _ _)
   | (with_reducible exact LeO.refl _)
   | (with_reducible exact LeO.none _)
   | (with_reducible refine LeO.ite ?_ ?_)
   | (with_reducible refine LeO.bind ?_ (fun _ => ?_))
   | exact ih0 _ _ _ _ _
   | exact spec_l2norm.mono _ _
   | exact LeO.none _
   | refine LeO.ite ?_ ?_
   | refine LeO.bind ?_ (fun _ => ?_)
theorem spec_l2small.mono : ∀ a0 a1 k, LeO (spec_l2small.f k a0 a1) (spec_l2small.f (k + 1) a0 a1) := by
 intro a0 a1 k
 have ih0 := spec_l2small.mono_l k
 unfold spec_l2small.f
 repeat' first
   | (with_reducible exact ih0 _ _ _ _ _)
   | (with_reducible exact spec_l2norm.mono _ _)
   | (with_reducible exact LeO.refl _)
   | (with_reducible exact LeO.none _)
   | (with_reducible refine LeO.ite ?_ ?_)
   | (with_reducible refine LeO.bind ?_ (fun _ => ?_))
   | exact ih0 _ _ _ _ _
   | exact spec_l2norm.mono _ _
   | exact LeO.none _
   | refine LeO.ite ?_ ?_
   | refine LeO.bind ?_ (fun _ => ?_)
set_option maxHeartbeats 8000000 in
set_option maxRecDepth 100000 in
theorem spec_l2small.calls (k : Nat) (A0_0 : Option Addr) (c0_0 : Nat) (l0_0 : List Int) (a1 : Int) (r1 : List Int) (r2 : Int) (w : World) (hr0_0 : Kd.C (Kd.int .i64) w A0_0 l0_0.length l0_0) (hc0_0 : l0_0.length ≤ c0_0) (h : spec_l2small.f k l0_0 a1 = some (r1, r2)) :
  Calls Try.prog 111 #[.agg #[.slice A0_0 l0_0.length c0_0], .int .i64 a1] w fun e w' => ∃ v0_ : Value, e = .returned (.tuple #[.agg #[v0_], .int .i64 r2]) ∧ Kd.R (Kd.int .i64) 3 w' w.heap.size (fun _ => True) v0_ r1 ∧ Below w.heap.size w w' := by
 have hu38 := Try.underlying38
 have HR0_0 := Aside0.mk hr0_0
 have HC0_0 := Aside0.mk hc0_0
 clear hr0_0 hc0_0
 have HB := Aside0.mk (Below.refl w.heap.size w)
 have H : (if 0 ≤ (l0_0.length : Int) then (if ((l0_0.length : Int) : Int).toNat ≤ 35184372088832 then (spec_l2small.l0 k a1 (List.replicate ((l0_0.length : Int) : Int).toNat 0) 0 (wrap64 ((l0_0.length : Int) - 1)) l0_0) else (none)) else (none)) = some (r1, r2) := h
 clear h
 by_cases c3 : 0 ≤ (l0_0.length : Int)
 ·rw [if_pos c3] at H
  have c3b0 := eq_true c3
  have c3b1 : decide (0 ≤ (l0_0.length : Int)) = true := decide_eq_true c3
  clear c3
  by_cases c4 : ((l0_0.length : Int) : Int).toNat ≤ 35184372088832
  ·rw [if_pos c4] at H
   have c4b0 := eq_true c4
   have c4b1 : decide (((l0_0.length : Int) : Int).toNat ≤ 35184372088832) = true := decide_eq_true c4
   clear c4
   obtain ⟨y246, hy246⟩ : ∃ y_ : List Int, y_ = (List.replicate ((l0_0.length : Int) : Int).toNat 0) := ⟨_, rfl⟩
   replace H : (spec_l2small.l0 k a1 y246 0 (wrap64 ((l0_0.length : Int) - 1)) l0_0) = some (r1, r2) := by first | (rw [hy246]; with_reducible exact H) | (have H2_ := (Option.bind_some _ _).symm.trans H; rw [hy246]; with_reducible exact H2_) | (have H2_ := (Option.bind_some _ _).symm.trans H; with_reducible exact H2_) | with_reducible exact H | (rw [hy246]; exact H) | exact H
   have Ny246 := Aside0.mk hy246
   clear hy246
   have H' := Aside0.mk H
   clear H
   go_enter Try.func111, Try.ntmps111
   go_wp2_with (first | ((with_reducible refine gate_dst (N := 2) rfl ?_); refine box_event ?hg (N := 2) ?hd (cs := #[.slice A0_0 l0_0.length c0_0]) (t := 38) ?hr ?_; (case hd => rfl); (case hg => rfl); (case hr => first | (go_simp; done) | (go_simp; rfl)); intro gb244 hg w5 hbox hb; have n0_ := hkU HB hb; have n1_ := Aside0.mk (hbox); have n2_ := hkG hg (hkS HB); have n3_ := hkG hg (hkS HB); clear HB; have HB := n0_; have BK244 := n1_; have GW244 := n2_; have GE244 := n3_; clear n0_ n1_ n2_ n3_; clear hb hbox hg) | ((with_reducible refine gate_dst (N := 4) rfl ?_); refine box_event ?hg (N := 4) ?hd (cs := #[.slice none 0 0]) (t := 38) ?hr ?_; (case hd => rfl); (case hg => rfl); (case hr => first | (go_simp; done) | (go_simp; rfl)); intro gb245 hg w6 hbox hb; have n0_ := hkBb BK244 hb; have n1_ := hkU HB hb; have n2_ := Aside0.mk (hbox); have n3_ := hkG hg (hkS HB); have n4_ := hkG hg (hkS HB); have n5_ := hkN hg BK244; have n6_ := hkM hg BK244; clear BK244; clear HB; have BK244 := n0_; have HB := n1_; have BK245 := n2_; have GW245 := n3_; have GE245 := n4_; have NB244_245 := n5_; have NB245_244 := n6_; clear n0_ n1_ n2_ n3_ n4_ n5_ n6_; clear hb hbox hg; have hnb7 := NB244_245.out; have hnc7 := NB245_244.out; have hcz8_0 : w6.cell? ⟨gb244, 0, none⟩ = some (.slice A0_0 l0_0.length c0_0) := (blk_cell BK244.out 0).trans rfl; have hfz8_0 := blk_frozen BK244.out 0) | ((with_reducible refine gate_dst (N := 13) rfl ?_); refine Kd.R_make (Kd.int .i64) _ 3 rfl (N := 13) rfl 29 _ _ rfl (l0_0.length : Int) rfl rfl Try.underlying29 (.int .i64 0) 8 info3 rfl (by decide) (by omega) 0 (ok := fun _ => True) (okp := fun _ => True) rfl (fun _ hk => hk) trivial (of_decide_eq_true (by first | (with_reducible assumption) | assumption)) (Nat.le_trans (Nat.mul_le_mul_right _ (of_decide_eq_true (by first | (with_reducible assumption) | assumption) : (l0_0.length : Int).toNat ≤ 35184372088832)) (by omega)) (Below.refl _ _) (Nat.le_refl _) ?_; intro v247 w9 ho10 hb hg_ hnew_; clear hg_ hnew_; (first | rw [← Ny246.out] at ho10 | (simp only [Int.reduceToNat] at ho10; rw [← Ny246.out] at ho10) | (simp only [Int.toNat_zero, List.replicate_zero] at ho10; rw [← Ny246.out] at ho10)); have n0_ := Aside0.mk (Kd.R_lower ho10 (below_size (hkS HB))); have n1_ := hkBb BK244 hb; have n2_ := hkBb BK245 hb; have n3_ := hkU HB hb; clear BK244; clear BK245; clear HB; have HO248 := n0_; have BK244 := n1_; have BK245 := n2_; have HB := n3_; clear n0_ n1_ n2_ n3_; clear hb ho10; have hcz11_0 : w9.cell? ⟨gb244, 0, none⟩ = some (.slice A0_0 l0_0.length c0_0) := (blk_cell BK244.out 0).trans rfl; have hfz11_0 := blk_frozen BK244.out 0))
   go_loopg [7, 8] k (fun kq v7 v8 w' => ∃ (x6_1 : List Int) (x7_1 : Int) (x8_1 : Int), v7 = .int .i64 x7_1 ∧ v8 = .int .i64 x8_1 ∧ Aside0 (spec_l2small.l0 kq a1 x6_1 x7_1 x8_1 l0_0 = some (r1, r2)) ∧ Aside0 (kq ≤ k) ∧ Aside0 (Kd.R (Kd.int .i64) 3 w' w.heap.size (fun _ => True) v247 x6_1) ∧ Aside0 (w'.heap[gb244]? = some (.cells #[(.slice A0_0 l0_0.length c0_0)] 38 (0, 0))) ∧ Aside0 (w'.heap[gb245]? = some (.cells #[(.slice none 0 0)] 38 (0, 0))) ∧ Aside0 (Below w.heap.size w w'))
   case atStart => exact ⟨(y246), (0), (wrap64 ((l0_0.length : Int) - 1)), (by first | rfl | (simp; done) | (simp [*]; done)), (by first | rfl | (simp; done) | (simp [*]; done)), H', ⟨Nat.le_refl _⟩, ⟨by (with_reducible repeat (first | apply Kd.R_alloc | apply Kd.R_drewN | apply Kd.R_drew)); exact HO248.out⟩, ⟨by refine hkz ?_; exact BK244.out⟩, ⟨by refine hkz ?_; exact BK245.out⟩, ⟨hkS HB⟩⟩
   case round =>
    clear H'
    try clear c1
    try clear p2
    try clear c3
    try clear c3b0
    try clear c3b1
    try clear c4
    try clear c4b0
    try clear c4b1
    try clear p6
    try clear c7
    try clear c11
    try clear hcz11_0
    try clear hcz8_0
    try clear hfz11_0
    try clear hfz8_0
    obtain ⟨x6_1, x7_1, x8_1, rfl, rfl, HA, HK1, HO_6, BK244, BK245, HB⟩ := hrel
    cases gk with
    | zero => exact absurd HA.out (by simp [spec_l2small.l0])
    | succ k1 =>
     have H := HA.out
     clear HA
     simp only [spec_l2small.l0] at H
     by_cases c12 : x8_1 ≥ 0
     ·rw [if_pos c12] at H
      have c12b0 : decide (0 ≤ x8_1) = true := decide_eq_true c12
      clear c12
      by_cases c13 : 0 ≤ x8_1
      ·rw [if_pos c13] at H
       have c13b0 : decide (0 ≤ x8_1) = true := decide_eq_true c13
       clear c13
       by_cases c14 : x8_1 < (l0_0.length : Int)
       ·rw [if_pos c14] at H
        have c14b0 : decide (x8_1 < (l0_0.length : Int)) = true := decide_eq_true c14
        clear c14
        by_cases c15 : a1 = 0
        ·rw [if_pos c15] at H
         exact absurd H (by simp)
        ·rw [if_neg c15] at H
         have c15b0 : (a1 == 0) = false := beq_eq_false_iff_ne.mpr c15
         have c15b1 : (a1 != 0) = true := bne_iff_ne.mpr c15
         by_cases c16 : x8_1 < (x6_1.length : Int)
         ·rw [if_pos c16] at H
          have c16b0 : decide (x8_1 < (x6_1.length : Int)) = true := decide_eq_true c16
          clear c16
          obtain ⟨y250, hy250⟩ : ∃ y_ : List Int, y_ = (x6_1.set (x8_1 : Int).toNat (wrap64 (Int.tdiv (wrap64 ((wrap64 (x7_1 * 65536)) + (rd l0_0 x8_1))) a1))) := ⟨_, rfl⟩
          replace H : (spec_l2small.l0 k1 a1 y250 (Int.tmod (wrap64 ((wrap64 (x7_1 * 65536)) + (rd l0_0 x8_1))) a1) (wrap64 (x8_1 - 1)) l0_0) = some (r1, r2) := by first | (rw [hy250]; with_reducible exact H) | (have H2_ := (Option.bind_some _ _).symm.trans H; rw [hy250]; with_reducible exact H2_) | (have H2_ := (Option.bind_some _ _).symm.trans H; with_reducible exact H2_) | with_reducible exact H | (rw [hy250]; exact H) | exact H
          have Ny250 := Aside0.mk hy250
          clear hy250
          have H' := Aside0.mk H
          clear H
          have hnb18 := NB244_245.out
          have hnc18 := NB245_244.out
          have hcz19_0 : wr.cell? ⟨gb244, 0, none⟩ = some (.slice A0_0 l0_0.length c0_0) := (blk_cell BK244.out 0).trans rfl
          have hfz19_0 := blk_frozen BK244.out 0
          have p249 : 0 ≤ (x8_1 : Int) := of_decide_eq_true (by first | (with_reducible assumption) | assumption)
          have q249 : x8_1 < (l0_0.length : Int) := of_decide_eq_true (by first | (with_reducible assumption) | assumption)
          obtain ⟨ad249, e249, hx249_0⟩ := Kd.at_int HR0_0.out x8_1 p249 q249
          cases e249
          replace hx249_0 := (HB.out.cell (World.block_lt_of_cell? w _ hx249_0)).trans hx249_0
          replace p249 := eq_true p249
          replace q249 := eq_true q249
          have p17 : 0 ≤ (x8_1 : Int) := of_decide_eq_true (by first | (with_reducible assumption) | assumption)
          have q17 : (x8_1 : Int) < ((x6_1.length : Int) : Int) := of_decide_eq_true (by first | (with_reducible assumption) | assumption)
          obtain ⟨go17, co17, eo17, gb17, gl17, cl17, HG17⟩ := Kd.R_form HO_6.out (by omega)
          (first | cases eo17 | (injection eo17 with ea_ en_ ec_; (first | subst ea_ | (injection ea_ with ea_; subst ea_)); subst ec_; clear en_))
          have GB17 := Aside0.mk gb17
          have GG17 := Aside0.mk HG17
          clear gb17 gl17 HG17
          obtain ⟨hx17_0, hf17_0⟩ := Kd.R_celln 0 HO_6.out (x8_1 : Int) p17 q17
          replace p17 := eq_true p17
          replace q17 := eq_true q17
          have HP20 := Kd.R_putg HO_6.out (x8_1 : Int) (wrap64 (Int.tdiv (wrap64 ((wrap64 (x7_1 * 65536)) + (rd l0_0 x8_1))) a1))
          go_wp2_with (first | ((with_reducible refine gate_store (t := 3) (p := 35) rfl ?_); refine store_event (t := 3) (p := 35) (v := ?vo_w21) (w1 := (wr.setCell ⟨go17, (x8_1 : Int).toNat, none⟩ (.int .i64 (wrap64 (Int.tdiv (wrap64 ((wrap64 (x7_1 * 65536)) + (rd l0_0 x8_1))) a1))))) ?hg ?ho ?hn ?hr ?_; (case ho => rfl); (case hg => rfl); (case hn => rfl); (case hr => first | (go_simp; done) | (go_simp; rfl)); intro w21 hw; have hg : wr.grownBy w21 (some go17) := (by rw [hw]; exact HP20.2); have hp_ : Kd.R (Kd.int .i64) 3 w21 w.heap.size (fun _ => True) (.slice (some ⟨go17, 0, none⟩) x6_1.length co17) y250 := (by rw [hw, Ny250.out]; exact HP20.1); clear HP20; have n0_ := Aside0.mk (hp_); have n1_ := Aside0.mk (blk_grown (g := gb244) (o := .cells #[.slice (some ad249) l0_0.length c0_0] 38 (0, 0)) (hkB BK244) hg (Kd.R_ne HO_6.out BK244.out (by decide))); have n2_ := Aside0.mk (blk_grown (g := gb245) (o := .cells #[.slice none 0 0] 38 (0, 0)) (hkB BK245) hg (Kd.R_ne HO_6.out BK245.out (by decide))); have n3_ := Aside0.mk ((by rw [hw]; exact below_set (HB.out) GB17.out : Below w.heap.size w w21)); clear HO_6; clear BK244; clear BK245; clear HB; have HO_6 := n0_; have BK244 := n1_; have BK245 := n2_; have HB := n3_; clear n0_ n1_ n2_ n3_; clear hg hw hp_))
          go_roundg k1
          case measure => have := HK1.out; omega
          case rel => exact ⟨(y250), (Int.tmod (wrap64 ((wrap64 (x7_1 * 65536)) + (rd l0_0 x8_1))) a1), (wrap64 (x8_1 - 1)), (by first | rfl | (simp; done) | (simp [*]; done)), (by first | rfl | (simp; done) | (simp [*]; done)), H', ⟨by have := HK1.out; omega⟩, ⟨by (with_reducible repeat (first | apply Kd.R_alloc | apply Kd.R_drewN | apply Kd.R_drew)); exact HO_6.out⟩, ⟨by refine hkz ?_; exact BK244.out⟩, ⟨by refine hkz ?_; exact BK245.out⟩, ⟨hkS HB⟩⟩
         ·rw [if_neg c16] at H
          exact absurd H (by simp)
       ·rw [if_neg c14] at H
        exact absurd H (by simp)
      ·rw [if_neg c13] at H
       exact absurd H (by simp)
     ·rw [if_neg c12] at H
      have c12b0 : decide (0 ≤ x8_1) = false := decide_eq_false c12
      clear c12
      replace H := Option.bind_eq_some_iff.mp H
      obtain ⟨t251, A220, H⟩ := H
      replace H : (some (t251, x7_1)) = some (r1, r2) := H
      have A22 := Aside0.mk A220
      clear A220
      simp only [Option.some.injEq, Prod.mk.injEq] at H
      obtain ⟨rfl, rfl⟩ := H
      obtain ⟨Ao23, co23, eo23⟩ := Kd.R_slice HO_6.out
      subst eo23
      go_wp2_with (first | ((with_reducible refine gate_callee (f := 99) rfl ?_); refine goesL_ (some 40) rfl rfl Try.func99 (by kernel_rfl) rfl #[.slice Ao23 x6_1.length co23] rfl hkL ?_; (with_reducible refine (spec_l2norm.calls k1 _ _ x6_1 t251 _ ?side1 ?side2 A22.out).mono ?_); (case side1 => exact hkC ((Kd.R_reads' HO_6.out).2.2)); (case side2 => exact (Kd.R_reads' HO_6.out).2.1); rintro e w24 ⟨v252, rfl, ho0, hb⟩; refine ⟨_, rfl, ?_⟩; have n0_ := Aside0.mk (Kd.R_elder' (hkR HO_6) (Kd.R_base ho0) hb); have n1_ := Aside0.mk (Kd.R_lower (Kd.R_new' ho0 (Kd.R_lt (hkR HO_6))) (below_size (hkS HB))); have n2_ := hkBb BK244 hb; have n3_ := hkBb BK245 hb; have n4_ := hkU HB hb; clear HO_6; clear BK244; clear BK245; clear HB; have HO_6 := n0_; have HO253 := n1_; have BK244 := n2_; have BK245 := n3_; have HB := n4_; clear n0_ n1_ n2_ n3_ n4_; (try clear hb); (try clear hb2); (try clear hk); (try clear hi); (try clear ho0); obtain ⟨Ao25, co25, eo25⟩ := Kd.R_slice HO253.out; subst eo25; have hnb26 := NB245_244.out; have hnc26 := NB244_245.out; have hcz27_0 : w24.cell? ⟨gb245, 0, none⟩ = some (.slice none 0 0) := (blk_cell BK245.out 0).trans rfl; have hfz27_0 := blk_frozen BK245.out 0))
      refine bodyPost_ret (results_ct rfl _ _ gb245 38 #[.slice Ao25 t251.length co25] (0, 0) _ rfl (by refine hkz ?_; refine blk_put (cs := #[.slice none 0 0]) ?_ 0 _ rfl; refine hkz ?_; exact BK245.out) Try.underlying38 rfl (by kernel_rfl)) rfl ?_
      exact ⟨_, hkE, by (with_reducible repeat (first | apply Kd.R_alloc | apply Kd.R_drewN | apply Kd.R_drew)); exact Kd.R_mono (Kd.R_far (p := ⟨gb245, 0, none⟩) (Kd.R_types HO253.out BK245.out (by decide)) (fun _ hk => hk.2) (.slice Ao25 t251.length co25)) (fun _ hk => trivial), hkS HB⟩
  ·rw [if_neg c4] at H
   exact absurd H (by simp)
 ·rw [if_neg c3] at H
  exact absurd H (by simp)

/-! ### spec_l2shr: function 129 -/
def spec_l2shr.f (k : Nat) (l0_0 : List Int) (a1 : Int) : Option (List Int) := if (wrap64 (Int.tdiv a1 16)) ≥ (l0_0.length : Int) then (some ([] : List Int)) else (if 0 ≤ (wrap64 (Int.tdiv a1 16)) then (if (wrap64 (Int.tdiv a1 16)) ≤ (l0_0.length : Int) then (if 0 ≤ (Int.tmod a1 16) then ((spec_l2small.f k (l0_0.drop ((wrap64 (Int.tdiv a1 16)) : Int).toNat) (shl .i64 1 (Int.tmod a1 16))).bind fun bt257 => (some bt257.1)) else (none)) else (none)) else (none))
theorem spec_l2shr.mono : ∀ a0 a1 k, LeO (spec_l2shr.f k a0 a1) (spec_l2shr.f (k + 1) a0 a1) := by
 intro a0 a1 k
 unfold spec_l2shr.f
 repeat' first
   | (with_reducible exact spec_l2small.mono _ _ _)
   | (with_reducible exact LeO.refl _)
   | (with_reducible exact LeO.none _)
   | (with_reducible refine LeO.ite ?_ ?_)
   | (with_reducible refine LeO.bind ?_ (fun _ => ?_))
   | exact spec_l2small.mono _ _ _
   | exact LeO.none _
   | refine LeO.ite ?_ ?_
   | refine LeO.bind ?_ (fun _ => ?_)
def spec_l2shr.T3 : Bool × List (List Nat × List Nat) := (true, [([], []), ([0], [0]), ([], []), ([2], [2]), ([1, 3], [1, 3]), ([4], [4]), ([], []), ([6], [6]), ([7], [7]), ([5, 8], [5, 8]), ([9], [9]), ([10], [10]), ([10], [10]), ([], []), ([13, 11, 9, 0, 1, 2, 3, 4, 5, 6, 7, 8, 9, 10, 11, 13], [11, 13]), ([12, 14, 0, 1, 2, 3, 4, 5, 6, 7, 8, 9, 10, 11, 12, 13, 14], [12])])
def spec_l2shr.B3 : List Nat := [0, 1, 0, 4, 15, 31, 0, 64, 192, 511, 1023, 2047, 2047, 0, 12287, 32767]
theorem spec_l2shr.tab3 : rtab .any (opsOf Try.f129 3) = spec_l2shr.T3 := by kernel_rfl
theorem spec_l2shr.bits3 : waitsOk spec_l2shr.T3.2 spec_l2shr.B3 = true := by kernel_rfl
set_option maxHeartbeats 8000000 in
set_option maxRecDepth 100000 in
theorem spec_l2shr.calls (k : Nat) (A0_0 : Option Addr) (c0_0 : Nat) (l0_0 : List Int) (a1 : Int) (r : List Int) (w : World) (hr0_0 : Kd.C (Kd.int .i64) w A0_0 l0_0.length l0_0) (hc0_0 : l0_0.length ≤ c0_0) (h : spec_l2shr.f k l0_0 a1 = some r) :
  Calls Try.prog 129 #[.agg #[.slice A0_0 l0_0.length c0_0], .int .i64 a1] w fun e w' => ∃ v0_ : Value, e = .returned (.agg #[v0_]) ∧ Kd.R (Kd.int .i64) 3 w' w.heap.size (fun _ => True) v0_ r ∧ Below w.heap.size w w' := by
 have hu38 := Try.underlying38
 have HR0_0 := Aside0.mk hr0_0
 have HC0_0 := Aside0.mk hc0_0
 clear hr0_0 hc0_0
 have HB := Aside0.mk (Below.refl w.heap.size w)
 have H : (if (wrap64 (Int.tdiv a1 16)) ≥ (l0_0.length : Int) then (some ([] : List Int)) else (if 0 ≤ (wrap64 (Int.tdiv a1 16)) then (if (wrap64 (Int.tdiv a1 16)) ≤ (l0_0.length : Int) then (if 0 ≤ (Int.tmod a1 16) then ((spec_l2small.f k (l0_0.drop ((wrap64 (Int.tdiv a1 16)) : Int).toNat) (shl .i64 1 (Int.tmod a1 16))).bind fun bt257 => (some bt257.1)) else (none)) else (none)) else (none))) = some r := h
 clear h
 by_cases c3 : (wrap64 (Int.tdiv a1 16)) ≥ (l0_0.length : Int)
 ·rw [if_pos c3] at H
  have c3b0 : decide ((l0_0.length : Int) ≤ (wrap64 (Int.tdiv a1 16))) = true := decide_eq_true c3
  clear c3
  obtain rfl := Option.some.inj H
  go_enter Try.func129, Try.ntmps129
  go_wp2_with (first | ((with_reducible refine gate_dst (N := 2) rfl ?_); refine box_event ?hg (N := 2) ?hd (cs := #[.slice A0_0 l0_0.length c0_0]) (t := 38) ?hr ?_; (case hd => rfl); (case hg => rfl); (case hr => first | (go_simp; done) | (go_simp; rfl)); intro gb254 hg w4 hbox hb; have n0_ := hkU HB hb; have n1_ := Aside0.mk (hbox); have n2_ := hkG hg (hkS HB); have n3_ := hkG hg (hkS HB); clear HB; have HB := n0_; have BK254 := n1_; have GW254 := n2_; have GE254 := n3_; clear n0_ n1_ n2_ n3_; clear hb hbox hg) | ((with_reducible refine gate_dst (N := 4) rfl ?_); refine box_event ?hg (N := 4) ?hd (cs := #[.slice none 0 0]) (t := 38) ?hr ?_; (case hd => rfl); (case hg => rfl); (case hr => first | (go_simp; done) | (go_simp; rfl)); intro gb255 hg w5 hbox hb; have n0_ := hkBb BK254 hb; have n1_ := hkU HB hb; have n2_ := Aside0.mk (hbox); have n3_ := hkG hg (hkS HB); have n4_ := hkG hg (hkS HB); have n5_ := hkN hg BK254; have n6_ := hkM hg BK254; clear BK254; clear HB; have BK254 := n0_; have HB := n1_; have BK255 := n2_; have GW255 := n3_; have GE255 := n4_; have NB254_255 := n5_; have NB255_254 := n6_; clear n0_ n1_ n2_ n3_ n4_ n5_ n6_; clear hb hbox hg; have hnb6 := NB254_255.out; have hnc6 := NB255_254.out; have hcz7_0 : w5.cell? ⟨gb254, 0, none⟩ = some (.slice A0_0 l0_0.length c0_0) := (blk_cell BK254.out 0).trans rfl; have hfz7_0 := blk_frozen BK254.out 0; have hcz8_0 : w5.cell? ⟨gb255, 0, none⟩ = some (.slice none 0 0) := (blk_cell BK255.out 0).trans rfl; have hfz8_0 := blk_frozen BK255.out 0))
  refine bodyPost_ret (results_cell_row rfl _ _ gb255 38 #[.slice none 0 0] (0, 0) _ rfl (by refine hkz ?_; refine blk_put (cs := #[.slice none 0 0]) ?_ 0 _ rfl; refine hkz ?_; exact BK255.out) Try.underlying38 rfl (by kernel_rfl)) rfl ?_
  exact ⟨_, hkE, by first | exact Kd.R_nil _ _ _ _ _ | exact Kd.N_nil _ _ _ _ _ | exact Kd.V_nil _ _ _ _ _ | exact Kd.Q_nil _ _ _ _ _ | exact Kd.S_nil _ _ _ _ _, hkS HB⟩
 ·rw [if_neg c3] at H
  have c3b0 : decide ((l0_0.length : Int) ≤ (wrap64 (Int.tdiv a1 16))) = false := decide_eq_false c3
  clear c3
  obtain ⟨ji9, hji9⟩ : ∃ j_ : Int, (wrap64 (Int.tdiv a1 16)) = j_ := ⟨_, rfl⟩
  replace H : (if 0 ≤ (ji9) then (if (ji9) ≤ (l0_0.length : Int) then (if 0 ≤ (Int.tmod a1 16) then ((spec_l2small.f k (l0_0.drop ((ji9) : Int).toNat) (shl .i64 1 (Int.tmod a1 16))).bind fun bt257 => (some bt257.1)) else (none)) else (none)) else (none)) = some r := by first | (rw [hji9] at H; exact H) | (simp only [hji9] at H ⊢; exact H)
  (try rw [hji9] at c3b0)
  have hji9w : (IntKind.i64.wrap (Int.tdiv a1 16)) = ji9 := (i64_w _).trans hji9
  by_cases c10 : 0 ≤ (ji9)
  ·rw [if_pos c10] at H
   have c10b0 := eq_true c10
   have c10b1 : decide (0 ≤ (ji9)) = true := decide_eq_true c10
   clear c10
   by_cases c11 : (ji9) ≤ (l0_0.length : Int)
   ·rw [if_pos c11] at H
    have c11b0 := eq_true c11
    have c11b1 : decide ((ji9) ≤ (l0_0.length : Int)) = true := decide_eq_true c11
    clear c11
    obtain ⟨ji12, hji12⟩ : ∃ j_ : Int, (Int.tmod a1 16) = j_ := ⟨_, rfl⟩
    replace H : (if 0 ≤ (ji12) then ((spec_l2small.f k (l0_0.drop ((ji9) : Int).toNat) (shl .i64 1 (ji12))).bind fun bt257 => (some bt257.1)) else (none)) = some r := by first | (rw [hji12] at H; exact H) | (simp only [hji12] at H ⊢; exact H)
    by_cases c13 : 0 ≤ (ji12)
    ·rw [if_pos c13] at H
     have c13b0 := eq_true c13
     have c13b1 : decide (0 ≤ (ji12)) = true := decide_eq_true c13
     clear c13
     obtain ⟨ji14, hji14⟩ : ∃ j_ : Int, (shl .i64 1 (ji12)) = j_ := ⟨_, rfl⟩
     replace H : ((spec_l2small.f k (l0_0.drop ((ji9) : Int).toNat) (ji14)).bind fun bt257 => (some bt257.1)) = some r := by first | (rw [hji14] at H; exact H) | (simp only [hji14] at H ⊢; exact H)
     have hji14_ : (IntKind.i64.wrap (1 * 2 ^ min (ji12).toNat 64)) = ji14 := hji14
     have hji14z : (ji12) ≤ 64 → (IntKind.i64.wrap (1 * 2 ^ (ji12).toNat)) = ji14 := shl_small hji14
     have hji14u : (IntKind.i64.wrap (2 ^ min (ji12).toNat 64)) = ji14 := by have h_ := hji14_; rw [Int.one_mul] at h_; exact h_
     have hji14v : (ji12) ≤ 64 → (IntKind.i64.wrap (2 ^ (ji12).toNat)) = ji14 := fun hle_ => by have h_ := hji14z hle_; rw [Int.one_mul] at h_; exact h_
     have hji14y : (wrap64 (1 * 2 ^ min (ji12).toNat 64)) = ji14 := (i64_w _).symm.trans hji14_
     have hji14x : (ji12) ≤ 64 → (wrap64 (1 * 2 ^ (ji12).toNat)) = ji14 := fun h_ => (i64_w _).symm.trans (hji14z h_)
     replace H := Option.bind_eq_some_iff.mp H
     obtain ⟨⟨t257, t260⟩, A150, H⟩ := H
     replace H : (some t257) = some r := H
     have A15 := Aside0.mk A150
     clear A150
     obtain rfl := Option.some.inj H
     go_enter Try.func129, Try.ntmps129
     try go_wp2_with (first | ((with_reducible refine gate_dst (N := 2) rfl ?_); refine box_event ?hg (N := 2) ?hd (cs := #[.slice A0_0 l0_0.length c0_0]) (t := 38) ?hr ?_; (case hd => rfl); (case hg => rfl); (case hr => first | (go_simp; done) | (go_simp; rfl)); intro gb254 hg w16 hbox hb; have n0_ := hkU HB hb; have n1_ := Aside0.mk (hbox); have n2_ := hkG hg (hkS HB); have n3_ := hkG hg (hkS HB); clear HB; have HB := n0_; have BK254 := n1_; have GW254 := n2_; have GE254 := n3_; clear n0_ n1_ n2_ n3_; clear hb hbox hg) | ((with_reducible refine gate_dst (N := 4) rfl ?_); refine box_event ?hg (N := 4) ?hd (cs := #[.slice none 0 0]) (t := 38) ?hr ?_; (case hd => rfl); (case hg => rfl); (case hr => first | (go_simp; done) | (go_simp; rfl)); intro gb255 hg w17 hbox hb; have n0_ := hkBb BK254 hb; have n1_ := hkU HB hb; have n2_ := Aside0.mk (hbox); have n3_ := hkG hg (hkS HB); have n4_ := hkG hg (hkS HB); have n5_ := hkN hg BK254; have n6_ := hkM hg BK254; clear BK254; clear HB; have BK254 := n0_; have HB := n1_; have BK255 := n2_; have GW255 := n3_; have GE255 := n4_; have NB254_255 := n5_; have NB255_254 := n6_; clear n0_ n1_ n2_ n3_ n4_ n5_ n6_; clear hb hbox hg; have hnb18 := NB254_255.out; have hnc18 := NB255_254.out; have hcz19_0 : w17.cell? ⟨gb254, 0, none⟩ = some (.slice A0_0 l0_0.length c0_0) := (blk_cell BK254.out 0).trans rfl; have hfz19_0 := blk_frozen BK254.out 0))
     have n0_ := Aside0.mk (blk_drew BK254.out)
     have n1_ := Aside0.mk (blk_drew BK255.out)
     have n2_ := Aside0.mk (below_drew1 HB.out)
     clear BK254
     clear BK255
     clear HB
     have BK254 := n0_
     have BK255 := n1_
     have HB := n2_
     clear n0_ n1_ n2_
     obtain ⟨i021, hi021, _, hsz21, _⟩ := info_parts info3
     obtain ⟨A21, hcut21, hA21, hC21⟩ := print_drop_of (P := Try.prog) (Value.int .i64) 0 29 3 .i64 Try.underlying29 hi021 hsz21 A0_0 c0_0 l0_0 (ji9) (of_decide_eq_true (by first | (with_reducible assumption) | assumption)) (of_decide_eq_true (by first | (with_reducible assumption) | assumption)) HC0_0.out
     have HR256 := Aside0.mk (Kd.C_of_reads (h1 := fun _ => rfl) (hA21 _ (Kd.reads_of_C HR0_0.out)))
     have HC256 := Aside0.mk hC21
     clear hA21 hC21 hi021 hsz21
     refine start_ (n := 16) (S := fun w' => w'.cell? ⟨gb254, 0, none⟩ = some (.slice A0_0 l0_0.length c0_0)) (ds := []) #[false, false, false, false, false, false, false, false, false, false, false, false, false, false, false, false] (by kernel_rfl) rfl rfl ((blk_cell BK254.out 0).trans rfl) (fun hHeld => ?_); refine with_tabW spec_l2shr.tab3 spec_l2shr.bits3 (fun HT_ HW_ => ?_)
     generalize w17.drew = w20 at BK254 BK255 HB HR256 hHeld ⊢
     refine pure_ (i := 0) (N := some 15) (v := ?_) (a' := ?_) #[true, false, false, false, false, false, false, false, false, false, false, false, false, false, false, false] rfl rfl (any_of HT_.out (by kernel_rfl)) (fun _ _ _ h => h) (Or.inl ⟨by rfl, ?_⟩) ?_ ?_
     rotate_left
     ·intro w'
      go_simp
      with_reducible rfl
     rotate_left
     ·simp only [Act.put, List.setIfInBounds_toArray, List.set_cons_zero, List.set_cons_succ, i64_w, i32_w]
      rfl
     refine pure_ (i := 2) (N := some 17) (v := ?_) (a' := ?_) #[true, false, true, false, false, false, false, false, false, false, false, false, false, false, false, false] rfl rfl (any_of HT_.out (by kernel_rfl)) (fun _ _ _ h => h) (Or.inl ⟨by rfl, ?_⟩) ?_ ?_
     rotate_left
     ·intro w'
      go_simp
      with_reducible rfl
     rotate_left
     ·simp only [Act.put, List.setIfInBounds_toArray, List.set_cons_zero, List.set_cons_succ, i64_w, i32_w]
      rfl
     refine pure_ (i := 3) (N := some 18) (v := ?_) (a' := ?_) #[true, false, true, true, false, false, false, false, false, false, false, false, false, false, false, false] rfl rfl (any_of HT_.out (by kernel_rfl)) (fun _ _ _ h => h) (Or.inl ⟨by rfl, ?_⟩) ?_ ?_
     rotate_left
     ·intro w'
      go_simp
      with_reducible rfl
     rotate_left
     ·simp only [Act.put, List.setIfInBounds_toArray, List.set_cons_zero, List.set_cons_succ, i64_w, i32_w]
      rfl
     refine pure_ (i := 6) (N := some 21) (v := ?_) (a' := ?_) #[true, false, true, true, false, false, true, false, false, false, false, false, false, false, false, false] rfl rfl (any_of HT_.out (by kernel_rfl)) (fun _ _ _ h => h) (Or.inl ⟨by rfl, ?_⟩) ?_ ?_
     rotate_left
     ·intro w'
      go_simp
      with_reducible rfl
     rotate_left
     ·simp only [Act.put, List.setIfInBounds_toArray, List.set_cons_zero, List.set_cons_succ, i64_w, i32_w]
      rfl
     refine pure_ (i := 7) (N := some 22) (v := ?_) (a' := ?_) #[true, false, true, true, false, false, true, true, false, false, false, false, false, false, false, false] rfl rfl (any_of HT_.out (by kernel_rfl)) (fun _ _ _ h => h) (Or.inl ⟨by rfl, ?_⟩) ?_ ?_
     rotate_left
     ·intro w'
      go_simp
      with_reducible rfl
     rotate_left
     ·simp only [Act.put, List.setIfInBounds_toArray, List.set_cons_zero, List.set_cons_succ, i64_w, i32_w]
      rfl
     refine pure_ (i := 8) (N := some 23) (v := ?_) (a' := ?_) #[true, false, true, true, false, false, true, true, true, false, false, false, false, false, false, false] rfl rfl (any_of HT_.out (by kernel_rfl)) (fun _ _ _ h => h) (Or.inl ⟨by rfl, ?_⟩) ?_ ?_
     rotate_left
     ·intro w'
      go_simp
      with_reducible rfl
     rotate_left
     ·simp only [Act.put, List.setIfInBounds_toArray, List.set_cons_zero, List.set_cons_succ, i64_w, i32_w]
      rfl
     refine take_ (i := 1) (N := some 16) (v := ?_) (a' := ?_) #[true, true, true, true, false, false, true, true, true, false, false, false, false, false, false, false] rfl rfl (take_ofW HT_.out HW_.out (by kernel_rfl)) (fun _ _ _ h => h) (Or.inl ⟨by rfl, ?_⟩) hHeld ?_ ?_
     rotate_left
     ·intro w' s0
      go_simp
      with_reducible rfl
     rotate_left
     ·simp only [Act.put, List.setIfInBounds_toArray, List.set_cons_zero, List.set_cons_succ, i64_w, i32_w]
      rfl
     refine pure_ (i := 4) (N := some 19) (v := ?_) (a' := ?_) #[true, true, true, true, true, false, true, true, true, false, false, false, false, false, false, false] rfl rfl (any_of HT_.out (by kernel_rfl)) (fun _ _ _ h => h) (Or.inl ⟨by rfl, ?_⟩) ?_ ?_
     rotate_left
     ·intro w'
      go_simp
      with_reducible rfl
     rotate_left
     ·simp only [Act.put, List.setIfInBounds_toArray, List.set_cons_zero, List.set_cons_succ, i64_w, i32_w]
      rfl
     refine pure_ (i := 5) (N := some 20) (v := ?_) (a' := ?_) #[true, true, true, true, true, true, true, true, true, false, false, false, false, false, false, false] rfl rfl (any_of HT_.out (by kernel_rfl)) (fun _ _ _ h => h) (Or.inl ⟨by rfl, ?_⟩) ?_ ?_
     rotate_left
     ·intro w'
      go_simp
      with_reducible rfl
     rotate_left
     ·simp only [Act.put, List.setIfInBounds_toArray, List.set_cons_zero, List.set_cons_succ, i64_w, i32_w]
      rfl
     refine join_ (σ := Value × Nat) 2 #[true, true, true, true, true, true, true, true, true, true, true, true, true, true, false, false] (fun s_ => [(24, .tuple #[.agg #[s_.1], .int .i64 t260]), (5, .pointer (some ⟨s_.2, 0, none⟩)), (14, .tuple #[.agg #[s_.1], .int .i64 t260]), (25, .agg #[s_.1]), (26, .int .i64 t260)]) (fun s_ w' => (w'.cell? ⟨gb254, 0, none⟩ = some (.slice A0_0 l0_0.length c0_0)) ∧ (Kd.R (Kd.int .i64) 3 w' w.heap.size (fun _ => True) s_.1 t257) ∧ (w'.heap[gb254]? = some (.cells #[.slice A0_0 l0_0.length c0_0] 38 (0, 0))) ∧ (w'.heap[gb255]? = some (.cells #[.slice none 0 0] 38 (0, 0))) ∧ (w'.heap[s_.2]? = some (.cells #[.slice none 0 0] 38 (0, 0))) ∧ (w.heap.size ≤ s_.2) ∧ (w.heap.size ≤ s_.2) ∧ (gb254 ≠ s_.2) ∧ (s_.2 ≠ gb254) ∧ (gb255 ≠ s_.2) ∧ (s_.2 ≠ gb255) ∧ (Below w.heap.size w w')) ?_ ?_
     rotate_left
     ·intro hCont
      refine two_ (i := 9) (j := 13) (Ni := some 24) (Nj := some 5) #[true, true, true, true, true, true, true, true, true, true, false, false, false, false, false, false] #[true, true, true, true, true, true, true, true, true, false, false, false, false, true, false, false] rfl rfl rfl rfl (two_of HT_.out (by kernel_rfl)) (by decide) (by decide) (fun K hK => ?_) (fun K hK => ?_)
      ·skip
       refine goes_ Try.func111 (by kernel_rfl) rfl #[.agg #[.slice A21 (l0_0.drop ((ji9) : Int).toNat).length (c0_0 - (ji9).toNat)], .int .i64 ji14] (by rfl) rfl rfl (by (try simp only [List.map_toArray, List.map_cons, List.map_nil]); first | done | (rw [show (l0_0.drop ((ji9) : Int).toNat).length = (l0_0.length - (ji9).toNat) from List.length_drop] <;> rfl) | (simp only [hji14, hji9]; rfl) | rfl | (simp only [List.length_drop, List.length_take]; rfl)) ?_
       with_reducible refine (spec_l2small.calls k _ _ (l0_0.drop ((ji9) : Int).toNat) ji14 t257 t260 _ ?side1 ?side2 A15.out).mono ?_
       (case side1 => exact hkC ((Kd.C_below HR256.out HB.out)))
       (case side2 => exact HC256.out)
       rintro e w22 ⟨v258, rfl, ho0, hb⟩
       refine ⟨_, rfl, ?_⟩
       have n0_ := Aside0.mk (Kd.R_lower ho0 (below_size (hkS HB)))
       have n1_ := hkBb BK254 hb
       have n2_ := hkBb BK255 hb
       have n3_ := hkU HB hb
       clear BK254
       clear BK255
       clear HB
       have HO259 := n0_
       have BK254 := n1_
       have BK255 := n2_
       have HB := n3_
       clear n0_ n1_ n2_ n3_
       (try clear hb)
       (try clear hb2)
       (try clear hk)
       (try clear hi)
       (try clear ho0)
       refine hK.out _ _ ((blk_cell BK254.out 0).trans rfl) (fun hHeld => ?_)
       clear hK K
       refine norm_ (a' := ?_) ?_ ?_
       rotate_left
       ·show Act.put _ (some 24) _ = _
        simp only [Act.put, List.setIfInBounds_toArray, List.set_cons_zero, List.set_cons_succ, i64_w, i32_w]
        rfl
       refine pure_ (i := 10) (N := some 14) (v := ?_) (a' := ?_) #[true, true, true, true, true, true, true, true, true, true, true, false, false, false, false, false] rfl rfl (any_of HT_.out (by kernel_rfl)) (fun _ _ _ h => h) (Or.inl ⟨by rfl, ?_⟩) ?_ ?_
       rotate_left
       ·intro w'
        go_simp
        with_reducible rfl
       rotate_left
       ·simp only [Act.put, List.setIfInBounds_toArray, List.set_cons_zero, List.set_cons_succ, i64_w, i32_w]
        rfl
       refine pure_ (i := 11) (N := some 25) (v := ?_) (a' := ?_) #[true, true, true, true, true, true, true, true, true, true, true, true, false, false, false, false] rfl rfl (any_of HT_.out (by kernel_rfl)) (fun _ _ _ h => h) (Or.inl ⟨by rfl, ?_⟩) ?_ ?_
       rotate_left
       ·intro w'
        go_simp
        with_reducible rfl
       rotate_left
       ·simp only [Act.put, List.setIfInBounds_toArray, List.set_cons_zero, List.set_cons_succ, i64_w, i32_w]
        rfl
       refine pure_ (i := 12) (N := some 26) (v := ?_) (a' := ?_) #[true, true, true, true, true, true, true, true, true, true, true, true, true, false, false, false] rfl rfl (any_of HT_.out (by kernel_rfl)) (fun _ _ _ h => h) (Or.inl ⟨by rfl, ?_⟩) ?_ ?_
       rotate_left
       ·intro w'
        go_simp
        with_reducible rfl
       rotate_left
       ·simp only [Act.put, List.setIfInBounds_toArray, List.set_cons_zero, List.set_cons_succ, i64_w, i32_w]
        rfl
       refine one_ (i := 13) (N := some 5) #[true, true, true, true, true, true, true, true, true, true, true, true, true, true, false, false] rfl rfl (one_of HT_.out (by kernel_rfl)) (by decide) (fun K hK => ?_)
       refine box_step ?hg (N := 5) ?hd (cs := #[.slice none 0 0]) (t := 38) ?hr ?_; (case hd => rfl); (case hg => rfl); (case hr => first | (go_simp; done) | (go_simp; rfl))
       intro gb261 hg w23 hbox hb
       have n0_ := hkRb HO259 hb
       have n1_ := hkBb BK254 hb
       have n2_ := hkBb BK255 hb
       have n3_ := hkU HB hb
       have n4_ := Aside0.mk (hbox)
       have n5_ := hkG hg (hkS HB)
       have n6_ := hkG hg (hkS HB)
       have n7_ := hkN hg BK254
       have n8_ := hkM hg BK254
       have n9_ := hkN hg BK255
       have n10_ := hkM hg BK255
       clear HO259
       clear BK254
       clear BK255
       clear HB
       have HO259 := n0_
       have BK254 := n1_
       have BK255 := n2_
       have HB := n3_
       have BK261 := n4_
       have GW261 := n5_
       have GE261 := n6_
       have NB254_261 := n7_
       have NB261_254 := n8_
       have NB255_261 := n9_
       have NB261_255 := n10_
       clear n0_ n1_ n2_ n3_ n4_ n5_ n6_ n7_ n8_ n9_ n10_
       clear hb hbox hg
       refine hK.out _ _ ((blk_cell BK254.out 0).trans rfl) (fun hHeld => ?_)
       clear hK K
       refine norm_ (a' := ?_) ?_ ?_
       rotate_left
       ·show Act.put _ (some 5) _ = _
        simp only [Act.put, List.setIfInBounds_toArray, List.set_cons_zero, List.set_cons_succ, i64_w, i32_w]
        rfl
       exact norm_ (by simp only [putAll, Act.put, List.setIfInBounds_toArray, List.set_cons_zero, List.set_cons_succ]) (hCont (v258, gb261) _ ⟨hHeld, (hkR HO259), (hkB BK254), (hkB BK255), (hkB BK261), GW261.out, GE261.out, NB254_261.out, NB261_254.out, NB255_261.out, NB261_255.out, (hkS HB)⟩)
      ·skip
       refine box_step ?hg (N := 5) ?hd (cs := #[.slice none 0 0]) (t := 38) ?hr ?_; (case hd => rfl); (case hg => rfl); (case hr => first | (go_simp; done) | (go_simp; rfl))
       intro gb261 hg w22 hbox hb
       have n0_ := hkBb BK254 hb
       have n1_ := hkBb BK255 hb
       have n2_ := hkU HB hb
       have n3_ := Aside0.mk (hbox)
       have n4_ := hkG hg (hkS HB)
       have n5_ := hkG hg (hkS HB)
       have n6_ := hkN hg BK254
       have n7_ := hkM hg BK254
       have n8_ := hkN hg BK255
       have n9_ := hkM hg BK255
       clear BK254
       clear BK255
       clear HB
       have BK254 := n0_
       have BK255 := n1_
       have HB := n2_
       have BK261 := n3_
       have GW261 := n4_
       have GE261 := n5_
       have NB254_261 := n6_
       have NB261_254 := n7_
       have NB255_261 := n8_
       have NB261_255 := n9_
       clear n0_ n1_ n2_ n3_ n4_ n5_ n6_ n7_ n8_ n9_
       clear hb hbox hg
       refine hK.out _ _ ((blk_cell BK254.out 0).trans rfl) (fun hHeld => ?_)
       clear hK K
       refine norm_ (a' := ?_) ?_ ?_
       rotate_left
       ·show Act.put _ (some 5) _ = _
        simp only [Act.put, List.setIfInBounds_toArray, List.set_cons_zero, List.set_cons_succ, i64_w, i32_w]
        rfl
       refine one_ (i := 9) (N := some 24) #[true, true, true, true, true, true, true, true, true, true, false, false, false, true, false, false] rfl rfl (one_of HT_.out (by kernel_rfl)) (by decide) (fun K hK => ?_)
       refine goes_ Try.func111 (by kernel_rfl) rfl #[.agg #[.slice A21 (l0_0.drop ((ji9) : Int).toNat).length (c0_0 - (ji9).toNat)], .int .i64 ji14] (by rfl) rfl rfl (by (try simp only [List.map_toArray, List.map_cons, List.map_nil]); first | done | (rw [show (l0_0.drop ((ji9) : Int).toNat).length = (l0_0.length - (ji9).toNat) from List.length_drop] <;> rfl) | (simp only [hji14, hji9]; rfl) | rfl | (simp only [List.length_drop, List.length_take]; rfl)) ?_
       with_reducible refine (spec_l2small.calls k _ _ (l0_0.drop ((ji9) : Int).toNat) ji14 t257 t260 _ ?side1 ?side2 A15.out).mono ?_
       (case side1 => exact hkC ((Kd.C_below HR256.out HB.out)))
       (case side2 => exact HC256.out)
       rintro e w23 ⟨v258, rfl, ho0, hb⟩
       refine ⟨_, rfl, ?_⟩
       have n0_ := Aside0.mk (Kd.R_lower ho0 (below_size (hkS HB)))
       have n1_ := hkBb BK254 hb
       have n2_ := hkBb BK255 hb
       have n3_ := hkBb BK261 hb
       have n4_ := hkU HB hb
       clear BK254
       clear BK255
       clear BK261
       clear HB
       have HO259 := n0_
       have BK254 := n1_
       have BK255 := n2_
       have BK261 := n3_
       have HB := n4_
       clear n0_ n1_ n2_ n3_ n4_
       (try clear hb)
       (try clear hb2)
       (try clear hk)
       (try clear hi)
       (try clear ho0)
       refine hK.out _ _ ((blk_cell BK254.out 0).trans rfl) (fun hHeld => ?_)
       clear hK K
       refine norm_ (a' := ?_) ?_ ?_
       rotate_left
       ·show Act.put _ (some 24) _ = _
        simp only [Act.put, List.setIfInBounds_toArray, List.set_cons_zero, List.set_cons_succ, i64_w, i32_w]
        rfl
       refine pure_ (i := 10) (N := some 14) (v := ?_) (a' := ?_) #[true, true, true, true, true, true, true, true, true, true, true, false, false, true, false, false] rfl rfl (any_of HT_.out (by kernel_rfl)) (fun _ _ _ h => h) (Or.inl ⟨by rfl, ?_⟩) ?_ ?_
       rotate_left
       ·intro w'
        go_simp
        with_reducible rfl
       rotate_left
       ·simp only [Act.put, List.setIfInBounds_toArray, List.set_cons_zero, List.set_cons_succ, i64_w, i32_w]
        rfl
       refine pure_ (i := 11) (N := some 25) (v := ?_) (a' := ?_) #[true, true, true, true, true, true, true, true, true, true, true, true, false, true, false, false] rfl rfl (any_of HT_.out (by kernel_rfl)) (fun _ _ _ h => h) (Or.inl ⟨by rfl, ?_⟩) ?_ ?_
       rotate_left
       ·intro w'
        go_simp
        with_reducible rfl
       rotate_left
       ·simp only [Act.put, List.setIfInBounds_toArray, List.set_cons_zero, List.set_cons_succ, i64_w, i32_w]
        rfl
       refine pure_ (i := 12) (N := some 26) (v := ?_) (a' := ?_) #[true, true, true, true, true, true, true, true, true, true, true, true, true, true, false, false] rfl rfl (any_of HT_.out (by kernel_rfl)) (fun _ _ _ h => h) (Or.inl ⟨by rfl, ?_⟩) ?_ ?_
       rotate_left
       ·intro w'
        go_simp
        with_reducible rfl
       rotate_left
       ·simp only [Act.put, List.setIfInBounds_toArray, List.set_cons_zero, List.set_cons_succ, i64_w, i32_w]
        rfl
       exact norm_ (by simp only [putAll, Act.put, List.setIfInBounds_toArray, List.set_cons_zero, List.set_cons_succ]) (hCont (v258, gb261) _ ⟨hHeld, (hkR HO259), (hkB BK254), (hkB BK255), (hkB BK261), GW261.out, GE261.out, NB254_261.out, NB261_254.out, NB255_261.out, NB261_255.out, (hkS HB)⟩)
     rintro ⟨v258, gb261⟩ w24 ⟨hS_, h0_, h1_, h2_, h3_, h4_, h5_, h6_, h7_, h8_, h9_, h10_⟩
     have n0_ : Aside0 (Kd.R (Kd.int .i64) 3 w24 w.heap.size (fun _ => True) v258 t257) := ⟨h0_⟩
     have n1_ : Aside0 (w24.heap[gb254]? = some (.cells #[.slice A0_0 l0_0.length c0_0] 38 (0, 0))) := ⟨h1_⟩
     have n2_ : Aside0 (w24.heap[gb255]? = some (.cells #[.slice none 0 0] 38 (0, 0))) := ⟨h2_⟩
     have n3_ : Aside0 (w24.heap[gb261]? = some (.cells #[.slice none 0 0] 38 (0, 0))) := ⟨h3_⟩
     have n4_ : Aside0 (w.heap.size ≤ gb261) := ⟨h4_⟩
     have n5_ : Aside0 (w.heap.size ≤ gb261) := ⟨h5_⟩
     have n6_ : Aside0 (gb254 ≠ gb261) := ⟨h6_⟩
     have n7_ : Aside0 (gb261 ≠ gb254) := ⟨h7_⟩
     have n8_ : Aside0 (gb255 ≠ gb261) := ⟨h8_⟩
     have n9_ : Aside0 (gb261 ≠ gb255) := ⟨h9_⟩
     have n10_ : Aside0 (Below w.heap.size w w24) := ⟨h10_⟩
     clear BK254
     clear BK255
     clear HB
     clear h0_ h1_ h2_ h3_ h4_ h5_ h6_ h7_ h8_ h9_ h10_
     have HO259 := n0_
     have BK254 := n1_
     have BK255 := n2_
     have BK261 := n3_
     have GW261 := n4_
     have GE261 := n5_
     have NB254_261 := n6_
     have NB261_254 := n7_
     have NB255_261 := n8_
     have NB261_255 := n9_
     have HB := n10_
     clear n0_ n1_ n2_ n3_ n4_ n5_ n6_ n7_ n8_ n9_ n10_
     have hHeld : w24.cell? ⟨gb254, 0, none⟩ = some (.slice A0_0 l0_0.length c0_0) := hS_
     obtain ⟨Ao25, co25, eo25⟩ := Kd.R_slice HO259.out
     (first | subst eo25 | (injection eo25 with f1_ f2_ f3_; have f4_ := f1_.symm; have f5_ := f3_.symm; clear f1_ f2_ f3_; subst f4_; subst f5_))
     refine norm_ (a' := ?_) ?_ ?_
     rotate_left
     ·simp only [putAll, Act.put, List.setIfInBounds_toArray, List.set_cons_zero, List.set_cons_succ]
      rfl
     refine one_ (i := 14) (N := none) #[true, true, true, true, true, true, true, true, true, true, true, true, true, true, true, false] rfl rfl (one_of HT_.out (by kernel_rfl)) (by decide) (fun K hK => ?_)
     have hs26 : w24.cell? ⟨gb261, 0, none⟩ = some (.slice none 0 0) := (blk_cell BK261.out 0).trans rfl
     have hfs26 := blk_frozen BK261.out 0
     have hns26_0 := NB254_261.out
     have hns26_1 := NB255_261.out
     have hms26_0 := NB261_254.out
     have hms26_1 := NB261_255.out
     refine skip_ (w1 := ?_) (by rfl) rfl ?_ ?_
     rotate_left
     ·go_simp
      rfl
     refine hK.out _ _ (((cell_far (p := ⟨gb261, _, none⟩) NB254_261.out _).trans (hHeld))) (fun hHeld => ?_)
     clear hK K
     refine pure_ (i := 15) (N := some 6) (v := ?_) (a' := ?_) #[true, true, true, true, true, true, true, true, true, true, true, true, true, true, true, true] rfl rfl (any_of HT_.out (by kernel_rfl)) (fun _ _ _ h => h) (Or.inl ⟨by rfl, ?_⟩) ?_ ?_
     rotate_left
     ·intro w'
      go_simp
      with_reducible rfl
     rotate_left
     ·simp only [Act.put, List.setIfInBounds_toArray, List.set_cons_zero, List.set_cons_succ, i64_w, i32_w]
      rfl
     refine done_ (done_of HT_.out (by kernel_rfl)) ?_
     have hnb27 := NB261_254.out
     have hnc27 := NB254_261.out
     have hnb28 := NB261_255.out
     have hnc28 := NB255_261.out
     have hcz29_0 : w24.cell? ⟨gb261, 0, none⟩ = some (.slice none 0 0) := (blk_cell BK261.out 0).trans rfl
     have hfz29_0 := blk_frozen BK261.out 0
     have hcz30_0 : w24.cell? ⟨gb255, 0, none⟩ = some (.slice none 0 0) := (blk_cell BK255.out 0).trans rfl
     have hfz30_0 := blk_frozen BK255.out 0
     try go_wp2
     refine bodyPost_ret (results_cell_row rfl _ _ gb255 38 #[.slice Ao25 t257.length co25] (0, 0) _ rfl (by refine hkz ?_; refine blk_put (cs := #[.slice none 0 0]) ?_ 0 _ rfl; refine hkz ?_; refine blk_far ?_ NB255_261.out _; refine hkz ?_; exact BK255.out) Try.underlying38 rfl (by kernel_rfl)) rfl ?_
     exact ⟨_, by first | rfl | (simp [errW_none, errW_some] <;> rfl) | (simp only [← hji9, ← hji12, ← hji14]; first | rfl | (simp [errW_none, errW_some] <;> rfl)) | (simp [*, errW_none, errW_some] <;> rfl), by (with_reducible repeat (first | apply Kd.R_alloc | apply Kd.R_drewN | apply Kd.R_drew)); exact Kd.R_mono (Kd.R_far (p := ⟨gb255, 0, none⟩) (Kd.R_far (p := ⟨gb261, 0, none⟩) (Kd.R_types (Kd.R_types HO259.out BK261.out (by decide)) BK255.out (by decide)) (fun _ hk => hk.1.2) (.slice Ao25 t257.length co25)) (fun _ hk => hk.2) (.slice Ao25 t257.length co25)) (fun _ hk => trivial), hkS HB⟩
    ·rw [if_neg c13] at H
     exact absurd H (by simp)
   ·rw [if_neg c11] at H
    exact absurd H (by simp)
  ·rw [if_neg c10] at H
   exact absurd H (by simp)

end Go.Proofs.Ytgjpahofopoflaa.PFnDyTops
