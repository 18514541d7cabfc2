-- Written by our own driver (wip/hand/hprint.py) over the seat's translation.
import Derived.Test.YtgjpahofopoflaaPFnExactNatDivx0
import Derived.Test.YtgjpahofopoflaaPFnExactNatDivx12
namespace Go.Proofs.Ytgjpahofopoflaa.PFnExactNatDiv
open Go.RowKit Go.Proofs.YtgjpahofopoflaaW.PrintWords Go.Proofs.YtgjpahofopoflaaW.PrintLast Go.Proofs.YtgjpahofopoflaaW.PrintMore
attribute [local go_sem] max2_int min2_int max_two min_two max_three min_three max_four min_four   -- for this text's walks alone
set_option linter.unusedVariables false
set_option linter.unusedSimpArgs false

/-! ### spec_l2small: function 111 -/
def spec_l2small.l0 : Nat → Int → List Int → Int → Int → List Int → Option (List Int × Int)
 | 0, _, _, _, _, _ => none
 | k + 1, x1, x6, x7, x8, x273000 => if x8 ≥ 0 then (if 0 ≤ x8 then (if x8 < (x273000.length : Int) then (if x1 = 0 then (none) else (if x8 < (x6.length : Int) then (spec_l2small.l0 k x1 (x6.set (x8 : Int).toNat (wrap64 (Int.tdiv (wrap64 ((wrap64 (x7 * 65536)) + (rd x273000 x8))) x1))) (Int.tmod (wrap64 ((wrap64 (x7 * 65536)) + (rd x273000 x8))) x1) (wrap64 (x8 - 1)) x273000) else (none))) else (none)) else (none)) else ((spec_l2norm.f k x6).bind fun t279 => (some (t279, x7)))
def spec_l2small.f (k : Nat) (l0_0 : List Int) (a1 : Int) : Option (List Int × Int) := if 0 ≤ (l0_0.length : Int) then (if ((l0_0.length : Int) : Int).toNat ≤ 35184372088832 then (spec_l2small.l0 k a1 (List.replicate ((l0_0.length : Int) : Int).toNat 0) 0 (wrap64 ((l0_0.length : Int) - 1)) l0_0) else (none)) else (none)
theorem spec_l2small.mono_l : ∀ k, (∀ y0 y1 y2 y3 y4, LeO (spec_l2small.l0 k y0 y1 y2 y3 y4) (spec_l2small.l0 (k + 1) y0 y1 y2 y3 y4))
 | 0 => fun _ _ _ _ _ r h => by simp [spec_l2small.l0] at h
 | k + 1 => by
  have ih0 := spec_l2small.mono_l k
  ·intro y0 y1 y2 y3 y4
   unfold spec_l2small.l0
   repeat' first
   | (with_reducible exact ih0 _ _ _ _ _)
   | (with_reducible exact spec_l2norm.mono _ _)
   | (with_reducible exact LeO.refl _)
   | (with_reducible exact LeO.none _)
   | (with_reducible refine LeO.ite ?_ ?_)
   | (with_reducible refine LeO.bind ?_ (fun _ => ?_))
   | exact ih0 _ _ _ _ _
   | exact spec_l2norm.mono _ _
   | exact LeO.none _
   | refine LeO.ite ?_ ?_
   | refine LeO.bind ?_ (fun _ => ?_)
theorem spec_l2small.mono : ∀ a0 a1 k, LeO (spec_l2small.f k a0 a1) (spec_l2small.f (k + 1) a0 a1) := by
 intro a0 a1 k
 have ih0 := spec_l2small.mono_l k
 unfold spec_l2small.f
 repeat' first
   | (with_reducible exact ih0 _ _ _ _ _)
   | (with_reducible exact spec_l2norm.mono _ _)
   | (with_reducible exact LeO.refl _)
   | (with_reducible exact LeO.none _)
   | (with_reducible refine LeO.ite ?_ ?_)
   | (with_reducible refine LeO.bind ?_ (fun _ => ?_))
   | exact ih0 _ _ _ _ _
   | exact spec_l2norm.mono _ _
   | exact LeO.none _
   | refine LeO.ite ?_ ?_
   | refine LeO.bind ?_ (fun _ => ?_)
set_option maxHeartbeats 8000000 in
set_option maxRecDepth 100000 in
theorem spec_l2small.calls (k : Nat) (A0_0 : Option Addr) (c0_0 : Nat) (l0_0 : List Int) (a1 : Int) (r1 : List Int) (r2 : Int) (w : World) (hr0_0 : Kd.C (Kd.int .i64) w A0_0 l0_0.length l0_0) (hc0_0 : l0_0.length ≤ c0_0) (h : spec_l2small.f k l0_0 a1 = some (r1, r2)) :
  Calls Try.prog 111 #[.agg #[.slice A0_0 l0_0.length c0_0], .int .i64 a1] w fun e w' => ∃ v0_ : Value, e = .returned (.tuple #[.agg #[v0_], .int .i64 r2]) ∧ Kd.R (Kd.int .i64) 3 w' w.heap.size (fun _ => True) v0_ r1 ∧ Below w.heap.size w w' := by
 have hu38 := Try.underlying38
 have HR0_0 := Aside0.mk hr0_0
 have HC0_0 := Aside0.mk hc0_0
 clear hr0_0 hc0_0
 have HB := Aside0.mk (Below.refl w.heap.size w)
 have H : (if 0 ≤ (l0_0.length : Int) then (if ((l0_0.length : Int) : Int).toNat ≤ 35184372088832 then (spec_l2small.l0 k a1 (List.replicate ((l0_0.length : Int) : Int).toNat 0) 0 (wrap64 ((l0_0.length : Int) - 1)) l0_0) else (none)) else (none)) = some (r1, r2) := h
 clear h
 by_cases c3 : 0 ≤ (l0_0.length : Int)
 ·rw [if_pos c3] at H
  have c3b0 := eq_true c3
  have c3b1 : decide (0 ≤ (l0_0.length : Int)) = true := decide_eq_true c3
  clear c3
  by_cases c4 : ((l0_0.length : Int) : Int).toNat ≤ 35184372088832
  ·rw [if_pos c4] at H
   have c4b0 := eq_true c4
   have c4b1 : decide (((l0_0.length : Int) : Int).toNat ≤ 35184372088832) = true := decide_eq_true c4
   clear c4
   obtain ⟨y274, hy274⟩ : ∃ y_ : List Int, y_ = (List.replicate ((l0_0.length : Int) : Int).toNat 0) := ⟨_, rfl⟩
   replace H : (spec_l2small.l0 k a1 y274 0 (wrap64 ((l0_0.length : Int) - 1)) l0_0) = some (r1, r2) := by first | (rw [hy274]; with_reducible exact H) | (have H2_ := (Option.bind_some _ _).symm.trans H; rw [hy274]; with_reducible exact H2_) | (have H2_ := (Option.bind_some _ _).symm.trans H; with_reducible exact H2_) | with_reducible exact H | (rw [hy274]; exact H) | exact H
   have Ny274 := Aside0.mk hy274
   clear hy274
   have H' := Aside0.mk H
   clear H
   go_enter Try.func111, Try.ntmps111
   go_wp2_with (first | ((with_reducible refine gate_dst (N := 2) rfl ?_); refine hkBox (N := 2) (cs := #[.slice A0_0 l0_0.length c0_0]) (t := 38) ?_; intro gb272 hg w5 hbox hb; have n_ := hkA (hkU HB hb) (hkA (Aside0.mk (hbox)) (hkA (hkG hg (hkS HB)) (hkG hg (hkS HB)))); clear HB; obtain ⟨HB, BK272, GW272, GE272⟩ := n_; clear hb hbox hg) | ((with_reducible refine gate_dst (N := 4) rfl ?_); refine hkBox (N := 4) (cs := #[.slice none 0 0]) (t := 38) ?_; intro gb273 hg w6 hbox hb; have n_ := hkA (hkBb BK272 hb) (hkA (hkU HB hb) (hkA (Aside0.mk (hbox)) (hkA (hkG hg (hkS HB)) (hkA (hkG hg (hkS HB)) (hkA (hkN hg BK272) (hkM hg BK272)))))); clear BK272 HB; obtain ⟨BK272, HB, BK273, GW273, GE273, NB272_273, NB273_272⟩ := n_; clear hb hbox hg; have hnb7 := NB272_273.out; have hnc7 := NB273_272.out; obtain ⟨hcz8_0, hfz8_0⟩ := hkc1 BK272) | ((with_reducible refine gate_dst (N := 13) rfl ?_); refine Kd.R_make (Kd.int .i64) _ 3 rfl (N := 13) rfl 29 _ _ rfl (l0_0.length : Int) rfl rfl Try.underlying29 (.int .i64 0) 8 info3 rfl (by decide) (by omega) 0 (ok := fun _ => True) (okp := fun _ => True) rfl (fun _ hk => hk) trivial (of_decide_eq_true (by first | (with_reducible assumption) | assumption)) (Nat.le_trans (Nat.mul_le_mul_right _ (of_decide_eq_true (by first | (with_reducible assumption) | assumption) : (l0_0.length : Int).toNat ≤ 35184372088832)) (by omega)) (Below.refl _ _) (Nat.le_refl _) ?_; intro v275 w9 ho10 hb hg_ hnew_; clear hg_ hnew_; (first | rw [← Ny274.out] at ho10 | (simp only [Int.reduceToNat] at ho10; rw [← Ny274.out] at ho10) | (simp only [Int.toNat_zero, List.replicate_zero] at ho10; rw [← Ny274.out] at ho10)); have n_ := hkA (Aside0.mk (Kd.R_lower ho10 (below_size (hkS HB)))) (hkA (hkBb BK272 hb) (hkA (hkBb BK273 hb) (hkU HB hb))); clear BK272 BK273 HB; obtain ⟨HO276, BK272, BK273, HB⟩ := n_; clear hb ho10; obtain ⟨hcz11_0, hfz11_0⟩ := hkc1 BK272))
   go_loopg [7, 8] k (fun kq v7 v8 w' => ∃ (x6_1 : List Int) (x7_1 : Int) (x8_1 : Int), v7 = .int .i64 x7_1 ∧ v8 = .int .i64 x8_1 ∧ Aside0 (spec_l2small.l0 kq a1 x6_1 x7_1 x8_1 l0_0 = some (r1, r2)) ∧ Aside0 (kq ≤ k) ∧ Aside0 (Kd.R (Kd.int .i64) 3 w' w.heap.size (fun _ => True) v275 x6_1) ∧ Aside0 (w'.heap[gb272]? = some (.cells #[(.slice A0_0 l0_0.length c0_0)] 38 (0, 0))) ∧ Aside0 (w'.heap[gb273]? = some (.cells #[(.slice none 0 0)] 38 (0, 0))) ∧ Aside0 (Below w.heap.size w w'))
   case atStart => exact ⟨(y274), (0), (wrap64 ((l0_0.length : Int) - 1)), (by first | rfl | (simp; done) | (simp [*]; done)), (by first | rfl | (simp; done) | (simp [*]; done)), H', ⟨Nat.le_refl _⟩, ⟨by (with_reducible repeat (first | apply Kd.R_alloc | apply Kd.R_drewN | apply Kd.R_drew)); exact HO276.out⟩, ⟨by refine hkz ?_; exact BK272.out⟩, ⟨by refine hkz ?_; exact BK273.out⟩, ⟨hkS HB⟩⟩
   case round =>
    clear H'
    try clear c1
    try clear p2
    try clear c3
    try clear c3b0
    try clear c3b1
    try clear c4
    try clear c4b0
    try clear c4b1
    try clear p6
    try clear c7
    try clear c11
    try clear hcz11_0 hcz8_0 hfz11_0 hfz8_0
    obtain ⟨x6_1, x7_1, x8_1, rfl, rfl, HA, HK1, HO_6, BK272, BK273, HB⟩ := hrel
    cases gk with
    | zero => exact absurd HA.out (by simp [spec_l2small.l0])
    | succ k1 =>
     have H := HA.out
     clear HA
     simp only [spec_l2small.l0] at H
     by_cases c12 : x8_1 ≥ 0
     ·rw [if_pos c12] at H
      have c12b0 : decide (0 ≤ x8_1) = true := decide_eq_true c12
      clear c12
      by_cases c13 : 0 ≤ x8_1
      ·rw [if_pos c13] at H
       have c13b0 : decide (0 ≤ x8_1) = true := decide_eq_true c13
       clear c13
       by_cases c14 : x8_1 < (l0_0.length : Int)
       ·rw [if_pos c14] at H
        have c14b0 : decide (x8_1 < (l0_0.length : Int)) = true := decide_eq_true c14
        clear c14
        by_cases c15 : a1 = 0
        ·rw [if_pos c15] at H
         exact absurd H (by simp)
        ·rw [if_neg c15] at H
         have c15b0 : (a1 == 0) = false := beq_eq_false_iff_ne.mpr c15
         have c15b1 : (a1 != 0) = true := bne_iff_ne.mpr c15
         by_cases c16 : x8_1 < (x6_1.length : Int)
         ·rw [if_pos c16] at H
          have c16b0 : decide (x8_1 < (x6_1.length : Int)) = true := decide_eq_true c16
          clear c16
          obtain ⟨y278, hy278⟩ : ∃ y_ : List Int, y_ = (x6_1.set (x8_1 : Int).toNat (wrap64 (Int.tdiv (wrap64 ((wrap64 (x7_1 * 65536)) + (rd l0_0 x8_1))) a1))) := ⟨_, rfl⟩
          replace H : (spec_l2small.l0 k1 a1 y278 (Int.tmod (wrap64 ((wrap64 (x7_1 * 65536)) + (rd l0_0 x8_1))) a1) (wrap64 (x8_1 - 1)) l0_0) = some (r1, r2) := by first | (rw [hy278]; with_reducible exact H) | (have H2_ := (Option.bind_some _ _).symm.trans H; rw [hy278]; with_reducible exact H2_) | (have H2_ := (Option.bind_some _ _).symm.trans H; with_reducible exact H2_) | with_reducible exact H | (rw [hy278]; exact H) | exact H
          have Ny278 := Aside0.mk hy278
          clear hy278
          have H' := Aside0.mk H
          clear H
          have hnb18 := NB272_273.out
          have hnc18 := NB273_272.out
          obtain ⟨hcz19_0, hfz19_0⟩ := hkc1 BK272
          have p277 : 0 ≤ (x8_1 : Int) := of_decide_eq_true (by first | (with_reducible assumption) | assumption)
          have q277 : x8_1 < (l0_0.length : Int) := of_decide_eq_true (by first | (with_reducible assumption) | assumption)
          obtain ⟨ad277, e277, hx277_0⟩ := Kd.at_int HR0_0.out x8_1 p277 q277
          cases e277
          replace hx277_0 := (HB.out.cell (World.block_lt_of_cell? w _ hx277_0)).trans hx277_0
          replace p277 := eq_true p277
          replace q277 := eq_true q277
          have p17 : 0 ≤ (x8_1 : Int) := of_decide_eq_true (by first | (with_reducible assumption) | assumption)
          have q17 : (x8_1 : Int) < ((x6_1.length : Int) : Int) := of_decide_eq_true (by first | (with_reducible assumption) | assumption)
          obtain ⟨go17, co17, eo17, gb17, gl17, cl17, HG17⟩ := Kd.R_form HO_6.out (by omega)
          (first | cases eo17 | (injection eo17 with ea_ en_ ec_; (first | subst ea_ | (injection ea_ with ea_; subst ea_)); subst ec_; clear en_))
          have GB17 := Aside0.mk gb17
          have GG17 := Aside0.mk HG17
          clear gb17 gl17 HG17
          obtain ⟨hx17_0, hf17_0⟩ := Kd.R_celln 0 HO_6.out (x8_1 : Int) p17 q17
          replace p17 := eq_true p17
          replace q17 := eq_true q17
          have HP20 := Kd.R_putg HO_6.out (x8_1 : Int) (wrap64 (Int.tdiv (wrap64 ((wrap64 (x7_1 * 65536)) + (rd l0_0 x8_1))) a1))
          go_wp2_with (first | ((with_reducible refine gate_store (t := 3) (p := 35) rfl ?_); refine store_event (t := 3) (p := 35) (v := ?vo_w21) (w1 := (wr.setCell ⟨go17, (x8_1 : Int).toNat, none⟩ (.int .i64 (wrap64 (Int.tdiv (wrap64 ((wrap64 (x7_1 * 65536)) + (rd l0_0 x8_1))) a1))))) ?hg ?ho ?hn ?hr ?_; (case ho => rfl); (case hg => rfl); (case hn => rfl); (case hr => first | (go_simp; done) | (go_simp; rfl)); intro w21 hw; have hg : wr.grownBy w21 (some go17) := (by rw [hw]; exact HP20.2); have hp_ : Kd.R (Kd.int .i64) 3 w21 w.heap.size (fun _ => True) (.slice (some ⟨go17, 0, none⟩) x6_1.length co17) y278 := (by rw [hw, Ny278.out]; exact HP20.1); clear HP20; have n_ := hkA (Aside0.mk (hp_)) (hkA (Aside0.mk (blk_grown (g := gb272) (o := .cells #[.slice (some ad277) l0_0.length c0_0] 38 (0, 0)) (hkB BK272) hg (Kd.R_ne HO_6.out BK272.out (by decide)))) (hkA (Aside0.mk (blk_grown (g := gb273) (o := .cells #[.slice none 0 0] 38 (0, 0)) (hkB BK273) hg (Kd.R_ne HO_6.out BK273.out (by decide)))) (Aside0.mk ((by rw [hw]; exact below_set (HB.out) GB17.out : Below w.heap.size w w21))))); clear HO_6 BK272 BK273 HB; obtain ⟨HO_6, BK272, BK273, HB⟩ := n_; clear hg hw hp_))
          go_roundg k1
          case measure => have := HK1.out; omega
          case rel => exact ⟨(y278), (Int.tmod (wrap64 ((wrap64 (x7_1 * 65536)) + (rd l0_0 x8_1))) a1), (wrap64 (x8_1 - 1)), (by first | rfl | (simp; done) | (simp [*]; done)), (by first | rfl | (simp; done) | (simp [*]; done)), H', ⟨by have := HK1.out; omega⟩, ⟨by (with_reducible repeat (first | apply Kd.R_alloc | apply Kd.R_drewN | apply Kd.R_drew)); exact HO_6.out⟩, ⟨by refine hkz ?_; exact BK272.out⟩, ⟨by refine hkz ?_; exact BK273.out⟩, ⟨hkS HB⟩⟩
         ·rw [if_neg c16] at H
          exact absurd H (by simp)
       ·rw [if_neg c14] at H
        exact absurd H (by simp)
      ·rw [if_neg c13] at H
       exact absurd H (by simp)
     ·rw [if_neg c12] at H
      have c12b0 : decide (0 ≤ x8_1) = false := decide_eq_false c12
      clear c12
      replace H := hBi H
      obtain ⟨t279, A220, H⟩ := H
      replace H : (some (t279, x7_1)) = some (r1, r2) := H
      have A22 := Aside0.mk A220
      clear A220
      simp only [Option.some.injEq, Prod.mk.injEq] at H
      obtain ⟨rfl, rfl⟩ := H
      obtain ⟨Ao23, co23, eo23⟩ := Kd.R_slice HO_6.out
      subst eo23
      go_wp2_with (first | ((with_reducible refine gate_callee (f := 99) rfl ?_); refine hkGo (N := some 40) Try.func99 #[.slice Ao23 x6_1.length co23] ?_; (with_reducible refine (spec_l2norm.calls k1 _ _ x6_1 t279 _ ?side1 ?side2 A22.out).mono ?_); (case side1 => exact hkC ((Kd.R_reads' HO_6.out).2.2)); (case side2 => exact (Kd.R_reads' HO_6.out).2.1); rintro e w24 ⟨v280, rfl, ho0, hb⟩; refine ⟨_, rfl, ?_⟩; have n_ := hkA (Aside0.mk (Kd.R_elder' (hkR HO_6) (Kd.R_base ho0) hb)) (hkA (Aside0.mk (Kd.R_lower (Kd.R_new' ho0 (Kd.R_lt (hkR HO_6))) (below_size (hkS HB)))) (hkA (hkBb BK272 hb) (hkA (hkBb BK273 hb) (hkU HB hb)))); clear HO_6 BK272 BK273 HB; obtain ⟨HO_6, HO281, BK272, BK273, HB⟩ := n_; (try clear hb); (try clear ho0); obtain ⟨Ao25, co25, eo25⟩ := Kd.R_slice HO281.out; subst eo25; have hnb26 := NB273_272.out; have hnc26 := NB272_273.out; obtain ⟨hcz27_0, hfz27_0⟩ := hkc1 BK273))
      refine bodyPost_ret (results_ct rfl _ _ gb273 38 #[.slice Ao25 t279.length co25] (0, 0) _ rfl hkPp Try.underlying38 rfl (by kernel_rfl)) rfl ?_
      exact ⟨_, hkE, by (with_reducible repeat (first | apply Kd.R_alloc | apply Kd.R_drewN | apply Kd.R_drew)); exact Kd.R_mono (Kd.R_far (p := ⟨gb273, 0, none⟩) (Kd.R_types HO281.out BK273.out (by decide)) (fun _ hk => hk.2) (.slice Ao25 t279.length co25)) (fun _ hk => trivial), hkS HB⟩
  ·rw [if_neg c4] at H
   exact absurd H (by simp)
 ·rw [if_neg c3] at H
  exact absurd H (by simp)

end Go.Proofs.Ytgjpahofopoflaa.PFnExactNatDiv
