-- Written by our own driver (wip/hand/hprint.py) over the seat's translation.
import Derived.Test.YtgjpahofopoflaaPFnExactNatDivx0
import Derived.Test.YtgjpahofopoflaaPFnExactNatDivx12
namespace Go.Proofs.Ytgjpahofopoflaa.PFnExactNatDiv
open Go.RowKit Go.Proofs.YtgjpahofopoflaaW.PrintWords Go.Proofs.YtgjpahofopoflaaW.PrintLast Go.Proofs.YtgjpahofopoflaaW.PrintMore
attribute [local go_sem] max2_int min2_int max_two min_two max_three min_three max_four min_four   -- for this text's walks alone
set_option linter.unusedVariables false
set_option linter.unusedSimpArgs false

/-! ### spec_l2sub: function 113 -/
def spec_l2sub.l0 : Nat → List Int → Int → Int → List Int → List Int → Option (List Int)
 | 0, _, _, _, _, _ => none
 | k + 1, x5, x6, x7, x289000, x290000 => if x7 < (x289000.length : Int) then (if 0 ≤ x7 then (if x7 < (x290000.length : Int) then (if (wrap64 ((wrap64 ((rd x289000 x7) - x6)) - (rd x290000 x7))) < 0 then (if x5.length < 17592186044416 then (spec_l2sub.l0 k (x5 ++ [wrap64 ((wrap64 ((wrap64 ((rd x289000 x7) - x6)) - (rd x290000 x7))) + 65536)]) 1 (wrap64 (x7 + 1)) x289000 x290000) else (none)) else (if x5.length < 17592186044416 then (spec_l2sub.l0 k (x5 ++ [wrap64 ((wrap64 ((rd x289000 x7) - x6)) - (rd x290000 x7))]) 0 (wrap64 (x7 + 1)) x289000 x290000) else (none))) else (if (wrap64 ((rd x289000 x7) - x6)) < 0 then (if x5.length < 17592186044416 then (spec_l2sub.l0 k (x5 ++ [wrap64 ((wrap64 ((rd x289000 x7) - x6)) + 65536)]) 1 (wrap64 (x7 + 1)) x289000 x290000) else (none)) else (if x5.length < 17592186044416 then (spec_l2sub.l0 k (x5 ++ [wrap64 ((rd x289000 x7) - x6)]) 0 (wrap64 (x7 + 1)) x289000 x290000) else (none)))) else (none)) else ((spec_l2norm.f k x5).bind fun t291 => (some t291))
def spec_l2sub.f (k : Nat) (l0_0 : List Int) (l1_0 : List Int) : Option (List Int) := spec_l2sub.l0 k ([] : List Int) 0 0 l0_0 l1_0
theorem spec_l2sub.mono_l : ∀ k, (∀ y0 y1 y2 y3 y4, LeO (spec_l2sub.l0 k y0 y1 y2 y3 y4) (spec_l2sub.l0 (k + 1) y0 y1 y2 y3 y4))
 | 0 => fun _ _ _ _ _ r h => by simp [spec_l2sub.l0] at h
 | k + 1 => by
  have ih0 := spec_l2sub.mono_l k
  ·intro y0 y1 y2 y3 y4
   unfold spec_l2sub.l0
   repeat' first
   | (with_reducible exact ih0 _ _ _ _ _)
   | (with_reducible exact spec_l2norm.mono _ _)
   | (with_reducible exact LeO.refl _)
   | (with_reducible exact LeO.none _)
   | (with_reducible refine LeO.ite ?_ ?_)
   | (with_reducible refine LeO.bind ?_ (fun _ => ?_))
   | exact ih0 _ _ _ _ _
   | exact spec_l2norm.mono _ _
   | exact LeO.none _
   | refine LeO.ite ?_ ?_
   | refine LeO.bind ?_ (fun _ => ?_)
theorem spec_l2sub.mono : ∀ a0 a1 k, LeO (spec_l2sub.f k a0 a1) (spec_l2sub.f (k + 1) a0 a1) := by
 intro a0 a1 k
 have ih0 := spec_l2sub.mono_l k
 unfold spec_l2sub.f
 repeat' first
   | (with_reducible exact ih0 _ _ _ _ _)
   | (with_reducible exact spec_l2norm.mono _ _)
   | (with_reducible exact LeO.refl _)
   | (with_reducible exact LeO.none _)
   | (with_reducible refine LeO.ite ?_ ?_)
   | (with_reducible refine LeO.bind ?_ (fun _ => ?_))
   | exact ih0 _ _ _ _ _
   | exact spec_l2norm.mono _ _
   | exact LeO.none _
   | refine LeO.ite ?_ ?_
   | refine LeO.bind ?_ (fun _ => ?_)
set_option maxHeartbeats 8000000 in
set_option maxRecDepth 100000 in
theorem spec_l2sub.calls (k : Nat) (A0_0 : Option Addr) (c0_0 : Nat) (l0_0 : List Int) (A1_0 : Option Addr) (c1_0 : Nat) (l1_0 : List Int) (r : List Int) (w : World) (hr0_0 : Kd.C (Kd.int .i64) w A0_0 l0_0.length l0_0) (hc0_0 : l0_0.length ≤ c0_0) (hr1_0 : Kd.C (Kd.int .i64) w A1_0 l1_0.length l1_0) (hc1_0 : l1_0.length ≤ c1_0) (h : spec_l2sub.f k l0_0 l1_0 = some r) :
  Calls Try.prog 113 #[.agg #[.slice A0_0 l0_0.length c0_0], .agg #[.slice A1_0 l1_0.length c1_0]] w fun e w' => ∃ v0_ : Value, e = .returned (.agg #[v0_]) ∧ Kd.R (Kd.int .i64) 3 w' w.heap.size (fun _ => True) v0_ r ∧ Below w.heap.size w w' := by
 have hu38 := Try.underlying38
 have HR0_0 := Aside0.mk hr0_0
 have HC0_0 := Aside0.mk hc0_0
 clear hr0_0 hc0_0
 have HR1_0 := Aside0.mk hr1_0
 have HC1_0 := Aside0.mk hc1_0
 clear hr1_0 hc1_0
 have HB := Aside0.mk (Below.refl w.heap.size w)
 have H : (spec_l2sub.l0 k ([] : List Int) 0 0 l0_0 l1_0) = some r := h
 clear h
 have H' := Aside0.mk H
 clear H
 go_enter Try.func113, Try.ntmps113
 go_wp2_with (first | ((with_reducible refine gate_dst (N := 2) rfl ?_); refine hkBox (N := 2) (cs := #[.slice A0_0 l0_0.length c0_0]) (t := 38) ?_; intro gb288 hg w3 hbox hb; have n_ := hkA (hkU HB hb) (hkA (Aside0.mk (hbox)) (hkA (hkG hg (hkS HB)) (hkG hg (hkS HB)))); clear HB; obtain ⟨HB, BK288, GW288, GE288⟩ := n_; clear hb hbox hg) | ((with_reducible refine gate_dst (N := 3) rfl ?_); refine hkBox (N := 3) (cs := #[.slice A1_0 l1_0.length c1_0]) (t := 38) ?_; intro gb289 hg w4 hbox hb; have n_ := hkA (hkBb BK288 hb) (hkA (hkU HB hb) (hkA (Aside0.mk (hbox)) (hkA (hkG hg (hkS HB)) (hkA (hkG hg (hkS HB)) (hkA (hkN hg BK288) (hkM hg BK288)))))); clear BK288 HB; obtain ⟨BK288, HB, BK289, GW289, GE289, NB288_289, NB289_288⟩ := n_; clear hb hbox hg) | ((with_reducible refine gate_dst (N := 4) rfl ?_); refine hkBox (N := 4) (cs := #[.slice none 0 0]) (t := 38) ?_; intro gb290 hg w5 hbox hb; have n_ := hkA (hkBb BK288 hb) (hkA (hkBb BK289 hb) (hkA (hkU HB hb) (hkA (Aside0.mk (hbox)) (hkA (hkG hg (hkS HB)) (hkA (hkG hg (hkS HB)) (hkA (hkN hg BK288) (hkA (hkM hg BK288) (hkA (hkN hg BK289) (hkM hg BK289))))))))); clear BK288 BK289 HB; obtain ⟨BK288, BK289, HB, BK290, GW290, GE290, NB288_290, NB290_288, NB289_290, NB290_289⟩ := n_; clear hb hbox hg))
 go_loopg [5, 6, 7] k (fun kq v5 v6 v7 w' => ∃ (x5_1 : List Int) (x6_1 : Int) (x7_1 : Int), v6 = .int .i64 x6_1 ∧ v7 = .int .i64 x7_1 ∧ Aside0 (spec_l2sub.l0 kq x5_1 x6_1 x7_1 l0_0 l1_0 = some r) ∧ Aside0 (kq ≤ k) ∧ Aside0 (Kd.R (Kd.int .i64) 3 w' w.heap.size (fun _ => True) v5 x5_1) ∧ Aside0 (w'.heap[gb288]? = some (.cells #[(.slice A0_0 l0_0.length c0_0)] 38 (0, 0))) ∧ Aside0 (w'.heap[gb289]? = some (.cells #[(.slice A1_0 l1_0.length c1_0)] 38 (0, 0))) ∧ Aside0 (w'.heap[gb290]? = some (.cells #[(.slice none 0 0)] 38 (0, 0))) ∧ Aside0 (Below w.heap.size w w'))
 case atStart => exact ⟨(([] : List Int)), (0), (0), (by first | rfl | (simp; done) | (simp [*]; done)), (by first | rfl | (simp; done) | (simp [*]; done)), H', ⟨Nat.le_refl _⟩, ⟨by first | exact Kd.R_nil _ _ _ _ _ | exact Kd.N_nil _ _ _ _ _ | exact Kd.V_nil _ _ _ _ _ | exact Kd.Q_nil _ _ _ _ _ | exact Kd.S_nil _ _ _ _ _⟩, ⟨by refine hkz ?_; exact BK288.out⟩, ⟨by refine hkz ?_; exact BK289.out⟩, ⟨by refine hkz ?_; exact BK290.out⟩, ⟨hkS HB⟩⟩
 case round =>
  clear H'
  try clear c1
  try clear p2
  obtain ⟨x5_1, x6_1, x7_1, rfl, rfl, HA, HK1, HO_5, BK288, BK289, BK290, HB⟩ := hrel
  cases gk with
  | zero => exact absurd HA.out (by simp [spec_l2sub.l0])
  | succ k1 =>
   have H := HA.out
   clear HA
   simp only [spec_l2sub.l0] at H
   by_cases c6 : x7_1 < (l0_0.length : Int)
   ·rw [if_pos c6] at H
    have c6b0 : decide (x7_1 < (l0_0.length : Int)) = true := decide_eq_true c6
    clear c6
    by_cases c7 : 0 ≤ x7_1
    ·rw [if_pos c7] at H
     have c7b0 : decide (0 ≤ x7_1) = true := decide_eq_true c7
     clear c7
     by_cases c8 : x7_1 < (l1_0.length : Int)
     ·rw [if_pos c8] at H
      have c8b0 : decide (x7_1 < (l1_0.length : Int)) = true := decide_eq_true c8
      clear c8
      by_cases c9 : (wrap64 ((wrap64 ((rd l0_0 x7_1) - x6_1)) - (rd l1_0 x7_1))) < 0
      ·rw [if_pos c9] at H
       have c9b0 : decide ((wrap64 ((wrap64 ((rd l0_0 x7_1) - x6_1)) - (rd l1_0 x7_1))) < 0) = true := decide_eq_true c9
       clear c9
       by_cases c10 : x5_1.length < 17592186044416
       ·rw [if_pos c10] at H
        have LMc10 := Aside0.mk c10
        clear c10
        obtain ⟨y296, hy296⟩ : ∃ y_ : List Int, y_ = (x5_1 ++ [wrap64 ((wrap64 ((wrap64 ((rd l0_0 x7_1) - x6_1)) - (rd l1_0 x7_1))) + 65536)]) := ⟨_, rfl⟩
        replace H : (spec_l2sub.l0 k1 y296 1 (wrap64 (x7_1 + 1)) l0_0 l1_0) = some r := by first | (rw [hy296]; with_reducible exact H) | (have H2_ := (Option.bind_some _ _).symm.trans H; rw [hy296]; with_reducible exact H2_) | (have H2_ := (Option.bind_some _ _).symm.trans H; with_reducible exact H2_) | with_reducible exact H | (rw [hy296]; exact H) | exact H
        have Ny296 := Aside0.mk hy296
        clear hy296
        have H' := Aside0.mk H
        clear H
        have hnb11 := NB288_289.out
        have hnc11 := NB289_288.out
        have hnb12 := NB288_290.out
        have hnc12 := NB290_288.out
        obtain ⟨hcz13_0, hfz13_0⟩ := hkc1 BK288
        have p294 : 0 ≤ (x7_1 : Int) := of_decide_eq_true (by first | (with_reducible assumption) | assumption)
        have q294 : x7_1 < (l0_0.length : Int) := of_decide_eq_true (by first | (with_reducible assumption) | assumption)
        obtain ⟨ad294, e294, hx294_0⟩ := Kd.at_int HR0_0.out x7_1 p294 q294
        cases e294
        replace hx294_0 := (HB.out.cell (World.block_lt_of_cell? w _ hx294_0)).trans hx294_0
        replace p294 := eq_true p294
        replace q294 := eq_true q294
        have hnb14 := NB289_290.out
        have hnc14 := NB290_289.out
        obtain ⟨hcz15_0, hfz15_0⟩ := hkc1 BK289
        have p295 : 0 ≤ (x7_1 : Int) := of_decide_eq_true (by first | (with_reducible assumption) | assumption)
        have q295 : x7_1 < (l1_0.length : Int) := of_decide_eq_true (by first | (with_reducible assumption) | assumption)
        obtain ⟨ad295, e295, hx295_0⟩ := Kd.at_int HR1_0.out x7_1 p295 q295
        cases e295
        replace hx295_0 := (HB.out.cell (World.block_lt_of_cell? w _ hx295_0)).trans hx295_0
        replace p295 := eq_true p295
        replace q295 := eq_true q295
        go_wp2_with (first | ((with_reducible refine gate_builtin (b := .append) (xs := #[.tmp 39, .tmp 41]) rfl ?_); at_builtin; refine Kd.R_append (Kd.int .i64) (w0 := w) w.heap.size rfl (.tmp 39) (.tmp 41) 29 3 (.int .i64 0) 8 rfl Try.underlying29 info3 rfl (by decide) (by omega) u5 x5_1 (wrap64 ((wrap64 ((wrap64 ((rd l0_0 x7_1) - x6_1)) - (rd l1_0 x7_1))) + 65536)) [.int .i64 (wrap64 ((wrap64 ((wrap64 ((rd l0_0 x7_1) - x6_1)) - (rd l1_0 x7_1))) + 65536))] (fun _ => True) (fun _ => False) rfl rfl ?aP (fun _ hk => hk.elim) ?aF ?aO ?aB ?aS ?aL ?_; (case aP => exact rfl); (case aB => exact (hkS HB)); (case aF => exact (fun _ _ => trivial)); (case aO => exact (hkR HO_5)); (case aS => exact (below_size (hkS HB))); (case aL => have := LMc10.out; omega); intro v297 w16 ho hb hg hat; rw [← Ny296.out] at ho; have n_ := hkA (Aside0.mk (blk_grown (g := gb288) (o := .cells #[.slice (some ad294) l0_0.length c0_0] 38 (0, 0)) (hkB BK288) hg (Kd.R_ne HO_5.out BK288.out (by decide)))) (hkA (Aside0.mk (blk_grown (g := gb289) (o := .cells #[.slice (some ad295) l1_0.length c1_0] 38 (0, 0)) (hkB BK289) hg (Kd.R_ne HO_5.out BK289.out (by decide)))) (hkA (Aside0.mk (blk_grown (g := gb290) (o := .cells #[.slice none 0 0] 38 (0, 0)) (hkB BK290) hg (Kd.R_ne HO_5.out BK290.out (by decide)))) (hkA (Aside0.mk (hb)) (Aside0.mk (ho))))); clear BK288 BK289 BK290 HB HO_5; obtain ⟨BK288, BK289, BK290, HB, HO298⟩ := n_; clear ho hb hg hat))
        go_roundg k1
        case measure => have := HK1.out; omega
        case rel => exact ⟨(y296), (1), (wrap64 (x7_1 + 1)), (by first | rfl | (simp; done) | (simp [*]; done)), (by first | rfl | (simp; done) | (simp [*]; done)), H', ⟨by have := HK1.out; omega⟩, ⟨by (with_reducible repeat (first | apply Kd.R_alloc | apply Kd.R_drewN | apply Kd.R_drew)); exact HO298.out⟩, ⟨by refine hkz ?_; exact BK288.out⟩, ⟨by refine hkz ?_; exact BK289.out⟩, ⟨by refine hkz ?_; exact BK290.out⟩, ⟨hkS HB⟩⟩
       ·rw [if_neg c10] at H
        exact absurd H (by simp)
      ·rw [if_neg c9] at H
       have c9b0 : decide ((wrap64 ((wrap64 ((rd l0_0 x7_1) - x6_1)) - (rd l1_0 x7_1))) < 0) = false := decide_eq_false c9
       clear c9
       by_cases c17 : x5_1.length < 17592186044416
       ·rw [if_pos c17] at H
        have LMc17 := Aside0.mk c17
        clear c17
        obtain ⟨y299, hy299⟩ : ∃ y_ : List Int, y_ = (x5_1 ++ [wrap64 ((wrap64 ((rd l0_0 x7_1) - x6_1)) - (rd l1_0 x7_1))]) := ⟨_, rfl⟩
        replace H : (spec_l2sub.l0 k1 y299 0 (wrap64 (x7_1 + 1)) l0_0 l1_0) = some r := by first | (rw [hy299]; with_reducible exact H) | (have H2_ := (Option.bind_some _ _).symm.trans H; rw [hy299]; with_reducible exact H2_) | (have H2_ := (Option.bind_some _ _).symm.trans H; with_reducible exact H2_) | with_reducible exact H | (rw [hy299]; exact H) | exact H
        have Ny299 := Aside0.mk hy299
        clear hy299
        have H' := Aside0.mk H
        clear H
        have hnb18 := NB288_289.out
        have hnc18 := NB289_288.out
        have hnb19 := NB288_290.out
        have hnc19 := NB290_288.out
        obtain ⟨hcz20_0, hfz20_0⟩ := hkc1 BK288
        have p294 : 0 ≤ (x7_1 : Int) := of_decide_eq_true (by first | (with_reducible assumption) | assumption)
        have q294 : x7_1 < (l0_0.length : Int) := of_decide_eq_true (by first | (with_reducible assumption) | assumption)
        obtain ⟨ad294, e294, hx294_0⟩ := Kd.at_int HR0_0.out x7_1 p294 q294
        cases e294
        replace hx294_0 := (HB.out.cell (World.block_lt_of_cell? w _ hx294_0)).trans hx294_0
        replace p294 := eq_true p294
        replace q294 := eq_true q294
        have hnb21 := NB289_290.out
        have hnc21 := NB290_289.out
        obtain ⟨hcz22_0, hfz22_0⟩ := hkc1 BK289
        have p295 : 0 ≤ (x7_1 : Int) := of_decide_eq_true (by first | (with_reducible assumption) | assumption)
        have q295 : x7_1 < (l1_0.length : Int) := of_decide_eq_true (by first | (with_reducible assumption) | assumption)
        obtain ⟨ad295, e295, hx295_0⟩ := Kd.at_int HR1_0.out x7_1 p295 q295
        cases e295
        replace hx295_0 := (HB.out.cell (World.block_lt_of_cell? w _ hx295_0)).trans hx295_0
        replace p295 := eq_true p295
        replace q295 := eq_true q295
        go_wp2_with (first | ((with_reducible refine gate_builtin (b := .append) (xs := #[.tmp 39, .tmp 41]) rfl ?_); at_builtin; refine Kd.R_append (Kd.int .i64) (w0 := w) w.heap.size rfl (.tmp 39) (.tmp 41) 29 3 (.int .i64 0) 8 rfl Try.underlying29 info3 rfl (by decide) (by omega) u5 x5_1 (wrap64 ((wrap64 ((rd l0_0 x7_1) - x6_1)) - (rd l1_0 x7_1))) [.int .i64 (wrap64 ((wrap64 ((rd l0_0 x7_1) - x6_1)) - (rd l1_0 x7_1)))] (fun _ => True) (fun _ => False) rfl rfl ?aP (fun _ hk => hk.elim) ?aF ?aO ?aB ?aS ?aL ?_; (case aP => exact rfl); (case aB => exact (hkS HB)); (case aF => exact (fun _ _ => trivial)); (case aO => exact (hkR HO_5)); (case aS => exact (below_size (hkS HB))); (case aL => have := LMc17.out; omega); intro v300 w23 ho hb hg hat; rw [← Ny299.out] at ho; have n_ := hkA (Aside0.mk (blk_grown (g := gb288) (o := .cells #[.slice (some ad294) l0_0.length c0_0] 38 (0, 0)) (hkB BK288) hg (Kd.R_ne HO_5.out BK288.out (by decide)))) (hkA (Aside0.mk (blk_grown (g := gb289) (o := .cells #[.slice (some ad295) l1_0.length c1_0] 38 (0, 0)) (hkB BK289) hg (Kd.R_ne HO_5.out BK289.out (by decide)))) (hkA (Aside0.mk (blk_grown (g := gb290) (o := .cells #[.slice none 0 0] 38 (0, 0)) (hkB BK290) hg (Kd.R_ne HO_5.out BK290.out (by decide)))) (hkA (Aside0.mk (hb)) (Aside0.mk (ho))))); clear BK288 BK289 BK290 HB HO_5; obtain ⟨BK288, BK289, BK290, HB, HO301⟩ := n_; clear ho hb hg hat))
        go_roundg k1
        case measure => have := HK1.out; omega
        case rel => exact ⟨(y299), (0), (wrap64 (x7_1 + 1)), (by first | rfl | (simp; done) | (simp [*]; done)), (by first | rfl | (simp; done) | (simp [*]; done)), H', ⟨by have := HK1.out; omega⟩, ⟨by (with_reducible repeat (first | apply Kd.R_alloc | apply Kd.R_drewN | apply Kd.R_drew)); exact HO301.out⟩, ⟨by refine hkz ?_; exact BK288.out⟩, ⟨by refine hkz ?_; exact BK289.out⟩, ⟨by refine hkz ?_; exact BK290.out⟩, ⟨hkS HB⟩⟩
       ·rw [if_neg c17] at H
        exact absurd H (by simp)
     ·rw [if_neg c8] at H
      have c8b0 : decide (x7_1 < (l1_0.length : Int)) = false := decide_eq_false c8
      clear c8
      by_cases c24 : (wrap64 ((rd l0_0 x7_1) - x6_1)) < 0
      ·rw [if_pos c24] at H
       have c24b0 : decide ((wrap64 ((rd l0_0 x7_1) - x6_1)) < 0) = true := decide_eq_true c24
       clear c24
       by_cases c25 : x5_1.length < 17592186044416
       ·rw [if_pos c25] at H
        have LMc25 := Aside0.mk c25
        clear c25
        obtain ⟨y302, hy302⟩ : ∃ y_ : List Int, y_ = (x5_1 ++ [wrap64 ((wrap64 ((rd l0_0 x7_1) - x6_1)) + 65536)]) := ⟨_, rfl⟩
        replace H : (spec_l2sub.l0 k1 y302 1 (wrap64 (x7_1 + 1)) l0_0 l1_0) = some r := by first | (rw [hy302]; with_reducible exact H) | (have H2_ := (Option.bind_some _ _).symm.trans H; rw [hy302]; with_reducible exact H2_) | (have H2_ := (Option.bind_some _ _).symm.trans H; with_reducible exact H2_) | with_reducible exact H | (rw [hy302]; exact H) | exact H
        have Ny302 := Aside0.mk hy302
        clear hy302
        have H' := Aside0.mk H
        clear H
        have hnb26 := NB288_289.out
        have hnc26 := NB289_288.out
        have hnb27 := NB288_290.out
        have hnc27 := NB290_288.out
        obtain ⟨hcz28_0, hfz28_0⟩ := hkc1 BK288
        have p294 : 0 ≤ (x7_1 : Int) := of_decide_eq_true (by first | (with_reducible assumption) | assumption)
        have q294 : x7_1 < (l0_0.length : Int) := of_decide_eq_true (by first | (with_reducible assumption) | assumption)
        obtain ⟨ad294, e294, hx294_0⟩ := Kd.at_int HR0_0.out x7_1 p294 q294
        cases e294
        replace hx294_0 := (HB.out.cell (World.block_lt_of_cell? w _ hx294_0)).trans hx294_0
        replace p294 := eq_true p294
        replace q294 := eq_true q294
        have hnb29 := NB289_290.out
        have hnc29 := NB290_289.out
        obtain ⟨hcz30_0, hfz30_0⟩ := hkc1 BK289
        go_wp2_with (first | ((with_reducible refine gate_builtin (b := .append) (xs := #[.tmp 39, .tmp 41]) rfl ?_); at_builtin; refine Kd.R_append (Kd.int .i64) (w0 := w) w.heap.size rfl (.tmp 39) (.tmp 41) 29 3 (.int .i64 0) 8 rfl Try.underlying29 info3 rfl (by decide) (by omega) u5 x5_1 (wrap64 ((wrap64 ((rd l0_0 x7_1) - x6_1)) + 65536)) [.int .i64 (wrap64 ((wrap64 ((rd l0_0 x7_1) - x6_1)) + 65536))] (fun _ => True) (fun _ => False) rfl rfl ?aP (fun _ hk => hk.elim) ?aF ?aO ?aB ?aS ?aL ?_; (case aP => exact rfl); (case aB => exact (hkS HB)); (case aF => exact (fun _ _ => trivial)); (case aO => exact (hkR HO_5)); (case aS => exact (below_size (hkS HB))); (case aL => have := LMc25.out; omega); intro v303 w31 ho hb hg hat; rw [← Ny302.out] at ho; have n_ := hkA (Aside0.mk (blk_grown (g := gb288) (o := .cells #[.slice (some ad294) l0_0.length c0_0] 38 (0, 0)) (hkB BK288) hg (Kd.R_ne HO_5.out BK288.out (by decide)))) (hkA (Aside0.mk (blk_grown (g := gb289) (o := .cells #[.slice A1_0 l1_0.length c1_0] 38 (0, 0)) (hkB BK289) hg (Kd.R_ne HO_5.out BK289.out (by decide)))) (hkA (Aside0.mk (blk_grown (g := gb290) (o := .cells #[.slice none 0 0] 38 (0, 0)) (hkB BK290) hg (Kd.R_ne HO_5.out BK290.out (by decide)))) (hkA (Aside0.mk (hb)) (Aside0.mk (ho))))); clear BK288 BK289 BK290 HB HO_5; obtain ⟨BK288, BK289, BK290, HB, HO304⟩ := n_; clear ho hb hg hat))
        go_roundg k1
        case measure => have := HK1.out; omega
        case rel => exact ⟨(y302), (1), (wrap64 (x7_1 + 1)), (by first | rfl | (simp; done) | (simp [*]; done)), (by first | rfl | (simp; done) | (simp [*]; done)), H', ⟨by have := HK1.out; omega⟩, ⟨by (with_reducible repeat (first | apply Kd.R_alloc | apply Kd.R_drewN | apply Kd.R_drew)); exact HO304.out⟩, ⟨by refine hkz ?_; exact BK288.out⟩, ⟨by refine hkz ?_; exact BK289.out⟩, ⟨by refine hkz ?_; exact BK290.out⟩, ⟨hkS HB⟩⟩
       ·rw [if_neg c25] at H
        exact absurd H (by simp)
      ·rw [if_neg c24] at H
       have c24b0 : decide ((wrap64 ((rd l0_0 x7_1) - x6_1)) < 0) = false := decide_eq_false c24
       clear c24
       by_cases c32 : x5_1.length < 17592186044416
       ·rw [if_pos c32] at H
        have LMc32 := Aside0.mk c32
        clear c32
        obtain ⟨y305, hy305⟩ : ∃ y_ : List Int, y_ = (x5_1 ++ [wrap64 ((rd l0_0 x7_1) - x6_1)]) := ⟨_, rfl⟩
        replace H : (spec_l2sub.l0 k1 y305 0 (wrap64 (x7_1 + 1)) l0_0 l1_0) = some r := by first | (rw [hy305]; with_reducible exact H) | (have H2_ := (Option.bind_some _ _).symm.trans H; rw [hy305]; with_reducible exact H2_) | (have H2_ := (Option.bind_some _ _).symm.trans H; with_reducible exact H2_) | with_reducible exact H | (rw [hy305]; exact H) | exact H
        have Ny305 := Aside0.mk hy305
        clear hy305
        have H' := Aside0.mk H
        clear H
        have hnb33 := NB288_289.out
        have hnc33 := NB289_288.out
        have hnb34 := NB288_290.out
        have hnc34 := NB290_288.out
        obtain ⟨hcz35_0, hfz35_0⟩ := hkc1 BK288
        have p294 : 0 ≤ (x7_1 : Int) := of_decide_eq_true (by first | (with_reducible assumption) | assumption)
        have q294 : x7_1 < (l0_0.length : Int) := of_decide_eq_true (by first | (with_reducible assumption) | assumption)
        obtain ⟨ad294, e294, hx294_0⟩ := Kd.at_int HR0_0.out x7_1 p294 q294
        cases e294
        replace hx294_0 := (HB.out.cell (World.block_lt_of_cell? w _ hx294_0)).trans hx294_0
        replace p294 := eq_true p294
        replace q294 := eq_true q294
        have hnb36 := NB289_290.out
        have hnc36 := NB290_289.out
        obtain ⟨hcz37_0, hfz37_0⟩ := hkc1 BK289
        go_wp2_with (first | ((with_reducible refine gate_builtin (b := .append) (xs := #[.tmp 39, .tmp 41]) rfl ?_); at_builtin; refine Kd.R_append (Kd.int .i64) (w0 := w) w.heap.size rfl (.tmp 39) (.tmp 41) 29 3 (.int .i64 0) 8 rfl Try.underlying29 info3 rfl (by decide) (by omega) u5 x5_1 (wrap64 ((rd l0_0 x7_1) - x6_1)) [.int .i64 (wrap64 ((rd l0_0 x7_1) - x6_1))] (fun _ => True) (fun _ => False) rfl rfl ?aP (fun _ hk => hk.elim) ?aF ?aO ?aB ?aS ?aL ?_; (case aP => exact rfl); (case aB => exact (hkS HB)); (case aF => exact (fun _ _ => trivial)); (case aO => exact (hkR HO_5)); (case aS => exact (below_size (hkS HB))); (case aL => have := LMc32.out; omega); intro v306 w38 ho hb hg hat; rw [← Ny305.out] at ho; have n_ := hkA (Aside0.mk (blk_grown (g := gb288) (o := .cells #[.slice (some ad294) l0_0.length c0_0] 38 (0, 0)) (hkB BK288) hg (Kd.R_ne HO_5.out BK288.out (by decide)))) (hkA (Aside0.mk (blk_grown (g := gb289) (o := .cells #[.slice A1_0 l1_0.length c1_0] 38 (0, 0)) (hkB BK289) hg (Kd.R_ne HO_5.out BK289.out (by decide)))) (hkA (Aside0.mk (blk_grown (g := gb290) (o := .cells #[.slice none 0 0] 38 (0, 0)) (hkB BK290) hg (Kd.R_ne HO_5.out BK290.out (by decide)))) (hkA (Aside0.mk (hb)) (Aside0.mk (ho))))); clear BK288 BK289 BK290 HB HO_5; obtain ⟨BK288, BK289, BK290, HB, HO307⟩ := n_; clear ho hb hg hat))
        go_roundg k1
        case measure => have := HK1.out; omega
        case rel => exact ⟨(y305), (0), (wrap64 (x7_1 + 1)), (by first | rfl | (simp; done) | (simp [*]; done)), (by first | rfl | (simp; done) | (simp [*]; done)), H', ⟨by have := HK1.out; omega⟩, ⟨by (with_reducible repeat (first | apply Kd.R_alloc | apply Kd.R_drewN | apply Kd.R_drew)); exact HO307.out⟩, ⟨by refine hkz ?_; exact BK288.out⟩, ⟨by refine hkz ?_; exact BK289.out⟩, ⟨by refine hkz ?_; exact BK290.out⟩, ⟨hkS HB⟩⟩
       ·rw [if_neg c32] at H
        exact absurd H (by simp)
    ·rw [if_neg c7] at H
     exact absurd H (by simp)
   ·rw [if_neg c6] at H
    have c6b0 : decide (x7_1 < (l0_0.length : Int)) = false := decide_eq_false c6
    clear c6
    replace H := hBi H
    obtain ⟨t291, A390, H⟩ := H
    replace H : (some t291) = some r := H
    have A39 := Aside0.mk A390
    clear A390
    obtain rfl := Option.some.inj H
    have hnb40 := NB288_289.out
    have hnc40 := NB289_288.out
    have hnb41 := NB288_290.out
    have hnc41 := NB290_288.out
    obtain ⟨hcz42_0, hfz42_0⟩ := hkc1 BK288
    obtain ⟨Ao43, co43, eo43⟩ := Kd.R_slice HO_5.out
    subst eo43
    go_wp2_with (first | ((with_reducible refine gate_callee (f := 99) rfl ?_); refine hkGo (N := some 44) Try.func99 #[.slice Ao43 x5_1.length co43] ?_; (with_reducible refine (spec_l2norm.calls k1 _ _ x5_1 t291 _ ?side1 ?side2 A39.out).mono ?_); (case side1 => exact hkC ((Kd.R_reads' HO_5.out).2.2)); (case side2 => exact (Kd.R_reads' HO_5.out).2.1); rintro e w44 ⟨v292, rfl, ho0, hb⟩; refine ⟨_, rfl, ?_⟩; have n_ := hkA (Aside0.mk (Kd.R_elder' (hkR HO_5) (Kd.R_base ho0) hb)) (hkA (Aside0.mk (Kd.R_lower (Kd.R_new' ho0 (Kd.R_lt (hkR HO_5))) (below_size (hkS HB)))) (hkA (hkBb BK288 hb) (hkA (hkBb BK289 hb) (hkA (hkBb BK290 hb) (hkU HB hb))))); clear HO_5 BK288 BK289 BK290 HB; obtain ⟨HO_5, HO293, BK288, BK289, BK290, HB⟩ := n_; (try clear hb); (try clear ho0); obtain ⟨Ao45, co45, eo45⟩ := Kd.R_slice HO293.out; subst eo45; have hnb46 := NB290_289.out; have hnc46 := NB289_290.out; obtain ⟨hcz47_0, hfz47_0⟩ := hkc1 BK290))
    refine bodyPost_ret (results_cell_row rfl _ _ gb290 38 #[.slice Ao45 t291.length co45] (0, 0) _ rfl hkPp Try.underlying38 rfl (by kernel_rfl)) rfl ?_
    exact ⟨_, hkE, by (with_reducible repeat (first | apply Kd.R_alloc | apply Kd.R_drewN | apply Kd.R_drew)); exact Kd.R_mono (Kd.R_far (p := ⟨gb290, 0, none⟩) (Kd.R_types HO293.out BK290.out (by decide)) (fun _ hk => hk.2) (.slice Ao45 t291.length co45)) (fun _ hk => trivial), hkS HB⟩

end Go.Proofs.Ytgjpahofopoflaa.PFnExactNatDiv
