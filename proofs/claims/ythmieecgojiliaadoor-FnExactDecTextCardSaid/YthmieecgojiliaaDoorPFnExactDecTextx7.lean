-- Written by our own driver (wip/hand/hprint.py) over the seat's translation.
import Derived.Test.YthmieecgojiliaaDoorPFnExactDecTextx0
import Derived.Test.YthmieecgojiliaaDoorPFnExactDecTextx5
import Derived.Test.YthmieecgojiliaaDoorPFnExactDecTextx6
namespace Go.Proofs.YthmieecgojiliaaDoor.PFnExactDecText
open Go.RowKit Go.Proofs.YthmieecgojiliaaDoorW.PrintWords Go.Proofs.YthmieecgojiliaaDoorW.PrintLast Go.Proofs.YthmieecgojiliaaDoorW.PrintMore
attribute [local go_sem] max2_int min2_int max_two min_two max_three min_three max_four min_four   -- for this text's walks alone
set_option linter.unusedVariables false
set_option linter.unusedSimpArgs false

/-! ### spec_l2of: function 41 -/
def spec_l2of.l0 : Nat → Int → List Int → Option (List Int)
 | 0, _, _ => none
 | k + 1, x0, x3 => if x0 > 0 then (if x3.length < 17592186044416 then (spec_l2of.l0 k (wrap64 (Int.tdiv x0 65536)) (x3 ++ [Int.tmod x0 65536])) else (none)) else (some x3)
def spec_l2of.f (k : Nat) (a0 : Int) : Option (List Int) := spec_l2of.l0 k a0 ([] : List Int)
theorem spec_l2of.mono_l : ∀ k, (∀ y0 y1, LeO (spec_l2of.l0 k y0 y1) (spec_l2of.l0 (k + 1) y0 y1))
 | 0 => fun _ _ r h => by simp [spec_l2of.l0] at h
 | k + 1 => by
  have ih0 := spec_l2of.mono_l k
  ·intro y0 y1
   unfold spec_l2of.l0
   repeat' first
   | (with_reducible exact ih0 _ _)
   | (with_reducible exact LeO.refl _)
   | (with_reducible exact LeO.none _)
   | (with_reducible refine LeO.ite ?_ ?_)
   | (with_reducible refine LeO.bind ?_ (fun _ => ?_))
   | exact ih0 _ _
   | exact LeO.none _
   | refine LeO.ite ?_ ?_
   | refine LeO.bind ?_ (fun _ => ?_)
theorem spec_l2of.mono : ∀ a0 k, LeO (spec_l2of.f k a0) (spec_l2of.f (k + 1) a0) := by
 intro a0 k
 have ih0 := spec_l2of.mono_l k
 unfold spec_l2of.f
 repeat' first
   | (with_reducible exact ih0 _ _)
   | (with_reducible exact LeO.refl _)
   | (with_reducible exact LeO.none _)
   | (with_reducible refine LeO.ite ?_ ?_)
   | (with_reducible refine LeO.bind ?_ (fun _ => ?_))
   | exact ih0 _ _
   | exact LeO.none _
   | refine LeO.ite ?_ ?_
   | refine LeO.bind ?_ (fun _ => ?_)
set_option maxHeartbeats 8000000 in
set_option maxRecDepth 100000 in
theorem spec_l2of.calls (k : Nat) (a0 : Int) (r : List Int) (w : World) (h : spec_l2of.f k a0 = some r) :
  Calls Tryd.prog 41 #[.int .i64 a0] w fun e w' => ∃ v0_ : Value, e = .returned (.agg #[v0_]) ∧ Kd.R (Kd.int .i64) 3 w' w.heap.size (fun _ => True) v0_ r ∧ Below w.heap.size w w' := by
 have hu30 := Tryd.underlying30
 have HB := Aside0.mk (Below.refl w.heap.size w)
 have H : (spec_l2of.l0 k a0 ([] : List Int)) = some r := h
 clear h
 have H' := Aside0.mk H
 clear H
 go_enter Tryd.func41, Tryd.ntmps41
 go_wp2_with (first | ((with_reducible refine gate_dst (N := 2) rfl ?_); refine hkBox (N := 2) (cs := #[.slice none 0 0]) (t := 30) ?_; intro gb200 hg w2 hbox hb; have n_ := hkA (hkU HB hb) (hkA (Aside0.mk (hbox)) (hkA (hkG hg (hkS HB)) (hkG hg (hkS HB)))); clear HB; obtain ⟨HB, BK200, GW200, GE200⟩ := n_; clear hb hbox hg))
 go_loopg [0, 3] k (fun kq v0 v3 w' => ∃ (x0_1 : Int) (x3_1 : List Int), v0 = .int .i64 x0_1 ∧ Aside0 (spec_l2of.l0 kq x0_1 x3_1 = some r) ∧ Aside0 (kq ≤ k) ∧ Aside0 (Kd.R (Kd.int .i64) 3 w' w.heap.size (fun _ => True) v3 x3_1) ∧ Aside0 (w'.heap[gb200]? = some (.cells #[(.slice none 0 0)] 30 (0, 0))) ∧ Aside0 (Below w.heap.size w w'))
 case atStart => exact ⟨(a0), (([] : List Int)), (by first | rfl | (simp; done) | (simp [*]; done)), H', ⟨Nat.le_refl _⟩, ⟨by first | exact Kd.R_nil _ _ _ _ _ | exact Kd.N_nil _ _ _ _ _ | exact Kd.V_nil _ _ _ _ _ | exact Kd.Q_nil _ _ _ _ _ | exact Kd.S_nil _ _ _ _ _⟩, ⟨by refine hkz ?_; exact BK200.out⟩, ⟨hkS HB⟩⟩
 case round =>
  clear H'
  try clear p2
  obtain ⟨x0_1, x3_1, rfl, HA, HK1, HO_3, BK200, HB⟩ := hrel
  cases gk with
  | zero => exact absurd HA.out (by simp [spec_l2of.l0])
  | succ k1 =>
   have H := HA.out
   clear HA
   simp only [spec_l2of.l0] at H
   by_cases c3 : x0_1 > 0
   ·rw [if_pos c3] at H
    have c3b0 : decide (0 < x0_1) = true := decide_eq_true c3
    clear c3
    by_cases c4 : x3_1.length < 17592186044416
    ·rw [if_pos c4] at H
     have LMc4 := Aside0.mk c4
     clear c4
     obtain ⟨y201, hy201⟩ : ∃ y_ : List Int, y_ = (x3_1 ++ [Int.tmod x0_1 65536]) := ⟨_, rfl⟩
     replace H : (spec_l2of.l0 k1 (wrap64 (Int.tdiv x0_1 65536)) y201) = some r := by first | (rw [hy201]; with_reducible exact H) | (have H2_ := (Option.bind_some _ _).symm.trans H; rw [hy201]; with_reducible exact H2_) | (have H2_ := (Option.bind_some _ _).symm.trans H; with_reducible exact H2_) | with_reducible exact H | (rw [hy201]; exact H) | exact H
     have Ny201 := Aside0.mk hy201
     clear hy201
     have H' := Aside0.mk H
     clear H
     go_wp2_with (first | ((with_reducible refine gate_builtin (b := .append) (xs := #[.tmp 6, .tmp 9]) rfl ?_); at_builtin; refine Kd.R_append (Kd.int .i64) (w0 := w) w.heap.size rfl (.tmp 6) (.tmp 9) 22 3 (.int .i64 0) 8 rfl Tryd.underlying22 info3 rfl (by decide) (by omega) u3 x3_1 (Int.tmod x0_1 65536) [.int .i64 (Int.tmod x0_1 65536)] (fun _ => True) (fun _ => False) rfl rfl ?aP (fun _ hk => hk.elim) ?aF ?aO ?aB ?aS ?aL ?_; (case aP => exact rfl); (case aB => exact (hkS HB)); (case aF => exact (fun _ _ => trivial)); (case aO => exact (hkR HO_3)); (case aS => exact (below_size (hkS HB))); (case aL => have := LMc4.out; omega); intro v202 w5 ho hb hg hat; rw [← Ny201.out] at ho; have n_ := hkA (Aside0.mk (blk_grown (g := gb200) (o := .cells #[.slice none 0 0] 30 (0, 0)) (hkB BK200) hg (Kd.R_ne HO_3.out BK200.out (by decide)))) (hkA (Aside0.mk (hb)) (Aside0.mk (ho))); clear BK200 HB HO_3; obtain ⟨BK200, HB, HO203⟩ := n_; clear ho hb hg hat))
     go_roundg k1
     case measure => have := HK1.out; omega
     case rel => exact ⟨(wrap64 (Int.tdiv x0_1 65536)), (y201), (by first | rfl | (simp; done) | (simp [*]; done)), H', ⟨by have := HK1.out; omega⟩, ⟨by (with_reducible repeat (first | apply Kd.R_alloc | apply Kd.R_drewN | apply Kd.R_drew)); exact HO203.out⟩, ⟨by refine hkz ?_; exact BK200.out⟩, ⟨hkS HB⟩⟩
    ·rw [if_neg c4] at H
     exact absurd H (by simp)
   ·rw [if_neg c3] at H
    have c3b0 : decide (0 < x0_1) = false := decide_eq_false c3
    clear c3
    obtain rfl := Option.some.inj H
    obtain ⟨Ao6, co6, eo6⟩ := Kd.R_slice HO_3.out
    subst eo6
    obtain ⟨hcz7_0, hfz7_0⟩ := hkc1 BK200
    go_wp2
    refine bodyPost_ret (results_cell_row rfl _ _ gb200 30 #[.slice Ao6 x3_1.length co6] (0, 0) _ rfl hkPp Tryd.underlying30 rfl (by kernel_rfl)) rfl ?_
    exact ⟨_, hkE, by (with_reducible repeat (first | apply Kd.R_alloc | apply Kd.R_drewN | apply Kd.R_drew)); exact Kd.R_mono (Kd.R_far (p := ⟨gb200, 0, none⟩) (Kd.R_types HO_3.out BK200.out (by decide)) (fun _ hk => hk.2) (.slice Ao6 x3_1.length co6)) (fun _ hk => trivial), hkS HB⟩

/-! ### spec_l3of: function 26 -/
def spec_l3of.f (k : Nat) (a0 : Int) : Option (Bool × List Int) := if a0 < 0 then ((spec_l2of.f k (wrap64 (-(wrap64 (a0 + 1))))).bind fun t205 => ((spec_l2of.f k 1).bind fun t208 => ((spec_l2add.f k t205 t208).bind fun t211 => ((spec_l3make.f k true t211).bind fun bt214 => (some (bt214.1, bt214.2)))))) else ((spec_l2of.f k a0).bind fun t218 => ((spec_l3make.f k false t218).bind fun bt221 => (some (bt221.1, bt221.2))))
theorem spec_l3of.mono : ∀ a0 k, LeO (spec_l3of.f k a0) (spec_l3of.f (k + 1) a0) := by
 intro a0 k
 unfold spec_l3of.f
 repeat' first
   | (with_reducible exact spec_l2add.mono _ _ _)
   | (with_reducible exact spec_l2of.mono _ _)
   | (with_reducible exact spec_l3make.mono _ _ _)
   | (with_reducible exact LeO.refl _)
   | (with_reducible exact LeO.none _)
   | (with_reducible refine LeO.ite ?_ ?_)
   | (with_reducible refine LeO.bind ?_ (fun _ => ?_))
   | exact spec_l2add.mono _ _ _
   | exact spec_l2of.mono _ _
   | exact spec_l3make.mono _ _ _
   | exact LeO.none _
   | refine LeO.ite ?_ ?_
   | refine LeO.bind ?_ (fun _ => ?_)
set_option maxHeartbeats 8000000 in
set_option maxRecDepth 100000 in
theorem spec_l3of.calls (k : Nat) (a0 : Int) (r1 : Bool) (r2 : List Int) (w : World) (h : spec_l3of.f k a0 = some (r1, r2)) :
  Calls Tryd.prog 26 #[.int .i64 a0] w fun e w' => ∃ v1_ : Value, e = .returned (.agg #[.bool r1, v1_]) ∧ Kd.R (Kd.int .i64) 3 w' w.heap.size (fun _ => True) v1_ r2 ∧ Below w.heap.size w w' := by
 have hu51 := Tryd.underlying51
 have HB := Aside0.mk (Below.refl w.heap.size w)
 have H : (if a0 < 0 then ((spec_l2of.f k (wrap64 (-(wrap64 (a0 + 1))))).bind fun t205 => ((spec_l2of.f k 1).bind fun t208 => ((spec_l2add.f k t205 t208).bind fun t211 => ((spec_l3make.f k true t211).bind fun bt214 => (some (bt214.1, bt214.2)))))) else ((spec_l2of.f k a0).bind fun t218 => ((spec_l3make.f k false t218).bind fun bt221 => (some (bt221.1, bt221.2))))) = some (r1, r2) := h
 clear h
 by_cases c2 : a0 < 0
 ·rw [if_pos c2] at H
  have c2b0 : decide (a0 < 0) = true := decide_eq_true c2
  clear c2
  replace H := hBi H
  obtain ⟨t205, A30, H⟩ := H
  replace H : ((spec_l2of.f k 1).bind fun t208 => ((spec_l2add.f k t205 t208).bind fun t211 => ((spec_l3make.f k true t211).bind fun bt214 => (some (bt214.1, bt214.2))))) = some (r1, r2) := H
  have A3 := Aside0.mk A30
  clear A30
  replace H := hBi H
  obtain ⟨t208, A40, H⟩ := H
  replace H : ((spec_l2add.f k t205 t208).bind fun t211 => ((spec_l3make.f k true t211).bind fun bt214 => (some (bt214.1, bt214.2)))) = some (r1, r2) := H
  have A4 := Aside0.mk A40
  clear A40
  replace H := hBi H
  obtain ⟨t211, A50, H⟩ := H
  replace H : ((spec_l3make.f k true t211).bind fun bt214 => (some (bt214.1, bt214.2))) = some (r1, r2) := H
  have A5 := Aside0.mk A50
  clear A50
  replace H := hBi H
  obtain ⟨⟨t214, t215⟩, A60, H⟩ := H
  replace H : (some (t214, t215)) = some (r1, r2) := H
  have A6 := Aside0.mk A60
  clear A60
  simp only [Option.some.injEq, Prod.mk.injEq] at H
  obtain ⟨rfl, rfl⟩ := H
  go_enter Tryd.func26, Tryd.ntmps26
  go_wp2_with (first | ((with_reducible refine gate_dst (N := 2) rfl ?_); refine hkBox (N := 2) (cs := #[.bool false, .slice none 0 0]) (t := 51) ?_; intro gb204 hg w7 hbox hb; have n_ := hkA (hkU HB hb) (hkA (Aside0.mk (hbox)) (hkA (hkG hg (hkS HB)) (hkG hg (hkS HB)))); clear HB; obtain ⟨HB, BK204, GW204, GE204⟩ := n_; clear hb hbox hg) | ((with_reducible refine gate_callee (f := 41) rfl ?_); refine hkGo (N := some 8) Tryd.func41 #[.int .i64 (wrap64 (-(wrap64 (a0 + 1))))] ?_; (with_reducible refine (spec_l2of.calls k (wrap64 (-(wrap64 (a0 + 1)))) t205 _ A3.out).mono ?_); rintro e w8 ⟨v206, rfl, ho0, hb⟩; refine ⟨_, rfl, ?_⟩; have n_ := hkA (Aside0.mk (Kd.R_lower ho0 (below_size (hkS HB)))) (hkA (hkBb BK204 hb) (hkU HB hb)); clear BK204 HB; obtain ⟨HO207, BK204, HB⟩ := n_; (try clear hb); (try clear ho0)) | ((with_reducible refine gate_callee (f := 41) rfl ?_); refine hkGo (N := some 9) Tryd.func41 #[.int .i64 1] ?_; (with_reducible refine (spec_l2of.calls k 1 t208 _ A4.out).mono ?_); rintro e w9 ⟨v209, rfl, ho0, hb⟩; refine ⟨_, rfl, ?_⟩; have n_ := hkA (Aside0.mk (Kd.R_elder' (hkR HO207) (Kd.R_base ho0) hb)) (hkA (Aside0.mk (Kd.R_lower (Kd.R_new' ho0 (Kd.R_lt (hkR HO207))) (below_size (hkS HB)))) (hkA (hkBb BK204 hb) (hkU HB hb))); clear HO207 BK204 HB; obtain ⟨HO207, HO210, BK204, HB⟩ := n_; (try clear hb); (try clear ho0); obtain ⟨Ao10, co10, eo10⟩ := Kd.R_slice HO207.out; subst eo10; obtain ⟨Ao11, co11, eo11⟩ := Kd.R_slice HO210.out; subst eo11) | ((with_reducible refine gate_callee (f := 40) rfl ?_); refine hkGo (N := some 10) Tryd.func40 #[.agg #[.slice Ao10 t205.length co10], .agg #[.slice Ao11 t208.length co11]] ?_; (with_reducible refine (spec_l2add.calls k _ _ t205 _ _ t208 t211 _ ?side1 ?side2 ?side3 ?side4 A5.out).mono ?_); (case side1 => exact hkC ((Kd.R_reads' HO207.out).2.2)); (case side2 => exact (Kd.R_reads' HO207.out).2.1); (case side3 => exact hkC ((Kd.R_reads' HO210.out).2.2)); (case side4 => exact (Kd.R_reads' HO210.out).2.1); rintro e w12 ⟨v212, rfl, ho0, hb⟩; refine ⟨_, rfl, ?_⟩; have n_ := hkA (Aside0.mk (Kd.R_elder' (hkR HO207) (Kd.R_base ho0) hb)) (hkA (Aside0.mk (Kd.R_elder' (hkR HO210) (Kd.R_base ho0) hb)) (hkA (Aside0.mk (Kd.R_lower (Kd.R_new' (Kd.R_new' ho0 (Kd.R_lt (hkR HO207))) (Kd.R_lt (hkR HO210))) (below_size (hkS HB)))) (hkA (hkBb BK204 hb) (hkU HB hb)))); clear HO207 HO210 BK204 HB; obtain ⟨HO207, HO210, HO213, BK204, HB⟩ := n_; (try clear hb); (try clear ho0); obtain ⟨Ao13, co13, eo13⟩ := Kd.R_slice HO213.out; subst eo13) | ((with_reducible refine gate_callee (f := 39) rfl ?_); refine hkGo (N := some 11) Tryd.func39 #[.bool true, .agg #[.slice Ao13 t211.length co13]] ?_; (with_reducible refine (spec_l3make.calls k true _ _ t211 t214 t215 _ ?side1 ?side2 A6.out).mono ?_); (case side1 => exact hkC ((Kd.R_reads' HO213.out).2.2)); (case side2 => exact (Kd.R_reads' HO213.out).2.1); rintro e w14 ⟨v216, rfl, ho0, hb⟩; refine ⟨_, rfl, ?_⟩; have n_ := hkA (Aside0.mk (Kd.R_elder' (hkR HO207) (Kd.R_base ho0) hb)) (hkA (Aside0.mk (Kd.R_elder' (hkR HO210) (Kd.R_base ho0) hb)) (hkA (Aside0.mk (Kd.R_elder' (hkR HO213) (Kd.R_base ho0) hb)) (hkA (Aside0.mk (Kd.R_lower (Kd.R_new' (Kd.R_new' (Kd.R_new' ho0 (Kd.R_lt (hkR HO207))) (Kd.R_lt (hkR HO210))) (Kd.R_lt (hkR HO213))) (below_size (hkS HB)))) (hkA (hkBb BK204 hb) (hkU HB hb))))); clear HO207 HO210 HO213 BK204 HB; obtain ⟨HO207, HO210, HO213, HO217, BK204, HB⟩ := n_; (try clear hb); (try clear ho0); obtain ⟨hcz15_0, hfz15_0, hcz15_1, hfz15_1⟩ := hkc2 BK204; obtain ⟨Ao16, co16, eo16⟩ := Kd.R_slice HO217.out; subst eo16))
  refine bodyPost_ret (results_cell_row rfl _ _ gb204 51 #[.bool t214, .slice Ao16 t215.length co16] (0, 0) _ rfl hkPp Tryd.underlying51 rfl (by kernel_rfl)) rfl ?_
  exact ⟨_, hkE, by (with_reducible repeat (first | apply Kd.R_alloc | apply Kd.R_drewN | apply Kd.R_drew)); exact Kd.R_mono (Kd.R_far (p := ⟨gb204, 1, none⟩) (Kd.R_far (p := ⟨gb204, 0, none⟩) (Kd.R_types HO217.out BK204.out (by decide)) (fun _ hk => hk.2) (.bool t214)) (fun _ hk => hk.2) (.slice Ao16 t215.length co16)) (fun _ hk => trivial), hkS HB⟩
 ·rw [if_neg c2] at H
  have c2b0 : decide (a0 < 0) = false := decide_eq_false c2
  clear c2
  replace H := hBi H
  obtain ⟨t218, A170, H⟩ := H
  replace H : ((spec_l3make.f k false t218).bind fun bt221 => (some (bt221.1, bt221.2))) = some (r1, r2) := H
  have A17 := Aside0.mk A170
  clear A170
  replace H := hBi H
  obtain ⟨⟨t221, t222⟩, A180, H⟩ := H
  replace H : (some (t221, t222)) = some (r1, r2) := H
  have A18 := Aside0.mk A180
  clear A180
  simp only [Option.some.injEq, Prod.mk.injEq] at H
  obtain ⟨rfl, rfl⟩ := H
  go_enter Tryd.func26, Tryd.ntmps26
  go_wp2_with (first | ((with_reducible refine gate_dst (N := 2) rfl ?_); refine hkBox (N := 2) (cs := #[.bool false, .slice none 0 0]) (t := 51) ?_; intro gb204 hg w19 hbox hb; have n_ := hkA (hkU HB hb) (hkA (Aside0.mk (hbox)) (hkA (hkG hg (hkS HB)) (hkG hg (hkS HB)))); clear HB; obtain ⟨HB, BK204, GW204, GE204⟩ := n_; clear hb hbox hg) | ((with_reducible refine gate_callee (f := 41) rfl ?_); refine hkGo (N := some 13) Tryd.func41 #[.int .i64 a0] ?_; (with_reducible refine (spec_l2of.calls k a0 t218 _ A17.out).mono ?_); rintro e w20 ⟨v219, rfl, ho0, hb⟩; refine ⟨_, rfl, ?_⟩; have n_ := hkA (Aside0.mk (Kd.R_lower ho0 (below_size (hkS HB)))) (hkA (hkBb BK204 hb) (hkU HB hb)); clear BK204 HB; obtain ⟨HO220, BK204, HB⟩ := n_; (try clear hb); (try clear ho0); obtain ⟨Ao21, co21, eo21⟩ := Kd.R_slice HO220.out; subst eo21) | ((with_reducible refine gate_callee (f := 39) rfl ?_); refine hkGo (N := some 14) Tryd.func39 #[.bool false, .agg #[.slice Ao21 t218.length co21]] ?_; (with_reducible refine (spec_l3make.calls k false _ _ t218 t221 t222 _ ?side1 ?side2 A18.out).mono ?_); (case side1 => exact hkC ((Kd.R_reads' HO220.out).2.2)); (case side2 => exact (Kd.R_reads' HO220.out).2.1); rintro e w22 ⟨v223, rfl, ho0, hb⟩; refine ⟨_, rfl, ?_⟩; have n_ := hkA (Aside0.mk (Kd.R_elder' (hkR HO220) (Kd.R_base ho0) hb)) (hkA (Aside0.mk (Kd.R_lower (Kd.R_new' ho0 (Kd.R_lt (hkR HO220))) (below_size (hkS HB)))) (hkA (hkBb BK204 hb) (hkU HB hb))); clear HO220 BK204 HB; obtain ⟨HO220, HO224, BK204, HB⟩ := n_; (try clear hb); (try clear ho0); obtain ⟨hcz23_0, hfz23_0, hcz23_1, hfz23_1⟩ := hkc2 BK204; obtain ⟨Ao24, co24, eo24⟩ := Kd.R_slice HO224.out; subst eo24))
  refine bodyPost_ret (results_cell_row rfl _ _ gb204 51 #[.bool t221, .slice Ao24 t222.length co24] (0, 0) _ rfl hkPp Tryd.underlying51 rfl (by kernel_rfl)) rfl ?_
  exact ⟨_, hkE, by (with_reducible repeat (first | apply Kd.R_alloc | apply Kd.R_drewN | apply Kd.R_drew)); exact Kd.R_mono (Kd.R_far (p := ⟨gb204, 1, none⟩) (Kd.R_far (p := ⟨gb204, 0, none⟩) (Kd.R_types HO224.out BK204.out (by decide)) (fun _ hk => hk.2) (.bool t221)) (fun _ hk => hk.2) (.slice Ao24 t222.length co24)) (fun _ hk => trivial), hkS HB⟩

end Go.Proofs.YthmieecgojiliaaDoor.PFnExactDecText
