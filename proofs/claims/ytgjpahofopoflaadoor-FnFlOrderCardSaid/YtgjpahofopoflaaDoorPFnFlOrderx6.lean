-- Written by our own driver (wip/hand/hprint.py) over the seat's translation.
import Derived.Test.YtgjpahofopoflaaDoorPFnFlOrderx0
import Derived.Test.YtgjpahofopoflaaDoorPFnFlOrderx1
import Derived.Test.YtgjpahofopoflaaDoorPFnFlOrderx2
import Derived.Test.YtgjpahofopoflaaDoorPFnFlOrderx5
namespace Go.Proofs.YtgjpahofopoflaaDoor.PFnFlOrder
open Go.RowKit Go.Proofs.YtgjpahofopoflaaDoorW.PrintWords Go.Proofs.YtgjpahofopoflaaDoorW.PrintLast Go.Proofs.YtgjpahofopoflaaDoorW.PrintMore
attribute [local go_sem] max2_int min2_int max_two min_two max_three min_three max_four min_four   -- for this text's walks alone
set_option linter.unusedVariables false
set_option linter.unusedSimpArgs false

/-! ### impl_exact_dy: function 41 -/
def impl_exact_dy.f (k : Nat) (a0_0 : Bool) (l0_1 : List Int) (a0_2 : Int) : Option (Bool × List Int × Int × Bool) := (impl_exact_odd.f k a0_0 l0_1 a0_2).bind fun bt157 => ((impl_wholeOf.f bt157.1 bt157.2.1).bind fun bt162 => (if bt162.2.2 = true then ((impl_within.f bt157.2.2 (-3000) 3000).bind fun t168 => (if t168 = true then (some (bt162.1, bt162.2.1, bt157.2.2, true)) else (some (false, ([] : List Int), 0, false)))) else (some (false, ([] : List Int), 0, false))))
theorem impl_exact_dy.mono : ∀ a0 a1 a2 k, LeO (impl_exact_dy.f k a0 a1 a2) (impl_exact_dy.f (k + 1) a0 a1 a2) := by
 intro a0 a1 a2 k
 unfold impl_exact_dy.f
 repeat' first
   | (with_reducible exact impl_exact_odd.mono _ _ _ _)
   | (with_reducible exact LeO.refl _)
   | (with_reducible exact LeO.none _)
   | (with_reducible refine LeO.ite ?_ ?_)
   | (with_reducible refine LeO.bind ?_ (fun _ => ?_))
   | exact impl_exact_odd.mono _ _ _ _
   | exact LeO.none _
   | refine LeO.ite ?_ ?_
   | refine LeO.bind ?_ (fun _ => ?_)
set_option maxHeartbeats 8000000 in
set_option maxRecDepth 100000 in
theorem impl_exact_dy.calls (k : Nat) (a0_0 : Bool) (A0_1 : Option Addr) (c0_1 : Nat) (l0_1 : List Int) (a0_2 : Int) (r1 : Bool) (r2 : List Int) (r3 : Int) (r4 : Bool) (w : World) (hr0_1 : Kd.C (Kd.int .i64) w A0_1 l0_1.length l0_1) (hc0_1 : l0_1.length ≤ c0_1) (h : impl_exact_dy.f k a0_0 l0_1 a0_2 = some (r1, r2, r3, r4)) (hT : hTab w := by exact hTab_use (by assumption)) :
  Calls Tryd.prog 41 #[.agg #[.bool a0_0, .slice A0_1 l0_1.length c0_1, .int .i64 a0_2]] w fun e w' => ∃ v1_ : Value, e = .returned (.tuple #[.agg #[.bool r1, v1_, .int .i64 r3], .bool r4]) ∧ Kd.R (Kd.int .i64) 3 w' w.heap.size (fun _ => True) v1_ r2 ∧ Below w.heap.size w w' := by
 have HT0 := Aside0.mk hT
 clear hT
 have hu76 := Tryd.underlying76
 have hu30 := Tryd.underlying30
 have hu28 := Tryd.underlying28
 have HR0_1 := Aside0.mk hr0_1
 have HC0_1 := Aside0.mk hc0_1
 clear hr0_1 hc0_1
 have HB := Aside0.mk (Below.refl w.heap.size w)
 have H : ((impl_exact_odd.f k a0_0 l0_1 a0_2).bind fun bt157 => ((impl_wholeOf.f bt157.1 bt157.2.1).bind fun bt162 => (if bt162.2.2 = true then ((impl_within.f bt157.2.2 (-3000) 3000).bind fun t168 => (if t168 = true then (some (bt162.1, bt162.2.1, bt157.2.2, true)) else (some (false, ([] : List Int), 0, false)))) else (some (false, ([] : List Int), 0, false))))) = some (r1, r2, r3, r4) := h
 clear h
 replace H := hBi H
 obtain ⟨⟨t157, t158, t161⟩, A20, H⟩ := H
 replace H : ((impl_wholeOf.f t157 t158).bind fun bt162 => (if bt162.2.2 = true then ((impl_within.f t161 (-3000) 3000).bind fun t168 => (if t168 = true then (some (bt162.1, bt162.2.1, t161, true)) else (some (false, ([] : List Int), 0, false)))) else (some (false, ([] : List Int), 0, false)))) = some (r1, r2, r3, r4) := H
 have A2 := Aside0.mk A20
 clear A20
 replace H := hBi H
 obtain ⟨⟨t162, t163, t166⟩, A30, H⟩ := H
 replace H : (if t166 = true then ((impl_within.f t161 (-3000) 3000).bind fun t168 => (if t168 = true then (some (t162, t163, t161, true)) else (some (false, ([] : List Int), 0, false)))) else (some (false, ([] : List Int), 0, false))) = some (r1, r2, r3, r4) := H
 have A3 := Aside0.mk A30
 clear A30
 by_cases c4 : t166 = true
 ·subst c4
  have H1 : ((impl_within.f t161 (-3000) 3000).bind fun t168 => (if t168 = true then (some (t162, t163, t161, true)) else (some (false, ([] : List Int), 0, false)))) = some (r1, r2, r3, r4) := by rw [if_pos rfl] at H; exact H
  clear H
  have H := H1
  clear H1
  replace H := hBi H
  obtain ⟨t168, A50, H⟩ := H
  replace H : (if t168 = true then (some (t162, t163, t161, true)) else (some (false, ([] : List Int), 0, false))) = some (r1, r2, r3, r4) := H
  have A5 := Aside0.mk A50
  clear A50
  by_cases c6 : t168 = true
  ·subst c6
   have H1 : (some (t162, t163, t161, true)) = some (r1, r2, r3, r4) := by rw [if_pos rfl] at H; exact H
   clear H
   have H := H1
   clear H1
   simp only [Option.some.injEq, Prod.mk.injEq] at H
   obtain ⟨rfl, rfl, rfl, rfl⟩ := H
   go_enter Tryd.func41, Tryd.ntmps41
   go_wp2_with (first | ((with_reducible refine gate_dst (N := 1) rfl ?_); refine hkBox (N := 1) (cs := #[.bool a0_0, .slice A0_1 l0_1.length c0_1, .int .i64 a0_2]) (t := 76) ?_; intro gb155 hg w7 hbox hb; have n_ := hkA (hkU HB hb) (hkA (Aside0.mk (hbox)) (hkA (hkG hg (hkS HB)) (hkG hg (hkS HB)))); clear HB; obtain ⟨HB, BK155, GW155, GE155⟩ := n_; clear hb hbox hg) | ((with_reducible refine gate_dst (N := 2) rfl ?_); refine hkBox (N := 2) (cs := #[.bool false, .slice none 0 0, .int .i64 0]) (t := 30) ?_; intro gb156 hg w8 hbox hb; have n_ := hkA (hkBb BK155 hb) (hkA (hkU HB hb) (hkA (Aside0.mk (hbox)) (hkA (hkG hg (hkS HB)) (hkA (hkG hg (hkS HB)) (hkA (hkN hg BK155) (hkM hg BK155)))))); clear BK155 HB; obtain ⟨BK155, HB, BK156, GW156, GE156, NB155_156, NB156_155⟩ := n_; clear hb hbox hg; have hnb9 := NB155_156.out; have hnc9 := NB156_155.out; obtain ⟨hcz10_0, hfz10_0, hcz10_1, hfz10_1, hcz10_2, hfz10_2⟩ := hkc3 BK155) | ((with_reducible refine gate_callee (f := 70) rfl ?_); refine hkGo (N := some 7) Tryd.func70 #[.agg #[.bool a0_0, .slice A0_1 l0_1.length c0_1, .int .i64 a0_2]] ?_; (with_reducible refine (impl_exact_odd.calls k a0_0 _ _ l0_1 a0_2 t157 t158 t161 _ ?side1 ?side2 A2.out).mono ?_); (case side1 => exact hkC ((Kd.C_below HR0_1.out HB.out))); (case side2 => exact HC0_1.out); rintro e w11 ⟨v159, rfl, ho0, hb⟩; refine ⟨_, rfl, ?_⟩; have n_ := hkA (Aside0.mk (Kd.R_lower ho0 (below_size (hkS HB)))) (hkA (hkBb BK155 hb) (hkA (hkBb BK156 hb) (hkU HB hb))); clear BK155 BK156 HB; obtain ⟨HO160, BK155, BK156, HB⟩ := n_; (try clear hb); (try clear hk); (try clear ho0); obtain ⟨hcz12_0, hfz12_0, hcz12_1, hfz12_1, hcz12_2, hfz12_2⟩ := hkc3 BK155; obtain ⟨Ao13, co13, eo13⟩ := Kd.R_slice HO160.out; subst eo13) | ((with_reducible refine gate_callee (f := 71) rfl ?_); refine hkGo (N := some 13) Tryd.func71 #[.bool t157, .slice Ao13 t158.length co13] ?_; (with_reducible refine (impl_wholeOf.calls t157 _ _ t158 t162 t163 true _ ?side1 ?side2 A3.out).mono ?_); (case side1 => refine (Kd.R_reads' (e := 3) (base := w.heap.size) (ok := fun k_ => True) (n := t158.length) (c := co13) ?_).2.2; exact (by (with_reducible repeat (first | apply Kd.R_alloc | apply Kd.R_drewN | apply Kd.R_drew)); exact (Kd.R_mono (Kd.R_far (p := ⟨gb155, 2, none⟩) (Kd.R_far (p := ⟨gb155, 1, none⟩) (Kd.R_far (p := ⟨gb155, 0, none⟩) (Kd.R_types HO160.out BK155.out (by decide)) (fun _ hk => hk.2) (.bool t157)) (fun _ hk => hk.2) (.slice Ao13 t158.length co13)) (fun _ hk => hk.2) (.int .i64 t161)) (fun _ h_ => h_.1)))); (case side2 => exact (Kd.R_reads' HO160.out).2.1); rintro e w14 ⟨v164, rfl, ho0, hb⟩; refine ⟨_, rfl, ?_⟩; have n_ := hkA (Aside0.mk (Kd.R_elder' (by (with_reducible repeat (first | apply Kd.R_alloc | apply Kd.R_drewN | apply Kd.R_drew)); exact (Kd.R_mono (Kd.R_far (p := ⟨gb155, 2, none⟩) (Kd.R_far (p := ⟨gb155, 1, none⟩) (Kd.R_far (p := ⟨gb155, 0, none⟩) (Kd.R_types HO160.out BK155.out (by decide)) (fun _ hk => hk.2) (.bool t157)) (fun _ hk => hk.2) (.slice Ao13 t158.length co13)) (fun _ hk => hk.2) (.int .i64 t161)) (fun _ h_ => h_.1))) (Kd.R_base ho0) hb)) (hkA (Aside0.mk (Kd.R_lower (Kd.R_new' ho0 (Kd.R_lt (by (with_reducible repeat (first | apply Kd.R_alloc | apply Kd.R_drewN | apply Kd.R_drew)); exact (Kd.R_mono (Kd.R_far (p := ⟨gb155, 2, none⟩) (Kd.R_far (p := ⟨gb155, 1, none⟩) (Kd.R_far (p := ⟨gb155, 0, none⟩) (Kd.R_types HO160.out BK155.out (by decide)) (fun _ hk => hk.2) (.bool t157)) (fun _ hk => hk.2) (.slice Ao13 t158.length co13)) (fun _ hk => hk.2) (.int .i64 t161)) (fun _ h_ => h_.1))))) (below_size (hkS HB)))) (hkA (Aside0.mk (blk_below (g := gb155) (o := .cells #[.bool t157, .slice Ao13 t158.length co13, .int .i64 t161] 76 (0, 0)) hkPp hb)) (hkA (Aside0.mk (blk_below (g := gb156) (o := .cells #[.bool false, .slice none 0 0, .int .i64 0] 30 (0, 0)) hkPp hb)) (hkU HB hb)))); clear HO160 BK155 BK156 HB; obtain ⟨HO160, HO165, BK155, BK156, HB⟩ := n_; (try clear hb); (try clear hk); (try clear ho0)) | ((with_reducible refine gate_dst (N := 4) rfl ?_); refine hkBox (N := 4) (cs := #[.bool false, .slice none 0 0]) (t := 28) ?_; intro gb167 hg w15 hbox hb; have n_ := hkA (hkRb HO160 hb) (hkA (hkRb HO165 hb) (hkA (hkBb BK155 hb) (hkA (hkBb BK156 hb) (hkA (hkU HB hb) (hkA (Aside0.mk (hbox)) (hkA (hkG hg (hkS HB)) (hkA (hkG hg (hkS HB)) (hkA (hkN hg BK155) (hkA (hkM hg BK155) (hkA (hkN hg BK156) (hkM hg BK156))))))))))); clear HO160 HO165 BK155 BK156 HB; obtain ⟨HO160, HO165, BK155, BK156, HB, BK167, GW167, GE167, NB155_167, NB167_155, NB156_167, NB167_156⟩ := n_; clear hb hbox hg; have hnb16 := NB167_155.out; have hnc16 := NB155_167.out; have hnb17 := NB167_156.out; have hnc17 := NB156_167.out; obtain ⟨hcz18_0, hfz18_0, hcz18_1, hfz18_1⟩ := hkc2 BK167; obtain ⟨Ao19, co19, eo19⟩ := Kd.R_slice HO165.out; subst eo19; obtain ⟨hcz20_0, hfz20_0, hcz20_1, hfz20_1, hcz20_2, hfz20_2⟩ := hkc3 BK155) | (go_at_call 48; (with_reducible refine (impl_within.calls t161 (-3000) 3000 true _ A5.out).mono ?_); rintro e w' ⟨rfl, ⟨nd, rfl⟩⟩; obtain ⟨hcz21_0, hfz21_0, hcz21_1, hfz21_1, hcz21_2, hfz21_2⟩ := hkc3 BK156))
   refine bodyPost_ret (results_ct rfl _ _ gb156 30 #[.bool t162, .slice Ao19 t163.length co19, .int .i64 t161] (0, 0) _ rfl hkPp Tryd.underlying30 rfl (by kernel_rfl)) rfl ?_
   exact ⟨_, hkE, by (with_reducible repeat (first | apply Kd.R_alloc | apply Kd.R_drewN | apply Kd.R_drew)); exact Kd.R_mono (Kd.R_far (p := ⟨gb156, 2, none⟩) (Kd.R_far (p := ⟨gb156, 1, none⟩) (Kd.R_far (p := ⟨gb156, 0, none⟩) (Kd.R_far (p := ⟨gb167, 1, none⟩) (Kd.R_far (p := ⟨gb167, 0, none⟩) (Kd.R_types (Kd.R_types HO165.out BK167.out (by decide)) BK156.out (by decide)) (fun _ hk => hk.1.2) (.bool t162)) (fun _ hk => hk.1.2) (.slice Ao19 t163.length co19)) (fun _ hk => hk.2) (.bool t162)) (fun _ hk => hk.2) (.slice Ao19 t163.length co19)) (fun _ hk => hk.2) (.int .i64 t161)) (fun _ hk => trivial), hkS HB⟩
  ·replace c6 := Bool.eq_false_iff.mpr c6
   subst c6
   have H1 : (some (false, ([] : List Int), 0, false)) = some (r1, r2, r3, r4) := by rw [if_neg (show ¬ (false = true) by decide)] at H; exact H
   clear H
   have H := H1
   clear H1
   simp only [Option.some.injEq, Prod.mk.injEq] at H
   obtain ⟨rfl, rfl, rfl, rfl⟩ := H
   go_enter Tryd.func41, Tryd.ntmps41
   go_wp2_with (first | ((with_reducible refine gate_dst (N := 1) rfl ?_); refine hkBox (N := 1) (cs := #[.bool a0_0, .slice A0_1 l0_1.length c0_1, .int .i64 a0_2]) (t := 76) ?_; intro gb155 hg w22 hbox hb; have n_ := hkA (hkU HB hb) (hkA (Aside0.mk (hbox)) (hkA (hkG hg (hkS HB)) (hkG hg (hkS HB)))); clear HB; obtain ⟨HB, BK155, GW155, GE155⟩ := n_; clear hb hbox hg) | ((with_reducible refine gate_dst (N := 2) rfl ?_); refine hkBox (N := 2) (cs := #[.bool false, .slice none 0 0, .int .i64 0]) (t := 30) ?_; intro gb156 hg w23 hbox hb; have n_ := hkA (hkBb BK155 hb) (hkA (hkU HB hb) (hkA (Aside0.mk (hbox)) (hkA (hkG hg (hkS HB)) (hkA (hkG hg (hkS HB)) (hkA (hkN hg BK155) (hkM hg BK155)))))); clear BK155 HB; obtain ⟨BK155, HB, BK156, GW156, GE156, NB155_156, NB156_155⟩ := n_; clear hb hbox hg; have hnb24 := NB155_156.out; have hnc24 := NB156_155.out; obtain ⟨hcz25_0, hfz25_0, hcz25_1, hfz25_1, hcz25_2, hfz25_2⟩ := hkc3 BK155) | ((with_reducible refine gate_callee (f := 70) rfl ?_); refine hkGo (N := some 7) Tryd.func70 #[.agg #[.bool a0_0, .slice A0_1 l0_1.length c0_1, .int .i64 a0_2]] ?_; (with_reducible refine (impl_exact_odd.calls k a0_0 _ _ l0_1 a0_2 t157 t158 t161 _ ?side1 ?side2 A2.out).mono ?_); (case side1 => exact hkC ((Kd.C_below HR0_1.out HB.out))); (case side2 => exact HC0_1.out); rintro e w26 ⟨v159, rfl, ho0, hb⟩; refine ⟨_, rfl, ?_⟩; have n_ := hkA (Aside0.mk (Kd.R_lower ho0 (below_size (hkS HB)))) (hkA (hkBb BK155 hb) (hkA (hkBb BK156 hb) (hkU HB hb))); clear BK155 BK156 HB; obtain ⟨HO160, BK155, BK156, HB⟩ := n_; (try clear hb); (try clear hk); (try clear ho0); obtain ⟨hcz27_0, hfz27_0, hcz27_1, hfz27_1, hcz27_2, hfz27_2⟩ := hkc3 BK155; obtain ⟨Ao28, co28, eo28⟩ := Kd.R_slice HO160.out; subst eo28) | ((with_reducible refine gate_callee (f := 71) rfl ?_); refine hkGo (N := some 13) Tryd.func71 #[.bool t157, .slice Ao28 t158.length co28] ?_; (with_reducible refine (impl_wholeOf.calls t157 _ _ t158 t162 t163 true _ ?side1 ?side2 A3.out).mono ?_); (case side1 => refine (Kd.R_reads' (e := 3) (base := w.heap.size) (ok := fun k_ => True) (n := t158.length) (c := co28) ?_).2.2; exact (by (with_reducible repeat (first | apply Kd.R_alloc | apply Kd.R_drewN | apply Kd.R_drew)); exact (Kd.R_mono (Kd.R_far (p := ⟨gb155, 2, none⟩) (Kd.R_far (p := ⟨gb155, 1, none⟩) (Kd.R_far (p := ⟨gb155, 0, none⟩) (Kd.R_types HO160.out BK155.out (by decide)) (fun _ hk => hk.2) (.bool t157)) (fun _ hk => hk.2) (.slice Ao28 t158.length co28)) (fun _ hk => hk.2) (.int .i64 t161)) (fun _ h_ => h_.1)))); (case side2 => exact (Kd.R_reads' HO160.out).2.1); rintro e w29 ⟨v164, rfl, ho0, hb⟩; refine ⟨_, rfl, ?_⟩; have n_ := hkA (Aside0.mk (Kd.R_elder' (by (with_reducible repeat (first | apply Kd.R_alloc | apply Kd.R_drewN | apply Kd.R_drew)); exact (Kd.R_mono (Kd.R_far (p := ⟨gb155, 2, none⟩) (Kd.R_far (p := ⟨gb155, 1, none⟩) (Kd.R_far (p := ⟨gb155, 0, none⟩) (Kd.R_types HO160.out BK155.out (by decide)) (fun _ hk => hk.2) (.bool t157)) (fun _ hk => hk.2) (.slice Ao28 t158.length co28)) (fun _ hk => hk.2) (.int .i64 t161)) (fun _ h_ => h_.1))) (Kd.R_base ho0) hb)) (hkA (Aside0.mk (Kd.R_lower (Kd.R_new' ho0 (Kd.R_lt (by (with_reducible repeat (first | apply Kd.R_alloc | apply Kd.R_drewN | apply Kd.R_drew)); exact (Kd.R_mono (Kd.R_far (p := ⟨gb155, 2, none⟩) (Kd.R_far (p := ⟨gb155, 1, none⟩) (Kd.R_far (p := ⟨gb155, 0, none⟩) (Kd.R_types HO160.out BK155.out (by decide)) (fun _ hk => hk.2) (.bool t157)) (fun _ hk => hk.2) (.slice Ao28 t158.length co28)) (fun _ hk => hk.2) (.int .i64 t161)) (fun _ h_ => h_.1))))) (below_size (hkS HB)))) (hkA (Aside0.mk (blk_below (g := gb155) (o := .cells #[.bool t157, .slice Ao28 t158.length co28, .int .i64 t161] 76 (0, 0)) hkPp hb)) (hkA (Aside0.mk (blk_below (g := gb156) (o := .cells #[.bool false, .slice none 0 0, .int .i64 0] 30 (0, 0)) hkPp hb)) (hkU HB hb)))); clear HO160 BK155 BK156 HB; obtain ⟨HO160, HO165, BK155, BK156, HB⟩ := n_; (try clear hb); (try clear hk); (try clear ho0)) | ((with_reducible refine gate_dst (N := 4) rfl ?_); refine hkBox (N := 4) (cs := #[.bool false, .slice none 0 0]) (t := 28) ?_; intro gb167 hg w30 hbox hb; have n_ := hkA (hkRb HO160 hb) (hkA (hkRb HO165 hb) (hkA (hkBb BK155 hb) (hkA (hkBb BK156 hb) (hkA (hkU HB hb) (hkA (Aside0.mk (hbox)) (hkA (hkG hg (hkS HB)) (hkA (hkG hg (hkS HB)) (hkA (hkN hg BK155) (hkA (hkM hg BK155) (hkA (hkN hg BK156) (hkM hg BK156))))))))))); clear HO160 HO165 BK155 BK156 HB; obtain ⟨HO160, HO165, BK155, BK156, HB, BK167, GW167, GE167, NB155_167, NB167_155, NB156_167, NB167_156⟩ := n_; clear hb hbox hg; have hnb31 := NB167_155.out; have hnc31 := NB155_167.out; have hnb32 := NB167_156.out; have hnc32 := NB156_167.out; obtain ⟨hcz33_0, hfz33_0, hcz33_1, hfz33_1⟩ := hkc2 BK167; obtain ⟨Ao34, co34, eo34⟩ := Kd.R_slice HO165.out; subst eo34; obtain ⟨hcz35_0, hfz35_0, hcz35_1, hfz35_1, hcz35_2, hfz35_2⟩ := hkc3 BK155) | (go_at_call 48; (with_reducible refine (impl_within.calls t161 (-3000) 3000 false _ A5.out).mono ?_); rintro e w' ⟨rfl, ⟨nd, rfl⟩⟩; obtain ⟨hcz36_0, hfz36_0, hcz36_1, hfz36_1, hcz36_2, hfz36_2⟩ := hkc3 BK156))
   refine bodyPost_ret (results_ct rfl _ _ gb156 30 #[.bool false, .slice none 0 0, .int .i64 0] (0, 0) _ rfl hkPp Tryd.underlying30 rfl (by kernel_rfl)) rfl ?_
   exact ⟨_, hkE, by first | exact Kd.R_nil _ _ _ _ _ | exact Kd.N_nil _ _ _ _ _ | exact Kd.V_nil _ _ _ _ _ | exact Kd.Q_nil _ _ _ _ _ | exact Kd.S_nil _ _ _ _ _, hkS HB⟩
 ·replace c4 := Bool.eq_false_iff.mpr c4
  subst c4
  have H1 : (some (false, ([] : List Int), 0, false)) = some (r1, r2, r3, r4) := by rw [if_neg (show ¬ (false = true) by decide)] at H; exact H
  clear H
  have H := H1
  clear H1
  simp only [Option.some.injEq, Prod.mk.injEq] at H
  obtain ⟨rfl, rfl, rfl, rfl⟩ := H
  go_enter Tryd.func41, Tryd.ntmps41
  go_wp2_with (first | ((with_reducible refine gate_dst (N := 1) rfl ?_); refine hkBox (N := 1) (cs := #[.bool a0_0, .slice A0_1 l0_1.length c0_1, .int .i64 a0_2]) (t := 76) ?_; intro gb155 hg w37 hbox hb; have n_ := hkA (hkU HB hb) (hkA (Aside0.mk (hbox)) (hkA (hkG hg (hkS HB)) (hkG hg (hkS HB)))); clear HB; obtain ⟨HB, BK155, GW155, GE155⟩ := n_; clear hb hbox hg) | ((with_reducible refine gate_dst (N := 2) rfl ?_); refine hkBox (N := 2) (cs := #[.bool false, .slice none 0 0, .int .i64 0]) (t := 30) ?_; intro gb156 hg w38 hbox hb; have n_ := hkA (hkBb BK155 hb) (hkA (hkU HB hb) (hkA (Aside0.mk (hbox)) (hkA (hkG hg (hkS HB)) (hkA (hkG hg (hkS HB)) (hkA (hkN hg BK155) (hkM hg BK155)))))); clear BK155 HB; obtain ⟨BK155, HB, BK156, GW156, GE156, NB155_156, NB156_155⟩ := n_; clear hb hbox hg; have hnb39 := NB155_156.out; have hnc39 := NB156_155.out; obtain ⟨hcz40_0, hfz40_0, hcz40_1, hfz40_1, hcz40_2, hfz40_2⟩ := hkc3 BK155) | ((with_reducible refine gate_callee (f := 70) rfl ?_); refine hkGo (N := some 7) Tryd.func70 #[.agg #[.bool a0_0, .slice A0_1 l0_1.length c0_1, .int .i64 a0_2]] ?_; (with_reducible refine (impl_exact_odd.calls k a0_0 _ _ l0_1 a0_2 t157 t158 t161 _ ?side1 ?side2 A2.out).mono ?_); (case side1 => exact hkC ((Kd.C_below HR0_1.out HB.out))); (case side2 => exact HC0_1.out); rintro e w41 ⟨v159, rfl, ho0, hb⟩; refine ⟨_, rfl, ?_⟩; have n_ := hkA (Aside0.mk (Kd.R_lower ho0 (below_size (hkS HB)))) (hkA (hkBb BK155 hb) (hkA (hkBb BK156 hb) (hkU HB hb))); clear BK155 BK156 HB; obtain ⟨HO160, BK155, BK156, HB⟩ := n_; (try clear hb); (try clear hk); (try clear ho0); obtain ⟨hcz42_0, hfz42_0, hcz42_1, hfz42_1, hcz42_2, hfz42_2⟩ := hkc3 BK155; obtain ⟨Ao43, co43, eo43⟩ := Kd.R_slice HO160.out; subst eo43) | ((with_reducible refine gate_callee (f := 71) rfl ?_); refine hkGo (N := some 13) Tryd.func71 #[.bool t157, .slice Ao43 t158.length co43] ?_; (with_reducible refine (impl_wholeOf.calls t157 _ _ t158 t162 t163 false _ ?side1 ?side2 A3.out).mono ?_); (case side1 => refine (Kd.R_reads' (e := 3) (base := w.heap.size) (ok := fun k_ => True) (n := t158.length) (c := co43) ?_).2.2; exact (by (with_reducible repeat (first | apply Kd.R_alloc | apply Kd.R_drewN | apply Kd.R_drew)); exact (Kd.R_mono (Kd.R_far (p := ⟨gb155, 2, none⟩) (Kd.R_far (p := ⟨gb155, 1, none⟩) (Kd.R_far (p := ⟨gb155, 0, none⟩) (Kd.R_types HO160.out BK155.out (by decide)) (fun _ hk => hk.2) (.bool t157)) (fun _ hk => hk.2) (.slice Ao43 t158.length co43)) (fun _ hk => hk.2) (.int .i64 t161)) (fun _ h_ => h_.1)))); (case side2 => exact (Kd.R_reads' HO160.out).2.1); rintro e w44 ⟨v164, rfl, ho0, hb⟩; refine ⟨_, rfl, ?_⟩; have n_ := hkA (Aside0.mk (Kd.R_elder' (by (with_reducible repeat (first | apply Kd.R_alloc | apply Kd.R_drewN | apply Kd.R_drew)); exact (Kd.R_mono (Kd.R_far (p := ⟨gb155, 2, none⟩) (Kd.R_far (p := ⟨gb155, 1, none⟩) (Kd.R_far (p := ⟨gb155, 0, none⟩) (Kd.R_types HO160.out BK155.out (by decide)) (fun _ hk => hk.2) (.bool t157)) (fun _ hk => hk.2) (.slice Ao43 t158.length co43)) (fun _ hk => hk.2) (.int .i64 t161)) (fun _ h_ => h_.1))) (Kd.R_base ho0) hb)) (hkA (Aside0.mk (Kd.R_lower (Kd.R_new' ho0 (Kd.R_lt (by (with_reducible repeat (first | apply Kd.R_alloc | apply Kd.R_drewN | apply Kd.R_drew)); exact (Kd.R_mono (Kd.R_far (p := ⟨gb155, 2, none⟩) (Kd.R_far (p := ⟨gb155, 1, none⟩) (Kd.R_far (p := ⟨gb155, 0, none⟩) (Kd.R_types HO160.out BK155.out (by decide)) (fun _ hk => hk.2) (.bool t157)) (fun _ hk => hk.2) (.slice Ao43 t158.length co43)) (fun _ hk => hk.2) (.int .i64 t161)) (fun _ h_ => h_.1))))) (below_size (hkS HB)))) (hkA (Aside0.mk (blk_below (g := gb155) (o := .cells #[.bool t157, .slice Ao43 t158.length co43, .int .i64 t161] 76 (0, 0)) hkPp hb)) (hkA (Aside0.mk (blk_below (g := gb156) (o := .cells #[.bool false, .slice none 0 0, .int .i64 0] 30 (0, 0)) hkPp hb)) (hkU HB hb)))); clear HO160 BK155 BK156 HB; obtain ⟨HO160, HO165, BK155, BK156, HB⟩ := n_; (try clear hb); (try clear hk); (try clear ho0)) | ((with_reducible refine gate_dst (N := 4) rfl ?_); refine hkBox (N := 4) (cs := #[.bool false, .slice none 0 0]) (t := 28) ?_; intro gb167 hg w45 hbox hb; have n_ := hkA (hkRb HO160 hb) (hkA (hkRb HO165 hb) (hkA (hkBb BK155 hb) (hkA (hkBb BK156 hb) (hkA (hkU HB hb) (hkA (Aside0.mk (hbox)) (hkA (hkG hg (hkS HB)) (hkA (hkG hg (hkS HB)) (hkA (hkN hg BK155) (hkA (hkM hg BK155) (hkA (hkN hg BK156) (hkM hg BK156))))))))))); clear HO160 HO165 BK155 BK156 HB; obtain ⟨HO160, HO165, BK155, BK156, HB, BK167, GW167, GE167, NB155_167, NB167_155, NB156_167, NB167_156⟩ := n_; clear hb hbox hg; have hnb46 := NB167_155.out; have hnc46 := NB155_167.out; have hnb47 := NB167_156.out; have hnc47 := NB156_167.out; obtain ⟨hcz48_0, hfz48_0, hcz48_1, hfz48_1⟩ := hkc2 BK167; obtain ⟨Ao49, co49, eo49⟩ := Kd.R_slice HO165.out; subst eo49; obtain ⟨hcz50_0, hfz50_0, hcz50_1, hfz50_1, hcz50_2, hfz50_2⟩ := hkc3 BK156))
  refine bodyPost_ret (results_ct rfl _ _ gb156 30 #[.bool false, .slice none 0 0, .int .i64 0] (0, 0) _ rfl hkPp Tryd.underlying30 rfl (by kernel_rfl)) rfl ?_
  exact ⟨_, hkE, by first | exact Kd.R_nil _ _ _ _ _ | exact Kd.N_nil _ _ _ _ _ | exact Kd.V_nil _ _ _ _ _ | exact Kd.Q_nil _ _ _ _ _ | exact Kd.S_nil _ _ _ _ _, hkS HB⟩

/-! ### impl_FlDy: function 10 -/
def impl_FlDy.j0 : Nat → Bool → Int → Bool → Int → Int → Option (Bool × List Int × Int × Bool)
 | 0, _, _, _, _, _ => none
 | k + 1, x11, x170000, x170001, x170002, x170003 => if x11 = true then (some (false, ([] : List Int), 0, false)) else ((impl_Fl_exact.f k x170000 x170001 x170002 x170003).bind fun bt173 => ((impl_exact_dy.f k bt173.1 bt173.2.1 bt173.2.2).bind fun bt178 => (some (bt178.1, bt178.2.1, bt178.2.2.1, bt178.2.2.2))))
def impl_FlDy.f (k : Nat) (a0_0 : Int) (a0_1 : Bool) (a0_2 : Int) (a0_3 : Int) : Option (Bool × List Int × Int × Bool) := (impl_FlOk.f a0_0 a0_1 a0_2 a0_3).bind fun t171 => (if t171 = true then ((impl_Fl_isFinite.f a0_0 a0_1 a0_2 a0_3).bind fun t172 => (impl_FlDy.j0 k (!t172) a0_0 a0_1 a0_2 a0_3)) else (impl_FlDy.j0 k true a0_0 a0_1 a0_2 a0_3))
theorem impl_FlDy.mono_l : ∀ k, (∀ y0 y1 y2 y3 y4, LeO (impl_FlDy.j0 k y0 y1 y2 y3 y4) (impl_FlDy.j0 (k + 1) y0 y1 y2 y3 y4))
 | 0 => fun _ _ _ _ _ r h => by simp [impl_FlDy.j0] at h
 | k + 1 => by
  have ih0 := impl_FlDy.mono_l k
  ·intro y0 y1 y2 y3 y4
   unfold impl_FlDy.j0
   repeat' first
   | (with_reducible exact ih0 _ _ _ _ _)
   | (with_reducible exact impl_Fl_exact.mono _ _ _ _ _)
   | (with_reducible exact impl_exact_dy.mono _ _ _ _)
   | (with_reducible exact LeO.refl _)
   | (with_reducible exact LeO.none _)
   | (with_reducible refine LeO.ite ?_ ?_)
   | (with_reducible refine LeO.bind ?_ (fun _ => ?_))
   | exact ih0 _ _ _ _ _
   | exact impl_Fl_exact.mono _ _ _ _ _
   | exact impl_exact_dy.mono _ _ _ _
   | exact LeO.none _
   | refine LeO.ite ?_ ?_
   | refine LeO.bind ?_ (fun _ => ?_)
theorem impl_FlDy.mono : ∀ a0 a1 a2 a3 k, LeO (impl_FlDy.f k a0 a1 a2 a3) (impl_FlDy.f (k + 1) a0 a1 a2 a3) := by
 intro a0 a1 a2 a3 k
 have ih0 := impl_FlDy.mono_l k
 unfold impl_FlDy.f
 repeat' first
   | (with_reducible exact ih0 _ _ _ _ _)
   | (with_reducible exact impl_Fl_exact.mono _ _ _ _ _)
   | (with_reducible exact impl_exact_dy.mono _ _ _ _)
   | (with_reducible exact LeO.refl _)
   | (with_reducible exact LeO.none _)
   | (with_reducible refine LeO.ite ?_ ?_)
   | (with_reducible refine LeO.bind ?_ (fun _ => ?_))
   | exact ih0 _ _ _ _ _
   | exact impl_Fl_exact.mono _ _ _ _ _
   | exact impl_exact_dy.mono _ _ _ _
   | exact LeO.none _
   | refine LeO.ite ?_ ?_
   | refine LeO.bind ?_ (fun _ => ?_)
set_option maxHeartbeats 8000000 in
set_option maxRecDepth 100000 in
theorem impl_FlDy.calls (k : Nat) (a0_0 : Int) (a0_1 : Bool) (a0_2 : Int) (a0_3 : Int) (r1 : Bool) (r2 : List Int) (r3 : Int) (r4 : Bool) (w : World) (h : impl_FlDy.f k a0_0 a0_1 a0_2 a0_3 = some (r1, r2, r3, r4)) (hT : hTab w := by exact hTab_use (by assumption)) :
  Calls Tryd.prog 10 #[.agg #[.int .i64 a0_0, .bool a0_1, .int .i64 a0_2, .int .i64 a0_3]] w fun e w' => ∃ v1_ : Value, e = .returned (.tuple #[.agg #[.bool r1, v1_, .int .i64 r3], .bool r4]) ∧ Kd.R (Kd.int .i64) 3 w' w.heap.size (fun _ => True) v1_ r2 ∧ Below w.heap.size w w' := by
 have HT0 := Aside0.mk hT
 clear hT
 have hu33 := Tryd.underlying33
 have hu30 := Tryd.underlying30
 have HB := Aside0.mk (Below.refl w.heap.size w)
 have H : ((impl_FlOk.f a0_0 a0_1 a0_2 a0_3).bind fun t171 => (if t171 = true then ((impl_Fl_isFinite.f a0_0 a0_1 a0_2 a0_3).bind fun t172 => (impl_FlDy.j0 k (!t172) a0_0 a0_1 a0_2 a0_3)) else (impl_FlDy.j0 k true a0_0 a0_1 a0_2 a0_3))) = some (r1, r2, r3, r4) := h
 clear h
 have HC2 := Aside0.mk H
 clear H
 go_enter Tryd.func10, Tryd.ntmps10
 go_upto_region 1 with (first | ((with_reducible refine gate_dst (N := 1) rfl ?_); refine hkBox (N := 1) (cs := #[.int .i64 a0_0, .bool a0_1, .int .i64 a0_2, .int .i64 a0_3]) (t := 33) ?_; intro gb169 hg w3 hbox hb; have n_ := hkA (hkU HB hb) (hkA (Aside0.mk (hbox)) (hkA (hkG hg (hkS HB)) (hkG hg (hkS HB)))); clear HB; obtain ⟨HB, BK169, GW169, GE169⟩ := n_; clear hb hbox hg) | ((with_reducible refine gate_dst (N := 2) rfl ?_); refine hkBox (N := 2) (cs := #[.bool false, .slice none 0 0, .int .i64 0]) (t := 30) ?_; intro gb170 hg w4 hbox hb; have n_ := hkA (hkBb BK169 hb) (hkA (hkU HB hb) (hkA (Aside0.mk (hbox)) (hkA (hkG hg (hkS HB)) (hkA (hkG hg (hkS HB)) (hkA (hkN hg BK169) (hkM hg BK169)))))); clear BK169 HB; obtain ⟨BK169, HB, BK170, GW170, GE170, NB169_170, NB170_169⟩ := n_; clear hb hbox hg))
 (try simp only [Act.put, List.setIfInBounds_toArray, List.set_cons_zero, List.set_cons_succ])
 go_cut [11] (fun v11 wc => ∃ (kq : Nat) (x11_1 : Bool), v11 = .bool x11_1 ∧ Aside0 (impl_FlDy.j0 kq x11_1 a0_0 a0_1 a0_2 a0_3 = some (r1, r2, r3, r4)) ∧ Aside0 (kq ≤ k) ∧ Aside0 (wc.heap[gb169]? = some (.cells #[.int .i64 a0_0, .bool a0_1, .int .i64 a0_2, .int .i64 a0_3] 33 (0, 0))) ∧ Aside0 (wc.heap[gb170]? = some (.cells #[.bool false, (.slice none 0 0), .int .i64 0] 30 (0, 0))) ∧ Aside0 (Below w.heap.size w wc))
 case first =>
  have H := HC2.out
  clear HC2
  replace H := hBi H
  obtain ⟨t171, A50, H⟩ := H
  replace H : (if t171 = true then ((impl_Fl_isFinite.f a0_0 a0_1 a0_2 a0_3).bind fun t172 => (impl_FlDy.j0 k (!t172) a0_0 a0_1 a0_2 a0_3)) else (impl_FlDy.j0 k true a0_0 a0_1 a0_2 a0_3)) = some (r1, r2, r3, r4) := H
  have A5 := Aside0.mk A50
  clear A50
  by_cases c6 : t171 = true
  ·subst c6
   have H1 : ((impl_Fl_isFinite.f a0_0 a0_1 a0_2 a0_3).bind fun t172 => (impl_FlDy.j0 k (!t172) a0_0 a0_1 a0_2 a0_3)) = some (r1, r2, r3, r4) := by rw [if_pos rfl] at H; exact H
   clear H
   have H := H1
   clear H1
   replace H := hBi H
   obtain ⟨t172, A70, H⟩ := H
   replace H : (impl_FlDy.j0 k (!t172) a0_0 a0_1 a0_2 a0_3) = some (r1, r2, r3, r4) := H
   have A7 := Aside0.mk A70
   clear A70
   have H' := Aside0.mk H
   clear H
   have hnb8 := NB169_170.out
   have hnc8 := NB170_169.out
   obtain ⟨hcz9_0, hfz9_0, hcz9_1, hfz9_1, hcz9_2, hfz9_2, hcz9_3, hfz9_3⟩ := hkc4 BK169
   go_wp2_with (first | ((with_reducible refine gate_callee (f := 38) rfl ?_); refine hkGo (N := some 5) Tryd.func38 #[.agg #[.int .i64 a0_0, .bool a0_1, .int .i64 a0_2, .int .i64 a0_3]] ?_; (with_reducible refine (impl_FlOk.calls a0_0 a0_1 a0_2 a0_3 true _ A5.out).mono ?_); rintro e w10 ⟨rfl, hb⟩; refine ⟨_, rfl, ?_⟩; have n_ := hkA (hkBb BK169 hb) (hkA (hkBb BK170 hb) (hkU HB hb)); clear BK169 BK170 HB; obtain ⟨BK169, BK170, HB⟩ := n_; (try clear hb); obtain ⟨hcz11_0, hfz11_0, hcz11_1, hfz11_1, hcz11_2, hfz11_2, hcz11_3, hfz11_3⟩ := hkc4 BK169) | (go_at_call 39; (with_reducible refine (impl_Fl_isFinite.calls a0_0 a0_1 a0_2 a0_3 t172 _ A7.out).mono ?_); rintro e w12 ⟨rfl, hb⟩; have n_ := hkA (hkBb BK169 hb) (hkA (hkBb BK170 hb) (hkU HB hb)); clear BK169 BK170 HB; obtain ⟨BK169, BK170, HB⟩ := n_; (try clear hb)))
   go_meet
   case rel => exact ⟨_, (!t172), (by first | rfl | (simp; done) | (simp [*]; done)), H', ⟨by first | omega | exact Nat.le_refl _⟩, ⟨by refine hkz ?_; exact BK169.out⟩, ⟨by refine hkz ?_; exact BK170.out⟩, ⟨hkS HB⟩⟩
  ·replace c6 := Bool.eq_false_iff.mpr c6
   subst c6
   have H1 : (impl_FlDy.j0 k true a0_0 a0_1 a0_2 a0_3) = some (r1, r2, r3, r4) := by rw [if_neg (show ¬ (false = true) by decide)] at H; exact H
   clear H
   have H := H1
   clear H1
   have H' := Aside0.mk H
   clear H
   have hnb13 := NB169_170.out
   have hnc13 := NB170_169.out
   obtain ⟨hcz14_0, hfz14_0, hcz14_1, hfz14_1, hcz14_2, hfz14_2, hcz14_3, hfz14_3⟩ := hkc4 BK169
   go_wp2_with (first | ((with_reducible refine gate_callee (f := 38) rfl ?_); refine hkGo (N := some 5) Tryd.func38 #[.agg #[.int .i64 a0_0, .bool a0_1, .int .i64 a0_2, .int .i64 a0_3]] ?_; (with_reducible refine (impl_FlOk.calls a0_0 a0_1 a0_2 a0_3 false _ A5.out).mono ?_); rintro e w15 ⟨rfl, hb⟩; refine ⟨_, rfl, ?_⟩; have n_ := hkA (hkBb BK169 hb) (hkA (hkBb BK170 hb) (hkU HB hb)); clear BK169 BK170 HB; obtain ⟨BK169, BK170, HB⟩ := n_; (try clear hb)))
   go_meet
   case rel => exact ⟨_, (true), (by first | rfl | (simp; done) | (simp [*]; done)), H', ⟨by first | omega | exact Nat.le_refl _⟩, ⟨by refine hkz ?_; exact BK169.out⟩, ⟨by refine hkz ?_; exact BK170.out⟩, ⟨hkS HB⟩⟩
 case rest =>
  clear HC2
  try clear c1
  try clear p2
  try clear c3
  try clear c6
  try clear c8
  try clear c10
  try clear c13
  try clear hcz11_0 hcz11_1 hcz11_2 hcz11_3 hcz14_0 hcz14_1 hcz14_2 hcz14_3 hcz9_0 hcz9_1 hcz9_2 hcz9_3 hfz11_0 hfz11_1 hfz11_2 hfz11_3 hfz14_0 hfz14_1 hfz14_2 hfz14_3 hfz9_0 hfz9_1 hfz9_2 hfz9_3
  obtain ⟨kq, x11_1, rfl, HA, HJ1, BK169, BK170, HB⟩ := hcut
  cases kq with
  | zero => exact absurd HA.out (by simp [impl_FlDy.j0])
  | succ kj1 =>
   have H := HA.out
   clear HA
   simp only [impl_FlDy.j0] at H
   by_cases c16 : x11_1 = true
   ·subst c16
    have H1 : (some (false, ([] : List Int), 0, false)) = some (r1, r2, r3, r4) := by rw [if_pos rfl] at H; exact H
    clear H
    have H := H1
    clear H1
    simp only [Option.some.injEq, Prod.mk.injEq] at H
    obtain ⟨rfl, rfl, rfl, rfl⟩ := H
    have hnb17 := NB170_169.out
    have hnc17 := NB169_170.out
    obtain ⟨hcz18_0, hfz18_0, hcz18_1, hfz18_1, hcz18_2, hfz18_2⟩ := hkc3 BK170
    go_wp2
    refine bodyPost_ret (results_ct rfl _ _ gb170 30 #[.bool false, .slice none 0 0, .int .i64 0] (0, 0) _ rfl hkPp Tryd.underlying30 rfl (by kernel_rfl)) rfl ?_
    exact ⟨_, hkE, by first | exact Kd.R_nil _ _ _ _ _ | exact Kd.N_nil _ _ _ _ _ | exact Kd.V_nil _ _ _ _ _ | exact Kd.Q_nil _ _ _ _ _ | exact Kd.S_nil _ _ _ _ _, hkS HB⟩
   ·replace c16 := Bool.eq_false_iff.mpr c16
    subst c16
    have H1 : ((impl_Fl_exact.f kj1 a0_0 a0_1 a0_2 a0_3).bind fun bt173 => ((impl_exact_dy.f kj1 bt173.1 bt173.2.1 bt173.2.2).bind fun bt178 => (some (bt178.1, bt178.2.1, bt178.2.2.1, bt178.2.2.2)))) = some (r1, r2, r3, r4) := by rw [if_neg (show ¬ (false = true) by decide)] at H; exact H
    clear H
    have H := H1
    clear H1
    replace H := hBi H
    obtain ⟨⟨t173, t174, t177⟩, A190, H⟩ := H
    replace H : ((impl_exact_dy.f kj1 t173 t174 t177).bind fun bt178 => (some (bt178.1, bt178.2.1, bt178.2.2.1, bt178.2.2.2))) = some (r1, r2, r3, r4) := H
    have A19 := Aside0.mk A190
    clear A190
    replace H := hBi H
    obtain ⟨⟨t178, t179, t182, t183⟩, A200, H⟩ := H
    replace H : (some (t178, t179, t182, t183)) = some (r1, r2, r3, r4) := H
    have A20 := Aside0.mk A200
    clear A200
    simp only [Option.some.injEq, Prod.mk.injEq] at H
    obtain ⟨rfl, rfl, rfl, rfl⟩ := H
    have hnb21 := NB169_170.out
    have hnc21 := NB170_169.out
    obtain ⟨hcz22_0, hfz22_0, hcz22_1, hfz22_1, hcz22_2, hfz22_2, hcz22_3, hfz22_3⟩ := hkc4 BK169
    go_wp2_with (first | ((with_reducible refine gate_callee (f := 40) rfl ?_); refine hkGo (N := some 14) Tryd.func40 #[.agg #[.int .i64 a0_0, .bool a0_1, .int .i64 a0_2, .int .i64 a0_3]] ?_; (with_reducible refine (impl_Fl_exact.calls kj1 a0_0 a0_1 a0_2 a0_3 t173 t174 t177 _ A19.out).mono ?_); rintro e w23 ⟨v175, rfl, ho0, hb⟩; refine ⟨_, rfl, ?_⟩; have n_ := hkA (Aside0.mk (Kd.R_lower ho0 (below_size (hkS HB)))) (hkA (hkBb BK169 hb) (hkA (hkBb BK170 hb) (hkU HB hb))); clear BK169 BK170 HB; obtain ⟨HO176, BK169, BK170, HB⟩ := n_; (try clear hb); (try clear ho0); obtain ⟨Ao24, co24, eo24⟩ := Kd.R_slice HO176.out; subst eo24) | ((with_reducible refine gate_callee (f := 41) rfl ?_); refine hkGo (N := some 15) Tryd.func41 #[.agg #[.bool t173, .slice Ao24 t174.length co24, .int .i64 t177]] ?_; (with_reducible refine (impl_exact_dy.calls kj1 t173 _ _ t174 t177 t178 t179 t182 t183 _ ?side1 ?side2 A20.out).mono ?_); (case side1 => exact hkC ((Kd.R_reads' HO176.out).2.2)); (case side2 => exact (Kd.R_reads' HO176.out).2.1); rintro e w25 ⟨v180, rfl, ho0, hb⟩; refine ⟨_, rfl, ?_⟩; have n_ := hkA (Aside0.mk (Kd.R_elder' (hkR HO176) (Kd.R_base ho0) hb)) (hkA (Aside0.mk (Kd.R_lower (Kd.R_new' ho0 (Kd.R_lt (hkR HO176))) (below_size (hkS HB)))) (hkA (hkBb BK169 hb) (hkA (hkBb BK170 hb) (hkU HB hb)))); clear HO176 BK169 BK170 HB; obtain ⟨HO176, HO181, BK169, BK170, HB⟩ := n_; (try clear hb); (try clear ho0); obtain ⟨hcz26_0, hfz26_0, hcz26_1, hfz26_1, hcz26_2, hfz26_2⟩ := hkc3 BK170; obtain ⟨Ao27, co27, eo27⟩ := Kd.R_slice HO181.out; subst eo27))
    refine bodyPost_ret (results_ct rfl _ _ gb170 30 #[.bool t178, .slice Ao27 t179.length co27, .int .i64 t182] (0, 0) _ rfl hkPp Tryd.underlying30 rfl (by kernel_rfl)) rfl ?_
    exact ⟨_, hkE, by (with_reducible repeat (first | apply Kd.R_alloc | apply Kd.R_drewN | apply Kd.R_drew)); exact Kd.R_mono (Kd.R_far (p := ⟨gb170, 2, none⟩) (Kd.R_far (p := ⟨gb170, 1, none⟩) (Kd.R_far (p := ⟨gb170, 0, none⟩) (Kd.R_types HO181.out BK170.out (by decide)) (fun _ hk => hk.2) (.bool t178)) (fun _ hk => hk.2) (.slice Ao27 t179.length co27)) (fun _ hk => hk.2) (.int .i64 t182)) (fun _ hk => trivial), hkS HB⟩

end Go.Proofs.YtgjpahofopoflaaDoor.PFnFlOrder
