-- Written by our own driver (wip/hand/hprint.py) over the seat's translation.
import Derived.Test.YthmieecgojiliaaDoorPFnExactDecTextx0
import Derived.Test.YthmieecgojiliaaDoorPFnExactDecTextx1
import Derived.Test.YthmieecgojiliaaDoorPFnExactDecTextx2
namespace Go.Proofs.YthmieecgojiliaaDoor.PFnExactDecText
open Go.RowKit Go.Proofs.YthmieecgojiliaaDoorW.PrintWords Go.Proofs.YthmieecgojiliaaDoorW.PrintLast Go.Proofs.YthmieecgojiliaaDoorW.PrintMore
attribute [local go_sem] max2_int min2_int max_two min_two max_three min_three max_four min_four   -- for this text's walks alone
set_option linter.unusedVariables false
set_option linter.unusedSimpArgs false

/-! ### spec_DecOk: function 14 -/
def spec_DecOk.j0 : Nat → Bool → Bool → List Int → Int → Option (Bool)
 | 0, _, _, _, _ => none
 | k + 1, x18, x136000, x136001, x136002 => if x18 = true then (some false) else (if (x136001.length : Int) = 0 then (some (x136002 == 0)) else ((spec_l2small.f k x136001 10).bind fun bt137 => (some (decide (bt137.2 > 0)))))
def spec_DecOk.f (k : Nat) (a0_0 : Bool) (l0_1 : List Int) (a0_2 : Int) : Option (Bool) := (spec_NatOk.f k l0_1).bind fun t136 => (if t136 = true then (if a0_2 < (-800) then (spec_DecOk.j0 k true a0_0 l0_1 a0_2) else (spec_DecOk.j0 k (decide (a0_2 > 800)) a0_0 l0_1 a0_2)) else (spec_DecOk.j0 k true a0_0 l0_1 a0_2))
theorem spec_DecOk.mono_l : ∀ k, (∀ y0 y1 y2 y3, LeO (spec_DecOk.j0 k y0 y1 y2 y3) (spec_DecOk.j0 (k + 1) y0 y1 y2 y3))
 | 0 => fun _ _ _ _ r h => by simp [spec_DecOk.j0] at h
 | k + 1 => by
  have ih0 := spec_DecOk.mono_l k
  ·intro y0 y1 y2 y3
   unfold spec_DecOk.j0
   repeat' first
   | (with_reducible exact ih0 _ _ _ _)
   | (with_reducible exact spec_NatOk.mono _ _)
   | (with_reducible exact spec_l2small.mono _ _ _)
   | (with_reducible exact LeO.refl _)
   | (with_reducible exact LeO.none _)
   | (with_reducible refine LeO.ite ?_ ?_)
   | (with_reducible refine LeO.bind ?_ (fun _ => ?_))
   | exact ih0 _ _ _ _
   | exact spec_NatOk.mono _ _
   | exact spec_l2small.mono _ _ _
   | exact LeO.none _
   | refine LeO.ite ?_ ?_
   | refine LeO.bind ?_ (fun _ => ?_)
theorem spec_DecOk.mono : ∀ a0 a1 a2 k, LeO (spec_DecOk.f k a0 a1 a2) (spec_DecOk.f (k + 1) a0 a1 a2) := by
 intro a0 a1 a2 k
 have ih0 := spec_DecOk.mono_l k
 unfold spec_DecOk.f
 repeat' first
   | (with_reducible exact ih0 _ _ _ _)
   | (with_reducible exact spec_NatOk.mono _ _)
   | (with_reducible exact spec_l2small.mono _ _ _)
   | (with_reducible exact LeO.refl _)
   | (with_reducible exact LeO.none _)
   | (with_reducible refine LeO.ite ?_ ?_)
   | (with_reducible refine LeO.bind ?_ (fun _ => ?_))
   | exact ih0 _ _ _ _
   | exact spec_NatOk.mono _ _
   | exact spec_l2small.mono _ _ _
   | exact LeO.none _
   | refine LeO.ite ?_ ?_
   | refine LeO.bind ?_ (fun _ => ?_)
set_option maxHeartbeats 8000000 in
set_option maxRecDepth 100000 in
theorem spec_DecOk.calls (k : Nat) (a0_0 : Bool) (A0_1 : Option Addr) (c0_1 : Nat) (l0_1 : List Int) (a0_2 : Int) (r : Bool) (w : World) (hr0_1 : Kd.C (Kd.int .i64) w A0_1 l0_1.length l0_1) (hc0_1 : l0_1.length ≤ c0_1) (h : spec_DecOk.f k a0_0 l0_1 a0_2 = some r) :
  Calls Tryd.prog 14 #[.agg #[.bool a0_0, .slice A0_1 l0_1.length c0_1, .int .i64 a0_2]] w fun e w' => e = .returned (.bool r) ∧ Below w.heap.size w w' := by
 have hu32 := Tryd.underlying32
 have hu30 := Tryd.underlying30
 have HR0_1 := Aside0.mk hr0_1
 have HC0_1 := Aside0.mk hc0_1
 clear hr0_1 hc0_1
 have HB := Aside0.mk (Below.refl w.heap.size w)
 have H : ((spec_NatOk.f k l0_1).bind fun t136 => (if t136 = true then (if a0_2 < (-800) then (spec_DecOk.j0 k true a0_0 l0_1 a0_2) else (spec_DecOk.j0 k (decide (a0_2 > 800)) a0_0 l0_1 a0_2)) else (spec_DecOk.j0 k true a0_0 l0_1 a0_2))) = some r := h
 clear h
 have HC2 := Aside0.mk H
 clear H
 go_enter Tryd.func14, Tryd.ntmps14
 go_upto_region 1 with (first | ((with_reducible refine gate_dst (N := 1) rfl ?_); refine hkBox (N := 1) (cs := #[.bool a0_0, .slice A0_1 l0_1.length c0_1, .int .i64 a0_2]) (t := 32) ?_; intro gb135 hg w3 hbox hb; have n_ := hkA (hkU HB hb) (hkA (Aside0.mk (hbox)) (hkA (hkG hg (hkS HB)) (hkG hg (hkS HB)))); clear HB; obtain ⟨HB, BK135, GW135, GE135⟩ := n_; clear hb hbox hg))
 (try simp only [Act.put, List.setIfInBounds_toArray, List.set_cons_zero, List.set_cons_succ])
 go_cut [18] (fun v18 wc => ∃ (kq : Nat) (x18_1 : Bool), v18 = .bool x18_1 ∧ Aside0 (spec_DecOk.j0 kq x18_1 a0_0 l0_1 a0_2 = some r) ∧ Aside0 (kq ≤ k) ∧ Aside0 (wc.heap[gb135]? = some (.cells #[.bool a0_0, (.slice A0_1 l0_1.length c0_1), .int .i64 a0_2] 32 (0, 0))) ∧ Aside0 (Below w.heap.size w wc))
 case first =>
  have H := HC2.out
  clear HC2
  replace H := hBi H
  obtain ⟨t136, A40, H⟩ := H
  replace H : (if t136 = true then (if a0_2 < (-800) then (spec_DecOk.j0 k true a0_0 l0_1 a0_2) else (spec_DecOk.j0 k (decide (a0_2 > 800)) a0_0 l0_1 a0_2)) else (spec_DecOk.j0 k true a0_0 l0_1 a0_2)) = some r := H
  have A4 := Aside0.mk A40
  clear A40
  by_cases c5 : t136 = true
  ·subst c5
   have H1 : (if a0_2 < (-800) then (spec_DecOk.j0 k true a0_0 l0_1 a0_2) else (spec_DecOk.j0 k (decide (a0_2 > 800)) a0_0 l0_1 a0_2)) = some r := by rw [if_pos rfl] at H; exact H
   clear H
   have H := H1
   clear H1
   by_cases c6 : a0_2 < (-800)
   ·rw [if_pos c6] at H
    have c6b0 : decide (a0_2 < (-800)) = true := decide_eq_true c6
    clear c6
    (first | rw [c6b0] | (simp only [i64_w, i32_w]; rw [c6b0]) | skip)
    have H' := Aside0.mk H
    clear H
    obtain ⟨hcz7_0, hfz7_0, hcz7_1, hfz7_1, hcz7_2, hfz7_2⟩ := hkc3 BK135
    go_wp2_with (first | ((with_reducible refine gate_callee (f := 22) rfl ?_); refine hkGo (N := some 7) Tryd.func22 #[.agg #[.slice A0_1 l0_1.length c0_1]] ?_; (with_reducible refine (spec_NatOk.calls k _ _ l0_1 true _ ?side1 ?side2 A4.out).mono ?_); (case side1 => exact hkC ((Kd.C_below HR0_1.out HB.out))); (case side2 => exact HC0_1.out); rintro e w8 ⟨rfl, hb⟩; refine ⟨_, rfl, ?_⟩; have n_ := hkA (hkBb BK135 hb) (hkU HB hb); clear BK135 HB; obtain ⟨BK135, HB⟩ := n_; (try clear hb); obtain ⟨hcz9_0, hfz9_0, hcz9_1, hfz9_1, hcz9_2, hfz9_2⟩ := hkc3 BK135))
    go_meet
    case rel => exact ⟨_, (true), (by first | rfl | (simp; done) | (simp [*]; done)), H', ⟨by first | omega | exact Nat.le_refl _⟩, ⟨by refine hkz ?_; exact BK135.out⟩, ⟨hkS HB⟩⟩
   ·rw [if_neg c6] at H
    have c6b0 : decide (a0_2 < (-800)) = false := decide_eq_false c6
    clear c6
    (first | rw [c6b0] | (simp only [i64_w, i32_w]; rw [c6b0]) | skip)
    have H' := Aside0.mk H
    clear H
    obtain ⟨hcz10_0, hfz10_0, hcz10_1, hfz10_1, hcz10_2, hfz10_2⟩ := hkc3 BK135
    go_wp2_with (first | ((with_reducible refine gate_callee (f := 22) rfl ?_); refine hkGo (N := some 7) Tryd.func22 #[.agg #[.slice A0_1 l0_1.length c0_1]] ?_; (with_reducible refine (spec_NatOk.calls k _ _ l0_1 true _ ?side1 ?side2 A4.out).mono ?_); (case side1 => exact hkC ((Kd.C_below HR0_1.out HB.out))); (case side2 => exact HC0_1.out); rintro e w11 ⟨rfl, hb⟩; refine ⟨_, rfl, ?_⟩; have n_ := hkA (hkBb BK135 hb) (hkU HB hb); clear BK135 HB; obtain ⟨BK135, HB⟩ := n_; (try clear hb); obtain ⟨hcz12_0, hfz12_0, hcz12_1, hfz12_1, hcz12_2, hfz12_2⟩ := hkc3 BK135))
    go_meet
    case rel => exact ⟨_, (decide (a0_2 > 800)), (by first | rfl | (simp; done) | (simp [*]; done)), H', ⟨by first | omega | exact Nat.le_refl _⟩, ⟨by refine hkz ?_; exact BK135.out⟩, ⟨hkS HB⟩⟩
  ·replace c5 := Bool.eq_false_iff.mpr c5
   subst c5
   have H1 : (spec_DecOk.j0 k true a0_0 l0_1 a0_2) = some r := by rw [if_neg (show ¬ (false = true) by decide)] at H; exact H
   clear H
   have H := H1
   clear H1
   have H' := Aside0.mk H
   clear H
   obtain ⟨hcz13_0, hfz13_0, hcz13_1, hfz13_1, hcz13_2, hfz13_2⟩ := hkc3 BK135
   go_wp2_with (first | ((with_reducible refine gate_callee (f := 22) rfl ?_); refine hkGo (N := some 7) Tryd.func22 #[.agg #[.slice A0_1 l0_1.length c0_1]] ?_; (with_reducible refine (spec_NatOk.calls k _ _ l0_1 false _ ?side1 ?side2 A4.out).mono ?_); (case side1 => exact hkC ((Kd.C_below HR0_1.out HB.out))); (case side2 => exact HC0_1.out); rintro e w14 ⟨rfl, hb⟩; refine ⟨_, rfl, ?_⟩; have n_ := hkA (hkBb BK135 hb) (hkU HB hb); clear BK135 HB; obtain ⟨BK135, HB⟩ := n_; (try clear hb)))
   go_meet
   case rel => exact ⟨_, (true), (by first | rfl | (simp; done) | (simp [*]; done)), H', ⟨by first | omega | exact Nat.le_refl _⟩, ⟨by refine hkz ?_; exact BK135.out⟩, ⟨hkS HB⟩⟩
 case rest =>
  clear HC2
  try clear c1
  try clear c2
  try clear p2
  try clear c5
  try clear c6
  try clear c6b0
  try clear c14
  try clear hcz10_0 hcz10_1 hcz10_2 hcz12_0 hcz12_1 hcz12_2 hcz13_0 hcz13_1 hcz13_2 hcz7_0 hcz7_1 hcz7_2 hcz9_0 hcz9_1 hcz9_2 hfz10_0 hfz10_1 hfz10_2 hfz12_0 hfz12_1 hfz12_2 hfz13_0 hfz13_1 hfz13_2 hfz7_0 hfz7_1 hfz7_2 hfz9_0 hfz9_1 hfz9_2
  obtain ⟨kq, x18_1, rfl, HA, HJ1, BK135, HB⟩ := hcut
  cases kq with
  | zero => exact absurd HA.out (by simp [spec_DecOk.j0])
  | succ kj1 =>
   have H := HA.out
   clear HA
   simp only [spec_DecOk.j0] at H
   by_cases c15 : x18_1 = true
   ·subst c15
    have H1 : (some false) = some r := by rw [if_pos rfl] at H; exact H
    clear H
    have H := H1
    clear H1
    obtain rfl := Option.some.inj H
    go_wp2
    go_ret
    exact ⟨hkE, hkS HB⟩
   ·replace c15 := Bool.eq_false_iff.mpr c15
    subst c15
    have H1 : (if (l0_1.length : Int) = 0 then (some (a0_2 == 0)) else ((spec_l2small.f kj1 l0_1 10).bind fun bt137 => (some (decide (bt137.2 > 0))))) = some r := by rw [if_neg (show ¬ (false = true) by decide)] at H; exact H
    clear H
    have H := H1
    clear H1
    by_cases c16 : (l0_1.length : Int) = 0
    ·rw [if_pos c16] at H
     have c16b0 : ((l0_1.length : Int) == 0) = true := beq_iff_eq.mpr c16
     have c16b1 : ((l0_1.length : Int) != 0) = false := bne_eq_false_iff_eq.mpr c16
     clear c16
     obtain rfl := Option.some.inj H
     obtain ⟨hcz17_0, hfz17_0, hcz17_1, hfz17_1, hcz17_2, hfz17_2⟩ := hkc3 BK135
     go_wp2
     go_ret
     exact ⟨hkE, hkS HB⟩
    ·rw [if_neg c16] at H
     have c16b0 : ((l0_1.length : Int) == 0) = false := beq_eq_false_iff_ne.mpr c16
     have c16b1 : ((l0_1.length : Int) != 0) = true := bne_iff_ne.mpr c16
     have c16b2 : ¬ (l0_1 = []) := fun h_ => c16 (by rw [h_]; rfl)
     replace H := hBi H
     obtain ⟨⟨t137, t140⟩, A180, H⟩ := H
     replace H : (some (decide (t140 > 0))) = some r := H
     have A18 := Aside0.mk A180
     clear A180
     obtain rfl := Option.some.inj H
     obtain ⟨hcz19_0, hfz19_0, hcz19_1, hfz19_1, hcz19_2, hfz19_2⟩ := hkc3 BK135
     go_wp2_with (first | ((with_reducible refine gate_callee (f := 23) rfl ?_); refine hkGo (N := some 30) Tryd.func23 #[.agg #[.slice A0_1 l0_1.length c0_1], .int .i64 10] ?_; (with_reducible refine (spec_l2small.calls kj1 _ _ l0_1 10 t137 t140 _ ?side1 ?side2 A18.out).mono ?_); (case side1 => exact hkC ((Kd.C_below HR0_1.out HB.out))); (case side2 => exact HC0_1.out); rintro e w20 ⟨v138, rfl, ho0, hb⟩; refine ⟨_, rfl, ?_⟩; have n_ := hkA (Aside0.mk (Kd.R_lower ho0 (below_size (hkS HB)))) (hkA (hkBb BK135 hb) (hkU HB hb)); clear BK135 HB; obtain ⟨HO139, BK135, HB⟩ := n_; (try clear hb); (try clear ho0)) | ((with_reducible refine gate_dst (N := 3) rfl ?_); refine hkBox (N := 3) (cs := #[.slice none 0 0]) (t := 30) ?_; intro gb141 hg w21 hbox hb; have n_ := hkA (hkRb HO139 hb) (hkA (hkBb BK135 hb) (hkA (hkU HB hb) (hkA (Aside0.mk (hbox)) (hkA (hkG hg (hkS HB)) (hkA (hkG hg (hkS HB)) (hkA (hkN hg BK135) (hkM hg BK135))))))); clear HO139 BK135 HB; obtain ⟨HO139, BK135, HB, BK141, GW141, GE141, NB135_141, NB141_135⟩ := n_; clear hb hbox hg; obtain ⟨Ao22, co22, eo22⟩ := Kd.R_slice HO139.out; subst eo22; have hnb23 := NB141_135.out; have hnc23 := NB135_141.out; obtain ⟨hcz24_0, hfz24_0⟩ := hkc1 BK141))
     go_ret
     exact ⟨hkE, hkS HB⟩

end Go.Proofs.YthmieecgojiliaaDoor.PFnExactDecText
