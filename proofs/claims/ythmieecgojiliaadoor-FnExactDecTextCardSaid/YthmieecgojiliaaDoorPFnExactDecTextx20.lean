-- Written by our own driver (wip/hand/hprint.py) over the seat's translation.
import Derived.Test.YthmieecgojiliaaDoorPFnExactDecTextx0
import Derived.Test.YthmieecgojiliaaDoorPFnExactDecTextx1
import Derived.Test.YthmieecgojiliaaDoorPFnExactDecTextx9
import Derived.Test.YthmieecgojiliaaDoorPFnExactDecTextx17
import Derived.Test.YthmieecgojiliaaDoorPFnExactDecTextx18
import Derived.Test.YthmieecgojiliaaDoorPFnExactDecTextx19
namespace Go.Proofs.YthmieecgojiliaaDoor.PFnExactDecText
open Go.RowKit Go.Proofs.YthmieecgojiliaaDoorW.PrintWords Go.Proofs.YthmieecgojiliaaDoorW.PrintLast Go.Proofs.YthmieecgojiliaaDoorW.PrintMore
attribute [local go_sem] max2_int min2_int max_two min_two max_three min_three max_four min_four   -- for this text's walks alone
set_option linter.unusedVariables false
set_option linter.unusedSimpArgs false

/-! ### laws_FnExactDecText: function 3 -/
def laws_FnExactDecText.j0 : Nat → List Int → List Int → Bool → Bool → List Int → Int → Option (Bool)
 | 0, _, _, _, _, _, _ => none
 | k + 1, x4, x6, x42, x508000, x508001, x508002 => if x42 = true then (some false) else ((laws_markByteS.f k x6 1).bind fun bt536 => ((laws_heldByteS.f k bt536.2 1).bind fun t538 => (if t538 < 0 then (some false) else (if t538 = bt536.1 then ((laws_toDec.f k x508000 x508001 x508002).bind fun bt539 => ((impl_DecText.f k bt539.1 bt539.2.1 bt539.2.2).bind fun t544 => ((laws_eqByteS.f k t544 x4).bind fun t547 => (if t547 = true then ((laws_heldByteS.f k bt536.2 1).bind fun t548 => (if t548 < 0 then (some false) else (if t548 = bt536.1 then (some true) else (some false)))) else (some false))))) else (some false)))))
def laws_FnExactDecText.f (k : Nat) (a0_0 : Bool) (l0_1 : List Int) (a0_2 : Int) : Option (Bool) := (laws_szDec.f a0_0 l0_1 a0_2 1048576).bind fun t508 => (if t508 < 0 then (some true) else ((laws_toDec.f k a0_0 l0_1 a0_2).bind fun bt509 => ((spec_DecText.f k bt509.1 bt509.2.1 bt509.2.2).bind fun t514 => ((laws_toDec.f k a0_0 l0_1 a0_2).bind fun bt517 => ((impl_DecText.f k bt517.1 bt517.2.1 bt517.2.2).bind fun t523 => ((laws_eqByteS.f k t523 t514).bind fun t526 => (if t526 = true then ((laws_toDec.f k a0_0 l0_1 a0_2).bind fun bt527 => ((laws_eqDec.f k bt517.1 bt517.2.1 bt517.2.2 bt527.1 bt527.2.1 bt527.2.2).bind fun t532 => (if t532 = true then ((laws_markDec.f k bt517.1 bt517.2.1 bt517.2.2 1).bind fun bt533 => (if bt533.1 < 0 then (laws_FnExactDecText.j0 k t514 t523 true a0_0 l0_1 a0_2) else ((laws_eqByteS.f k t523 t514).bind fun t535 => (laws_FnExactDecText.j0 k t514 t523 (!t535) a0_0 l0_1 a0_2)))) else (some false)))) else (some false))))))))
theorem laws_FnExactDecText.mono_l : ∀ k, (∀ y0 y1 y2 y3 y4 y5, LeO (laws_FnExactDecText.j0 k y0 y1 y2 y3 y4 y5) (laws_FnExactDecText.j0 (k + 1) y0 y1 y2 y3 y4 y5))
 | 0 => fun _ _ _ _ _ _ r h => by simp [laws_FnExactDecText.j0] at h
 | k + 1 => by
  have ih0 := laws_FnExactDecText.mono_l k
  ·intro y0 y1 y2 y3 y4 y5
   unfold laws_FnExactDecText.j0
   repeat' first
   | (with_reducible exact ih0 _ _ _ _ _ _)
   | (with_reducible exact impl_DecText.mono _ _ _ _)
   | (with_reducible exact laws_eqByteS.mono _ _ _)
   | (with_reducible exact laws_eqDec.mono _ _ _ _ _ _ _)
   | (with_reducible exact laws_heldByteS.mono _ _ _)
   | (with_reducible exact laws_markByteS.mono _ _ _)
   | (with_reducible exact laws_markDec.mono _ _ _ _ _)
   | (with_reducible exact laws_toDec.mono _ _ _ _)
   | (with_reducible exact spec_DecText.mono _ _ _ _)
   | (with_reducible exact LeO.refl _)
   | (with_reducible exact LeO.none _)
   | (with_reducible refine LeO.ite ?_ ?_)
   | (with_reducible refine LeO.bind ?_ (fun _ => ?_))
   | exact ih0 _ _ _ _ _ _
   | exact impl_DecText.mono _ _ _ _
   | exact laws_eqByteS.mono _ _ _
   | exact laws_eqDec.mono _ _ _ _ _ _ _
   | exact laws_heldByteS.mono _ _ _
   | exact laws_markByteS.mono _ _ _
   | exact laws_markDec.mono _ _ _ _ _
   | exact laws_toDec.mono _ _ _ _
   | exact spec_DecText.mono _ _ _ _
   | exact LeO.none _
   | refine LeO.ite ?_ ?_
   | refine LeO.bind ?_ (fun _ => ?_)
theorem laws_FnExactDecText.mono : ∀ a0 a1 a2 k, LeO (laws_FnExactDecText.f k a0 a1 a2) (laws_FnExactDecText.f (k + 1) a0 a1 a2) := by
 intro a0 a1 a2 k
 have ih0 := laws_FnExactDecText.mono_l k
 unfold laws_FnExactDecText.f
 repeat' first
   | (with_reducible exact ih0 _ _ _ _ _ _)
   | (with_reducible exact impl_DecText.mono _ _ _ _)
   | (with_reducible exact laws_eqByteS.mono _ _ _)
   | (with_reducible exact laws_eqDec.mono _ _ _ _ _ _ _)
   | (with_reducible exact laws_heldByteS.mono _ _ _)
   | (with_reducible exact laws_markByteS.mono _ _ _)
   | (with_reducible exact laws_markDec.mono _ _ _ _ _)
   | (with_reducible exact laws_toDec.mono _ _ _ _)
   | (with_reducible exact spec_DecText.mono _ _ _ _)
   | (with_reducible exact LeO.refl _)
   | (with_reducible exact LeO.none _)
   | (with_reducible refine LeO.ite ?_ ?_)
   | (with_reducible refine LeO.bind ?_ (fun _ => ?_))
   | exact ih0 _ _ _ _ _ _
   | exact impl_DecText.mono _ _ _ _
   | exact laws_eqByteS.mono _ _ _
   | exact laws_eqDec.mono _ _ _ _ _ _ _
   | exact laws_heldByteS.mono _ _ _
   | exact laws_markByteS.mono _ _ _
   | exact laws_markDec.mono _ _ _ _ _
   | exact laws_toDec.mono _ _ _ _
   | exact spec_DecText.mono _ _ _ _
   | exact LeO.none _
   | refine LeO.ite ?_ ?_
   | refine LeO.bind ?_ (fun _ => ?_)
set_option maxHeartbeats 8000000 in
set_option maxRecDepth 100000 in
theorem laws_FnExactDecText.calls (k : Nat) (a0_0 : Bool) (A0_1 : Option Addr) (c0_1 : Nat) (l0_1 : List Int) (a0_2 : Int) (w : World) (hr0_1 : Kd.C (Kd.int .i64) w A0_1 l0_1.length l0_1) (hc0_1 : l0_1.length ≤ c0_1) (h : laws_FnExactDecText.f k a0_0 l0_1 a0_2 = some true) (hT : hTab w := by exact hTab_use (by assumption)) :
  Calls Tryd.prog 3 #[.agg #[.bool a0_0, .slice A0_1 l0_1.length c0_1, .int .i64 a0_2]] w fun e w' => e = .returned (.bool true) ∧ Below w.heap.size w w' := by
 have HT0 := Aside0.mk hT
 clear hT
 have hu26 := Tryd.underlying26
 have hu32 := Tryd.underlying32
 have HR0_1 := Aside0.mk hr0_1
 have HC0_1 := Aside0.mk hc0_1
 clear hr0_1 hc0_1
 have HB := Aside0.mk (Below.refl w.heap.size w)
 have H : ((laws_szDec.f a0_0 l0_1 a0_2 1048576).bind fun t508 => (if t508 < 0 then (some true) else ((laws_toDec.f k a0_0 l0_1 a0_2).bind fun bt509 => ((spec_DecText.f k bt509.1 bt509.2.1 bt509.2.2).bind fun t514 => ((laws_toDec.f k a0_0 l0_1 a0_2).bind fun bt517 => ((impl_DecText.f k bt517.1 bt517.2.1 bt517.2.2).bind fun t523 => ((laws_eqByteS.f k t523 t514).bind fun t526 => (if t526 = true then ((laws_toDec.f k a0_0 l0_1 a0_2).bind fun bt527 => ((laws_eqDec.f k bt517.1 bt517.2.1 bt517.2.2 bt527.1 bt527.2.1 bt527.2.2).bind fun t532 => (if t532 = true then ((laws_markDec.f k bt517.1 bt517.2.1 bt517.2.2 1).bind fun bt533 => (if bt533.1 < 0 then (laws_FnExactDecText.j0 k t514 t523 true a0_0 l0_1 a0_2) else ((laws_eqByteS.f k t523 t514).bind fun t535 => (laws_FnExactDecText.j0 k t514 t523 (!t535) a0_0 l0_1 a0_2)))) else (some false)))) else (some false))))))))) = some true := h
 clear h
 replace H := hBi H
 obtain ⟨t508, A20, H⟩ := H
 replace H : (if t508 < 0 then (some true) else ((laws_toDec.f k a0_0 l0_1 a0_2).bind fun bt509 => ((spec_DecText.f k bt509.1 bt509.2.1 bt509.2.2).bind fun t514 => ((laws_toDec.f k a0_0 l0_1 a0_2).bind fun bt517 => ((impl_DecText.f k bt517.1 bt517.2.1 bt517.2.2).bind fun t523 => ((laws_eqByteS.f k t523 t514).bind fun t526 => (if t526 = true then ((laws_toDec.f k a0_0 l0_1 a0_2).bind fun bt527 => ((laws_eqDec.f k bt517.1 bt517.2.1 bt517.2.2 bt527.1 bt527.2.1 bt527.2.2).bind fun t532 => (if t532 = true then ((laws_markDec.f k bt517.1 bt517.2.1 bt517.2.2 1).bind fun bt533 => (if bt533.1 < 0 then (laws_FnExactDecText.j0 k t514 t523 true a0_0 l0_1 a0_2) else ((laws_eqByteS.f k t523 t514).bind fun t535 => (laws_FnExactDecText.j0 k t514 t523 (!t535) a0_0 l0_1 a0_2)))) else (some false)))) else (some false)))))))) = some true := H
 have A2 := Aside0.mk A20
 clear A20
 by_cases c3 : t508 < 0
 ·rw [if_pos c3] at H
  have c3b0 : decide (t508 < 0) = true := decide_eq_true c3
  clear c3
  clear H
  go_enter Tryd.func3, Tryd.ntmps3
  go_wp2_with (first | ((with_reducible refine gate_dst (N := 1) rfl ?_); refine hkBox (N := 1) (cs := #[.bool a0_0, .slice A0_1 l0_1.length c0_1, .int .i64 a0_2]) (t := 26) ?_; intro gb507 hg w4 hbox hb; have n_ := hkA (hkU HB hb) (hkA (Aside0.mk (hbox)) (hkA (hkG hg (hkS HB)) (hkG hg (hkS HB)))); clear HB; obtain ⟨HB, BK507, GW507, GE507⟩ := n_; clear hb hbox hg; obtain ⟨hcz5_0, hfz5_0, hcz5_1, hfz5_1, hcz5_2, hfz5_2⟩ := hkc3 BK507) | ((with_reducible refine gate_callee (f := 4) rfl ?_); refine hkGo (N := some 13) Tryd.func4 #[.agg #[.bool a0_0, .slice A0_1 l0_1.length c0_1, .int .i64 a0_2], .int .i64 1048576] ?_; (with_reducible refine (laws_szDec.calls a0_0 _ _ l0_1 a0_2 1048576 t508 _ ?side1 ?side2 A2.out).mono ?_); (case side1 => exact hkC ((Kd.C_below HR0_1.out HB.out))); (case side2 => exact HC0_1.out); rintro e w6 ⟨rfl, hb⟩; refine ⟨_, rfl, ?_⟩; have n_ := hkA (hkBb BK507 hb) (hkU HB hb); clear BK507 HB; obtain ⟨BK507, HB⟩ := n_; (try clear hb)))
  go_ret
  exact ⟨hkE, hkS HB⟩
 ·rw [if_neg c3] at H
  have c3b0 : decide (t508 < 0) = false := decide_eq_false c3
  clear c3
  replace H := hBi H
  obtain ⟨⟨t509, t510, t513⟩, A70, H⟩ := H
  replace H : ((spec_DecText.f k t509 t510 t513).bind fun t514 => ((laws_toDec.f k a0_0 l0_1 a0_2).bind fun bt517 => ((impl_DecText.f k bt517.1 bt517.2.1 bt517.2.2).bind fun t523 => ((laws_eqByteS.f k t523 t514).bind fun t526 => (if t526 = true then ((laws_toDec.f k a0_0 l0_1 a0_2).bind fun bt527 => ((laws_eqDec.f k bt517.1 bt517.2.1 bt517.2.2 bt527.1 bt527.2.1 bt527.2.2).bind fun t532 => (if t532 = true then ((laws_markDec.f k bt517.1 bt517.2.1 bt517.2.2 1).bind fun bt533 => (if bt533.1 < 0 then (laws_FnExactDecText.j0 k t514 t523 true a0_0 l0_1 a0_2) else ((laws_eqByteS.f k t523 t514).bind fun t535 => (laws_FnExactDecText.j0 k t514 t523 (!t535) a0_0 l0_1 a0_2)))) else (some false)))) else (some false)))))) = some true := H
  have A7 := Aside0.mk A70
  clear A70
  replace H := hBi H
  obtain ⟨t514, A80, H⟩ := H
  replace H : ((laws_toDec.f k a0_0 l0_1 a0_2).bind fun bt517 => ((impl_DecText.f k bt517.1 bt517.2.1 bt517.2.2).bind fun t523 => ((laws_eqByteS.f k t523 t514).bind fun t526 => (if t526 = true then ((laws_toDec.f k a0_0 l0_1 a0_2).bind fun bt527 => ((laws_eqDec.f k bt517.1 bt517.2.1 bt517.2.2 bt527.1 bt527.2.1 bt527.2.2).bind fun t532 => (if t532 = true then ((laws_markDec.f k bt517.1 bt517.2.1 bt517.2.2 1).bind fun bt533 => (if bt533.1 < 0 then (laws_FnExactDecText.j0 k t514 t523 true a0_0 l0_1 a0_2) else ((laws_eqByteS.f k t523 t514).bind fun t535 => (laws_FnExactDecText.j0 k t514 t523 (!t535) a0_0 l0_1 a0_2)))) else (some false)))) else (some false))))) = some true := H
  have A8 := Aside0.mk A80
  clear A80
  replace H := hBi H
  obtain ⟨⟨t517, t518, t521⟩, A90, H⟩ := H
  replace H : ((impl_DecText.f k t517 t518 t521).bind fun t523 => ((laws_eqByteS.f k t523 t514).bind fun t526 => (if t526 = true then ((laws_toDec.f k a0_0 l0_1 a0_2).bind fun bt527 => ((laws_eqDec.f k t517 t518 t521 bt527.1 bt527.2.1 bt527.2.2).bind fun t532 => (if t532 = true then ((laws_markDec.f k t517 t518 t521 1).bind fun bt533 => (if bt533.1 < 0 then (laws_FnExactDecText.j0 k t514 t523 true a0_0 l0_1 a0_2) else ((laws_eqByteS.f k t523 t514).bind fun t535 => (laws_FnExactDecText.j0 k t514 t523 (!t535) a0_0 l0_1 a0_2)))) else (some false)))) else (some false)))) = some true := H
  have A9 := Aside0.mk A90
  clear A90
  replace H := hBi H
  obtain ⟨t523, A100, H⟩ := H
  replace H : ((laws_eqByteS.f k t523 t514).bind fun t526 => (if t526 = true then ((laws_toDec.f k a0_0 l0_1 a0_2).bind fun bt527 => ((laws_eqDec.f k t517 t518 t521 bt527.1 bt527.2.1 bt527.2.2).bind fun t532 => (if t532 = true then ((laws_markDec.f k t517 t518 t521 1).bind fun bt533 => (if bt533.1 < 0 then (laws_FnExactDecText.j0 k t514 t523 true a0_0 l0_1 a0_2) else ((laws_eqByteS.f k t523 t514).bind fun t535 => (laws_FnExactDecText.j0 k t514 t523 (!t535) a0_0 l0_1 a0_2)))) else (some false)))) else (some false))) = some true := H
  have A10 := Aside0.mk A100
  clear A100
  replace H := hBi H
  obtain ⟨t526, A110, H⟩ := H
  replace H : (if t526 = true then ((laws_toDec.f k a0_0 l0_1 a0_2).bind fun bt527 => ((laws_eqDec.f k t517 t518 t521 bt527.1 bt527.2.1 bt527.2.2).bind fun t532 => (if t532 = true then ((laws_markDec.f k t517 t518 t521 1).bind fun bt533 => (if bt533.1 < 0 then (laws_FnExactDecText.j0 k t514 t523 true a0_0 l0_1 a0_2) else ((laws_eqByteS.f k t523 t514).bind fun t535 => (laws_FnExactDecText.j0 k t514 t523 (!t535) a0_0 l0_1 a0_2)))) else (some false)))) else (some false)) = some true := H
  have A11 := Aside0.mk A110
  clear A110
  by_cases c12 : t526 = true
  ·subst c12
   have H1 : ((laws_toDec.f k a0_0 l0_1 a0_2).bind fun bt527 => ((laws_eqDec.f k t517 t518 t521 bt527.1 bt527.2.1 bt527.2.2).bind fun t532 => (if t532 = true then ((laws_markDec.f k t517 t518 t521 1).bind fun bt533 => (if bt533.1 < 0 then (laws_FnExactDecText.j0 k t514 t523 true a0_0 l0_1 a0_2) else ((laws_eqByteS.f k t523 t514).bind fun t535 => (laws_FnExactDecText.j0 k t514 t523 (!t535) a0_0 l0_1 a0_2)))) else (some false)))) = some true := by rw [if_pos rfl] at H; exact H
   clear H
   have H := H1
   clear H1
   replace H := hBi H
   obtain ⟨⟨t527, t528, t531⟩, A130, H⟩ := H
   replace H : ((laws_eqDec.f k t517 t518 t521 t527 t528 t531).bind fun t532 => (if t532 = true then ((laws_markDec.f k t517 t518 t521 1).bind fun bt533 => (if bt533.1 < 0 then (laws_FnExactDecText.j0 k t514 t523 true a0_0 l0_1 a0_2) else ((laws_eqByteS.f k t523 t514).bind fun t535 => (laws_FnExactDecText.j0 k t514 t523 (!t535) a0_0 l0_1 a0_2)))) else (some false))) = some true := H
   have A13 := Aside0.mk A130
   clear A130
   replace H := hBi H
   obtain ⟨t532, A140, H⟩ := H
   replace H : (if t532 = true then ((laws_markDec.f k t517 t518 t521 1).bind fun bt533 => (if bt533.1 < 0 then (laws_FnExactDecText.j0 k t514 t523 true a0_0 l0_1 a0_2) else ((laws_eqByteS.f k t523 t514).bind fun t535 => (laws_FnExactDecText.j0 k t514 t523 (!t535) a0_0 l0_1 a0_2)))) else (some false)) = some true := H
   have A14 := Aside0.mk A140
   clear A140
   by_cases c15 : t532 = true
   ·subst c15
    have H1 : ((laws_markDec.f k t517 t518 t521 1).bind fun bt533 => (if bt533.1 < 0 then (laws_FnExactDecText.j0 k t514 t523 true a0_0 l0_1 a0_2) else ((laws_eqByteS.f k t523 t514).bind fun t535 => (laws_FnExactDecText.j0 k t514 t523 (!t535) a0_0 l0_1 a0_2)))) = some true := by rw [if_pos rfl] at H; exact H
    clear H
    have H := H1
    clear H1
    replace H := hBi H
    obtain ⟨⟨t533, t534⟩, A160, H⟩ := H
    replace H : (if t533 < 0 then (laws_FnExactDecText.j0 k t514 t523 true a0_0 l0_1 a0_2) else ((laws_eqByteS.f k t523 t514).bind fun t535 => (laws_FnExactDecText.j0 k t514 t523 (!t535) a0_0 l0_1 a0_2))) = some true := H
    have A16 := Aside0.mk A160
    clear A160
    have HC17 := Aside0.mk H
    clear H
    go_enter Tryd.func3, Tryd.ntmps3
    try go_wp2_with (first | ((with_reducible refine gate_dst (N := 1) rfl ?_); refine hkBox (N := 1) (cs := #[.bool a0_0, .slice A0_1 l0_1.length c0_1, .int .i64 a0_2]) (t := 26) ?_; intro gb507 hg w18 hbox hb; have n_ := hkA (hkU HB hb) (hkA (Aside0.mk (hbox)) (hkA (hkG hg (hkS HB)) (hkG hg (hkS HB)))); clear HB; obtain ⟨HB, BK507, GW507, GE507⟩ := n_; clear hb hbox hg; obtain ⟨hcz19_0, hfz19_0, hcz19_1, hfz19_1, hcz19_2, hfz19_2⟩ := hkc3 BK507) | ((with_reducible refine gate_callee (f := 4) rfl ?_); refine hkGo (N := some 13) Tryd.func4 #[.agg #[.bool a0_0, .slice A0_1 l0_1.length c0_1, .int .i64 a0_2], .int .i64 1048576] ?_; (with_reducible refine (laws_szDec.calls a0_0 _ _ l0_1 a0_2 1048576 t508 _ ?side1 ?side2 A2.out).mono ?_); (case side1 => exact hkC ((Kd.C_below HR0_1.out HB.out))); (case side2 => exact HC0_1.out); rintro e w20 ⟨rfl, hb⟩; refine ⟨_, rfl, ?_⟩; have n_ := hkA (hkBb BK507 hb) (hkU HB hb); clear BK507 HB; obtain ⟨BK507, HB⟩ := n_; (try clear hb); (try clear hk); obtain ⟨hcz21_0, hfz21_0, hcz21_1, hfz21_1, hcz21_2, hfz21_2⟩ := hkc3 BK507) | ((with_reducible refine gate_callee (f := 6) rfl ?_); refine hkGo (N := some 17) Tryd.func6 #[.agg #[.bool a0_0, .slice A0_1 l0_1.length c0_1, .int .i64 a0_2]] ?_; (with_reducible refine (laws_toDec.calls k a0_0 _ _ l0_1 a0_2 t509 t510 t513 _ ?side1 ?side2 A7.out).mono ?_); (case side1 => exact hkC ((Kd.C_below HR0_1.out HB.out))); (case side2 => exact HC0_1.out); rintro e w22 ⟨v511, rfl, ho0, hb⟩; refine ⟨_, rfl, ?_⟩; have n_ := hkA (Aside0.mk (Kd.R_lower ho0 (below_size (hkS HB)))) (hkA (hkBb BK507 hb) (hkU HB hb)); clear BK507 HB; obtain ⟨HO512, BK507, HB⟩ := n_; (try clear hb); (try clear hk); (try clear ho0); obtain ⟨Ao23, co23, eo23⟩ := Kd.R_slice HO512.out; subst eo23) | ((with_reducible refine gate_callee (f := 5) rfl ?_); refine hkGo (N := some 18) Tryd.func5 #[.agg #[.bool t509, .slice Ao23 t510.length co23, .int .i64 t513]] ?_; (with_reducible refine (spec_DecText.calls k t509 _ _ t510 t513 t514 _ ?side1 ?side2 A8.out).mono ?_); (case side1 => exact hkC ((Kd.R_reads' HO512.out).2.2)); (case side2 => exact (Kd.R_reads' HO512.out).2.1); rintro e w24 ⟨v515, rfl, ho0, hb⟩; refine ⟨_, rfl, ?_⟩; have n_ := hkA (hkRb HO512 hb) (hkA (Aside0.mk (Kd.R_lower ho0 (below_size (hkS HB)))) (hkA (hkBb BK507 hb) (hkU HB hb))); clear HO512 BK507 HB; obtain ⟨HO512, HO516, BK507, HB⟩ := n_; (try clear hb); (try clear hk); (try clear ho0); obtain ⟨hcz25_0, hfz25_0, hcz25_1, hfz25_1, hcz25_2, hfz25_2⟩ := hkc3 BK507) | ((with_reducible refine gate_callee (f := 6) rfl ?_); refine hkGo (N := some 20) Tryd.func6 #[.agg #[.bool a0_0, .slice A0_1 l0_1.length c0_1, .int .i64 a0_2]] ?_; (with_reducible refine (laws_toDec.calls k a0_0 _ _ l0_1 a0_2 t517 t518 t521 _ ?side1 ?side2 A9.out).mono ?_); (case side1 => exact hkC ((Kd.C_below HR0_1.out HB.out))); (case side2 => exact HC0_1.out); rintro e w26 ⟨v519, rfl, ho0, hb⟩; refine ⟨_, rfl, ?_⟩; have n_ := hkA (Aside0.mk (Kd.R_elder' (hkR HO512) (Kd.R_base ho0) hb)) (hkA (hkRb HO516 hb) (hkA (Aside0.mk (Kd.R_lower (Kd.R_new' ho0 (Kd.R_lt (hkR HO512))) (below_size (hkS HB)))) (hkA (hkBb BK507 hb) (hkU HB hb)))); clear HO512 HO516 BK507 HB; obtain ⟨HO512, HO516, HO520, BK507, HB⟩ := n_; (try clear hb); (try clear hk); (try clear ho0)) | ((with_reducible refine gate_dst (N := 5) rfl ?_); refine hkBox (N := 5) (cs := #[.bool false, .slice none 0 0, .int .i64 0]) (t := 32) ?_; intro gb522 hg w27 hbox hb; have n_ := hkA (hkRb HO512 hb) (hkA (hkRb HO516 hb) (hkA (hkRb HO520 hb) (hkA (hkBb BK507 hb) (hkA (hkU HB hb) (hkA (Aside0.mk (hbox)) (hkA (hkG hg (hkS HB)) (hkA (hkG hg (hkS HB)) (hkA (hkN hg BK507) (hkM hg BK507))))))))); clear HO512 HO516 HO520 BK507 HB; obtain ⟨HO512, HO516, HO520, BK507, HB, BK522, GW522, GE522, NB507_522, NB522_507⟩ := n_; clear hb hbox hg; have hnb28 := NB522_507.out; have hnc28 := NB507_522.out; obtain ⟨hcz29_0, hfz29_0, hcz29_1, hfz29_1, hcz29_2, hfz29_2⟩ := hkc3 BK522; obtain ⟨Ao30, co30, eo30⟩ := Kd.R_slice HO520.out; subst eo30) | ((with_reducible refine gate_callee (f := 7) rfl ?_); refine hkGo (N := some 22) Tryd.func7 #[.agg #[.bool t517, .slice Ao30 t518.length co30, .int .i64 t521]] ?_; (with_reducible refine (impl_DecText.calls k t517 _ _ t518 t521 t523 _ ?side1 ?side2 A10.out).mono ?_); (case side1 => refine (Kd.R_reads' (e := 3) (base := w.heap.size) (ok := fun k_ => (True ∧ some k_ ≠ (.slice Ao23 t510.length co23 : Value).ownBlock)) (n := t518.length) (c := co30) ?_).2.2; exact (by (with_reducible repeat (first | apply Kd.R_alloc | apply Kd.R_drewN | apply Kd.R_drew)); exact (Kd.R_mono (Kd.R_far (p := ⟨gb522, 2, none⟩) (Kd.R_far (p := ⟨gb522, 1, none⟩) (Kd.R_far (p := ⟨gb522, 0, none⟩) (Kd.R_types HO520.out BK522.out (by decide)) (fun _ hk => hk.2) (.bool t517)) (fun _ hk => hk.2) (.slice Ao30 t518.length co30)) (fun _ hk => hk.2) (.int .i64 t521)) (fun _ h_ => h_.1)))); (case side2 => exact (Kd.R_reads' HO520.out).2.1); rintro e w31 ⟨v524, rfl, ho0, hb⟩; refine ⟨_, rfl, ?_⟩; have n_ := hkA (Aside0.mk (Kd.R_below (by (with_reducible repeat (first | apply Kd.R_alloc | apply Kd.R_drewN | apply Kd.R_drew)); exact (Kd.R_mono (Kd.R_far (p := ⟨gb522, 2, none⟩) (Kd.R_far (p := ⟨gb522, 1, none⟩) (Kd.R_far (p := ⟨gb522, 0, none⟩) (Kd.R_types HO512.out BK522.out (by decide)) (fun _ hk => hk.2) (.bool t517)) (fun _ hk => hk.2) (.slice Ao30 t518.length co30)) (fun _ hk => hk.2) (.int .i64 t521)) (fun _ h_ => h_.1))) hb)) (hkA (Aside0.mk (Kd.R_elder' (by (with_reducible repeat (first | apply Kd.R_alloc | apply Kd.R_drewN | apply Kd.R_drew)); exact (Kd.R_mono (Kd.R_far (p := ⟨gb522, 2, none⟩) (Kd.R_far (p := ⟨gb522, 1, none⟩) (Kd.R_far (p := ⟨gb522, 0, none⟩) (Kd.R_types HO516.out BK522.out (by decide)) (fun _ hk => hk.2) (.bool t517)) (fun _ hk => hk.2) (.slice Ao30 t518.length co30)) (fun _ hk => hk.2) (.int .i64 t521)) (fun _ h_ => h_.1))) (Kd.R_base ho0) hb)) (hkA (Aside0.mk (Kd.R_below (by (with_reducible repeat (first | apply Kd.R_alloc | apply Kd.R_drewN | apply Kd.R_drew)); exact (Kd.R_mono (Kd.R_far (p := ⟨gb522, 2, none⟩) (Kd.R_far (p := ⟨gb522, 1, none⟩) (Kd.R_far (p := ⟨gb522, 0, none⟩) (Kd.R_types HO520.out BK522.out (by decide)) (fun _ hk => hk.2) (.bool t517)) (fun _ hk => hk.2) (.slice Ao30 t518.length co30)) (fun _ hk => hk.2) (.int .i64 t521)) (fun _ h_ => h_.1))) hb)) (hkA (Aside0.mk (Kd.R_lower (Kd.R_new' ho0 (Kd.R_lt (by (with_reducible repeat (first | apply Kd.R_alloc | apply Kd.R_drewN | apply Kd.R_drew)); exact (Kd.R_mono (Kd.R_far (p := ⟨gb522, 2, none⟩) (Kd.R_far (p := ⟨gb522, 1, none⟩) (Kd.R_far (p := ⟨gb522, 0, none⟩) (Kd.R_types HO516.out BK522.out (by decide)) (fun _ hk => hk.2) (.bool t517)) (fun _ hk => hk.2) (.slice Ao30 t518.length co30)) (fun _ hk => hk.2) (.int .i64 t521)) (fun _ h_ => h_.1))))) (below_size (hkS HB)))) (hkA (Aside0.mk (blk_below (g := gb507) (o := .cells #[.bool a0_0, .slice A0_1 l0_1.length c0_1, .int .i64 a0_2] 26 (0, 0)) hkPp hb)) (hkA (Aside0.mk (blk_below (g := gb522) (o := .cells #[.bool t517, .slice Ao30 t518.length co30, .int .i64 t521] 32 (0, 0)) hkPp hb)) (hkU HB hb)))))); clear HO512 HO516 HO520 BK507 BK522 HB; obtain ⟨HO512, HO516, HO520, HO525, BK507, BK522, HB⟩ := n_; (try clear hb); (try clear hk); (try clear ho0); obtain ⟨Ao32, co32, eo32⟩ := Kd.R_slice HO525.out; subst eo32; obtain ⟨Ao33, co33, eo33⟩ := Kd.R_slice HO516.out; subst eo33) | ((with_reducible refine gate_callee (f := 8) rfl ?_); refine hkGo (N := some 25) Tryd.func8 #[.slice Ao32 t523.length co32, .slice Ao33 t514.length co33] ?_; (with_reducible refine (laws_eqByteS.calls k _ _ t523 _ _ t514 true _ ?side1 ?side2 ?side3 ?side4 A11.out).mono ?_); (case side1 => exact hkC ((Kd.R_reads' HO525.out).2.2)); (case side2 => exact (Kd.R_reads' HO525.out).2.1); (case side3 => exact hkC ((Kd.R_reads' HO516.out).2.2)); (case side4 => exact (Kd.R_reads' HO516.out).2.1); rintro e w' ⟨rfl, ⟨nd, rfl⟩⟩; refine ⟨_, rfl, ?_⟩))
    (try (rw [drewN_self w31]; generalize hq_ : World.drewN w31 _ = w31; have n0_ : Aside0 (Kd.R (Kd.int .i64) 3 w31 w.heap.size (fun k_ => some k_ ≠ (.slice Ao30 t518.length co30 : Value).ownBlock) (.slice Ao23 t510.length co23) t510) := ⟨by rw [← hq_]; exact (by (with_reducible repeat (first | apply Kd.R_alloc | apply Kd.R_drewN | apply Kd.R_drew)); exact Kd.R_mono HO512.out (fun _ hk => hk.2))⟩; have n1_ : Aside0 (Kd.R (Kd.int .u8) 5 w31 w.heap.size (fun k_ => some k_ ≠ (.slice Ao32 t523.length co32 : Value).ownBlock) (.slice Ao33 t514.length co33) t514) := ⟨by rw [← hq_]; exact (by (with_reducible repeat (first | apply Kd.R_alloc | apply Kd.R_drewN | apply Kd.R_drew)); exact Kd.R_mono HO516.out (fun _ hk => hk.2))⟩; have n2_ : Aside0 (Kd.R (Kd.int .i64) 3 w31 w.heap.size (fun k_ => some k_ ≠ (.slice Ao23 t510.length co23 : Value).ownBlock) (.slice Ao30 t518.length co30) t518) := ⟨by rw [← hq_]; exact (by (with_reducible repeat (first | apply Kd.R_alloc | apply Kd.R_drewN | apply Kd.R_drew)); exact Kd.R_mono HO520.out (fun _ hk => hk.2))⟩; have n3_ : Aside0 (Kd.R (Kd.int .u8) 5 w31 w.heap.size (fun k_ => some k_ ≠ (.slice Ao33 t514.length co33 : Value).ownBlock) (.slice Ao32 t523.length co32) t523) := ⟨by rw [← hq_]; exact (by (with_reducible repeat (first | apply Kd.R_alloc | apply Kd.R_drewN | apply Kd.R_drew)); exact Kd.R_mono HO525.out (fun _ hk => hk.2))⟩; have n4_ : Aside0 (w31.heap[gb507]? = some (.cells #[.bool a0_0, .slice A0_1 l0_1.length c0_1, .int .i64 a0_2] 26 (0, 0))) := ⟨by rw [← hq_]; exact (hkB BK507)⟩; have n5_ : Aside0 (w31.heap[gb522]? = some (.cells #[.bool t517, .slice Ao30 t518.length co30, .int .i64 t521] 32 (0, 0))) := ⟨by rw [← hq_]; exact (hkB BK522)⟩; have n6_ : Aside0 (Below w.heap.size w w31) := ⟨by rw [← hq_]; exact (hkS HB)⟩; clear HO512 HO516 HO520 HO525 BK507 BK522 HB hq_; have HO512 := n0_; have HO516 := n1_; have HO520 := n2_; have HO525 := n3_; have BK507 := n4_; have BK522 := n5_; have HB := n6_; clear n0_ n1_ n2_ n3_ n4_ n5_ n6_))
    have n_ := hkA (Aside0.mk (Kd.R_drew HO512.out)) (hkA (Aside0.mk (Kd.R_drew HO516.out)) (hkA (Aside0.mk (Kd.R_drew HO520.out)) (hkA (Aside0.mk (Kd.R_drew HO525.out)) (hkA (Aside0.mk (blk_drew BK507.out)) (hkA (Aside0.mk (blk_drew BK522.out)) (Aside0.mk (below_drew1 HB.out)))))))
    clear HO512 HO516 HO520 HO525 BK507 BK522 HB
    obtain ⟨HO512, HO516, HO520, HO525, BK507, BK522, HB⟩ := n_
    refine start_ (n := 5) (S := fun w' => w'.cell? ⟨gb522, 0, none⟩ = some (.bool t517) ∧ w'.cell? ⟨gb522, 1, none⟩ = some (.slice Ao30 t518.length co30) ∧ w'.cell? ⟨gb522, 2, none⟩ = some (.int .i64 t521) ∧ w'.cell? ⟨gb507, 0, none⟩ = some (.bool a0_0) ∧ w'.cell? ⟨gb507, 1, none⟩ = some (.slice A0_1 l0_1.length c0_1) ∧ w'.cell? ⟨gb507, 2, none⟩ = some (.int .i64 a0_2)) (ds := []) #[false, false, false, false, false] (by kernel_rfl) rfl rfl ⟨(blk_cell BK522.out 0).trans rfl, (blk_cell BK522.out 1).trans rfl, (blk_cell BK522.out 2).trans rfl, (blk_cell BK507.out 0).trans rfl, (blk_cell BK507.out 1).trans rfl, (blk_cell BK507.out 2).trans rfl⟩ (fun hHeld => ?_)
    generalize w31.drew = w34 at HO512 HO516 HO520 HO525 BK507 BK522 HB hHeld ⊢
    refine hkTk (i := 0) (N := some 27) hHeld ?_ (hy := by rintro w' ⟨s0, s1, s2, s3, s4, s5⟩; go_simp; with_reducible rfl)
    refine hkTk (i := 1) (N := some 28) hHeld ?_ (hy := by rintro w' ⟨s0, s1, s2, s3, s4, s5⟩; go_simp; with_reducible rfl)
    refine one_ (i := 2) (N := some 29) #[true, true, true, false, false] rfl rfl (by kernel_rfl) (by decide) (fun K hK => ?_)
    refine goes_ Tryd.func6 (by kernel_rfl) rfl #[.agg #[.bool a0_0, .slice A0_1 l0_1.length c0_1, .int .i64 a0_2]] (by rfl) rfl rfl hkL ?_
    with_reducible refine (laws_toDec.calls k a0_0 _ _ l0_1 a0_2 t527 t528 t531 _ ?side1 ?side2 A13.out).mono ?_
    (case side1 => exact hkC ((Kd.C_below HR0_1.out HB.out)))
    (case side2 => exact HC0_1.out)
    rintro e w35 ⟨v529, rfl, ho0, hb⟩
    refine ⟨_, rfl, ?_⟩
    have n_ := hkA (Aside0.mk (Kd.R_elder' (hkR HO512) (Kd.R_base ho0) hb)) (hkA (hkRb HO516 hb) (hkA (Aside0.mk (Kd.R_elder' (hkR HO520) (Kd.R_base ho0) hb)) (hkA (hkRb HO525 hb) (hkA (Aside0.mk (Kd.R_lower (Kd.R_new' (Kd.R_new' ho0 (Kd.R_lt (hkR HO512))) (Kd.R_lt (hkR HO520))) (below_size (hkS HB)))) (hkA (hkBb BK507 hb) (hkA (hkBb BK522 hb) (hkU HB hb)))))))
    clear HO512 HO516 HO520 HO525 BK507 BK522 HB
    obtain ⟨HO512, HO516, HO520, HO525, HO530, BK507, BK522, HB⟩ := n_
    (try clear hb); (try clear ho0)
    obtain ⟨Ao36, co36, eo36⟩ := Kd.R_slice HO530.out
    (first | subst eo36 | (injection eo36 with f1_ f2_ f3_; have f4_ := f1_.symm; have f5_ := f3_.symm; clear f1_ f2_ f3_; subst f4_; subst f5_))
    refine hK.out _ _ ⟨(blk_cell BK522.out 0).trans rfl, (blk_cell BK522.out 1).trans rfl, (blk_cell BK522.out 2).trans rfl, (blk_cell BK507.out 0).trans rfl, (blk_cell BK507.out 1).trans rfl, (blk_cell BK507.out 2).trans rfl⟩ (fun hHeld => ?_)
    clear hK K
    refine hkNo (N := some 29) ?_
    refine one_ (i := 3) (N := some 30) #[true, true, true, true, false] rfl rfl (by kernel_rfl) (by decide) (fun K hK => ?_)
    refine goes_ Tryd.func9 (by kernel_rfl) rfl #[.agg #[.bool t517, .slice Ao30 t518.length co30, .int .i64 t521], .agg #[.bool t527, .slice Ao36 t528.length co36, .int .i64 t531]] (by rfl) rfl rfl hkL ?_
    with_reducible refine (laws_eqDec.calls k t517 _ _ t518 t521 t527 _ _ t528 t531 true _ ?side1 ?side2 ?side3 ?side4 A14.out).mono ?_
    (case side1 => exact hkC ((Kd.R_reads' HO520.out).2.2))
    (case side2 => exact (Kd.R_reads' HO520.out).2.1)
    (case side3 => exact hkC ((Kd.R_reads' HO530.out).2.2))
    (case side4 => exact (Kd.R_reads' HO530.out).2.1)
    rintro e w37 ⟨rfl, hb⟩
    refine ⟨_, rfl, ?_⟩
    have n_ := hkA (hkRb HO512 hb) (hkA (hkRb HO516 hb) (hkA (hkRb HO520 hb) (hkA (hkRb HO525 hb) (hkA (hkRb HO530 hb) (hkA (hkBb BK507 hb) (hkA (hkBb BK522 hb) (hkU HB hb)))))))
    clear HO512 HO516 HO520 HO525 HO530 BK507 BK522 HB
    obtain ⟨HO512, HO516, HO520, HO525, HO530, BK507, BK522, HB⟩ := n_
    (try clear hb)
    refine hK.out _ _ ⟨(blk_cell BK522.out 0).trans rfl, (blk_cell BK522.out 1).trans rfl, (blk_cell BK522.out 2).trans rfl, (blk_cell BK507.out 0).trans rfl, (blk_cell BK507.out 1).trans rfl, (blk_cell BK507.out 2).trans rfl⟩ (fun hHeld => ?_)
    clear hK K
    refine hkNo (N := some 30) ?_
    refine hkPu (i := 4) (N := some 31) ?_
    refine done_ (by kernel_rfl) ?_
    obtain ⟨hcz38_0, hfz38_0, hcz38_1, hfz38_1, hcz38_2, hfz38_2⟩ := hkc3 BK522
    go_upto_region 14 with (first | ((with_reducible refine gate_callee (f := 10) rfl ?_); refine hkGo (N := some 34) Tryd.func10 #[.agg #[.bool t517, .slice Ao30 t518.length co30, .int .i64 t521], .int .i64 1] ?_; (with_reducible refine (laws_markDec.calls k t517 (fun k_ => some k_ = (.slice Ao30 t518.length co30 : Value).ownBlock) (.slice Ao30 t518.length co30) t518 t521 1 t533 t534 w _ ?side1 ?side2 A16.out).mono ?_); (case side1 => exact hkS HB); (case side2 => exact Kd.R_tight rfl HO520.out); rintro e w39 ⟨rfl, hy0, hb, hkp⟩; refine ⟨_, rfl, ?_⟩; have n_ := hkA (Aside0.mk (blk_kept (hkB BK507) hkp (fun hs_ => (fun e_ => (Kd.R_ne HO520.out BK507.out (by decide)) e_) hs_))) (hkA (Aside0.mk (Kd.R_mono (ok' := fun k_ => some k_ ≠ (.slice Ao30 t518.length co30 : Value).ownBlock ∧ some k_ ≠ (.slice Ao36 t528.length co36 : Value).ownBlock) (Kd.R_keptB (HO512.out) hkp (fun k_ hk_ hs_ => by first | exact (hk_.1.2) hs_ | exact hkP hk_ hs_)) (fun k_ hk_ => by first | exact ⟨hk_.1.1.2, hk_.1.2⟩ | exact hkQ hk_))) (hkA (Aside0.mk (Kd.R_mono (ok' := fun k_ => some k_ ≠ (.slice Ao32 t523.length co32 : Value).ownBlock) (Kd.R_keptB ((Kd.R_apart' HO516.out (Kd.R_typed HO520.out) (by decide))) hkp (fun k_ hk_ hs_ => by first | exact (hk_.2) hs_ | exact hkP hk_ hs_)) (fun k_ hk_ => by first | exact hk_.1.1.2 | exact hkQ hk_))) (hkA (Aside0.mk (Kd.R_reok rfl hy0 (fun k_ e_ => HO520.out.1 k_ e_))) (hkA (Aside0.mk (blk_kept (hkB BK522) hkp (fun hs_ => (fun e_ => (Kd.R_ne HO520.out BK522.out (by decide)) e_) hs_))) (hkA (Aside0.mk (Kd.R_mono (ok' := fun k_ => some k_ ≠ (.slice Ao33 t514.length co33 : Value).ownBlock) (Kd.R_keptB ((Kd.R_apart' HO525.out (Kd.R_typed HO520.out) (by decide))) hkp (fun k_ hk_ hs_ => by first | exact (hk_.2) hs_ | exact hkP hk_ hs_)) (fun k_ hk_ => by first | exact hk_.1.1.2 | exact hkQ hk_))) (hkA (Aside0.mk (Kd.R_mono (ok' := fun k_ => some k_ ≠ (.slice Ao23 t510.length co23 : Value).ownBlock ∧ some k_ ≠ (.slice Ao30 t518.length co30 : Value).ownBlock) (Kd.R_keptB (HO530.out) hkp (fun k_ hk_ hs_ => by first | exact (hk_.2) hs_ | exact hkP hk_ hs_)) (fun k_ hk_ => by first | exact ⟨hk_.1.1.2, hk_.1.2⟩ | exact hkQ hk_))) (Aside0.mk (hb)))))))); clear BK507 HO512 HO516 HO520 BK522 HO525 HO530 HB; obtain ⟨BK507, HO512, HO516, HO520, BK522, HO525, HO530, HB⟩ := n_; (try clear hb); (try clear hkp); (try clear hy0)))
    (try simp only [Act.put, List.setIfInBounds_toArray, List.set_cons_zero, List.set_cons_succ])
    go_cut [42] (fun v42 wc => ∃ (kq : Nat) (x42_16 : Bool), v42 = .bool x42_16 ∧ Aside0 (laws_FnExactDecText.j0 kq t514 t523 x42_16 a0_0 l0_1 a0_2 = some true) ∧ Aside0 (kq ≤ k) ∧ Aside0 (Kd.R (Kd.int .u8) 5 wc w.heap.size (fun k_ => some k_ ≠ ((.slice Ao32 t523.length co32) : Value).ownBlock) (.slice Ao33 t514.length co33) t514) ∧ Aside0 (Kd.R (Kd.int .u8) 5 wc w.heap.size (fun k_ => some k_ ≠ ((.slice Ao33 t514.length co33) : Value).ownBlock) (.slice Ao32 t523.length co32) t523) ∧ Aside0 (Kd.R (Kd.int .i64) 3 wc w.heap.size (fun _ => True) (.slice Ao30 t518.length co30) t534) ∧ Aside0 (wc.heap[gb507]? = some (.cells #[.bool a0_0, (.slice A0_1 l0_1.length c0_1), .int .i64 a0_2] 26 (0, 0))) ∧ Aside0 (wc.heap[gb522]? = some (.cells #[.bool t517, (.slice Ao30 t518.length co30), .int .i64 t521] 32 (0, 0))) ∧ Aside0 (Below w.heap.size w wc))
    case first =>
     have H := HC17.out
     clear HC17
     by_cases c40 : t533 < 0
     ·rw [if_pos c40] at H
      have c40b0 : decide (t533 < 0) = true := decide_eq_true c40
      clear c40
      (first | rw [c40b0] | (simp only [i64_w, i32_w]; rw [c40b0]) | skip)
      have H' := Aside0.mk H
      clear H
      go_wp2
      go_meet
      case rel => exact ⟨_, (true), (by first | rfl | (simp; done) | (simp [*]; done)), H', ⟨by first | omega | exact Nat.le_refl _⟩, ⟨by (with_reducible repeat (first | apply Kd.R_alloc | apply Kd.R_drewN | apply Kd.R_drew)); exact HO516.out⟩, ⟨by (with_reducible repeat (first | apply Kd.R_alloc | apply Kd.R_drewN | apply Kd.R_drew)); exact HO525.out⟩, ⟨by (with_reducible repeat (first | apply Kd.R_alloc | apply Kd.R_drewN | apply Kd.R_drew)); exact Kd.R_mono HO520.out (fun _ hk => trivial)⟩, ⟨by refine hkz ?_; exact BK507.out⟩, ⟨by refine hkz ?_; exact BK522.out⟩, ⟨hkS HB⟩⟩
     ·rw [if_neg c40] at H
      have c40b0 : decide (t533 < 0) = false := decide_eq_false c40
      clear c40
      (first | rw [c40b0] | (simp only [i64_w, i32_w]; rw [c40b0]) | skip)
      replace H := hBi H
      obtain ⟨t535, A410, H⟩ := H
      replace H : (laws_FnExactDecText.j0 k t514 t523 (!t535) a0_0 l0_1 a0_2) = some true := H
      have A41 := Aside0.mk A410
      clear A410
      have H' := Aside0.mk H
      clear H
      go_wp2_with (first | (go_at_call 8; (with_reducible refine (laws_eqByteS.calls k _ _ t523 _ _ t514 t535 _ ?side1 ?side2 ?side3 ?side4 A41.out).mono ?_); (case side1 => exact hkC ((Kd.R_reads' HO525.out).2.2)); (case side2 => exact (Kd.R_reads' HO525.out).2.1); (case side3 => exact hkC ((Kd.R_reads' HO516.out).2.2)); (case side4 => exact (Kd.R_reads' HO516.out).2.1); rintro e w' ⟨rfl, ⟨nd, rfl⟩⟩))
      go_meet
      case rel => exact ⟨_, (!t535), (by first | rfl | (simp; done) | (simp [*]; done)), H', ⟨by first | omega | exact Nat.le_refl _⟩, ⟨by (with_reducible repeat (first | apply Kd.R_alloc | apply Kd.R_drewN | apply Kd.R_drew)); exact HO516.out⟩, ⟨by (with_reducible repeat (first | apply Kd.R_alloc | apply Kd.R_drewN | apply Kd.R_drew)); exact HO525.out⟩, ⟨by (with_reducible repeat (first | apply Kd.R_alloc | apply Kd.R_drewN | apply Kd.R_drew)); exact Kd.R_mono HO520.out (fun _ hk => trivial)⟩, ⟨by refine hkz ?_; exact BK507.out⟩, ⟨by refine hkz ?_; exact BK522.out⟩, ⟨hkS HB⟩⟩
    case rest =>
     clear HC17
     try clear c1
     try clear c2
     try clear p2
     try clear c3
     try clear c3b0
     try clear c4
     try clear c5
     try clear c6
     try clear c7
     try clear c8
     try clear c9
     try clear c10
     try clear c12
     try clear c15
     try clear c28
     try clear c40
     try clear c40b0
     try clear hcz19_0 hcz19_1 hcz19_2 hcz21_0 hcz21_1 hcz21_2 hcz25_0 hcz25_1 hcz25_2 hcz29_0 hcz29_1 hcz29_2 hcz38_0 hcz38_1 hcz38_2 hcz5_0 hcz5_1 hcz5_2 hfz19_0 hfz19_1 hfz19_2 hfz21_0 hfz21_1 hfz21_2 hfz25_0 hfz25_1 hfz25_2 hfz29_0 hfz29_1 hfz29_2 hfz38_0 hfz38_1 hfz38_2 hfz5_0 hfz5_1 hfz5_2
     obtain ⟨kq, x42_16, rfl, HA, HJ16, HO_4, HO_6, HO_523001, BK507, BK522, HB⟩ := hcut
     have hl523001_16 := (Kd.R_reads' HO_523001.out).1
     rw [hl523001_16] at HO_523001
     (try simp only [hl523001_16])
     (try simp only [hl523001_16] at BK507)
     (try simp only [hl523001_16] at BK522)
     (try simp only [hl523001_16] at HO_4)
     (try simp only [hl523001_16] at HO_6)
     cases kq with
     | zero => exact absurd HA.out (by simp [laws_FnExactDecText.j0])
     | succ kj16 =>
      have H := HA.out
      clear HA
      simp only [laws_FnExactDecText.j0] at H
      by_cases c42 : x42_16 = true
      ·subst c42
       have H1 : (some false) = some true := by rw [if_pos rfl] at H; exact H
       clear H
       have H := H1
       clear H1
       exact absurd (Option.some.inj H) (by decide)
      ·replace c42 := Bool.eq_false_iff.mpr c42
       subst c42
       have H1 : ((laws_markByteS.f kj16 t523 1).bind fun bt536 => ((laws_heldByteS.f kj16 bt536.2 1).bind fun t538 => (if t538 < 0 then (some false) else (if t538 = bt536.1 then ((laws_toDec.f kj16 a0_0 l0_1 a0_2).bind fun bt539 => ((impl_DecText.f kj16 bt539.1 bt539.2.1 bt539.2.2).bind fun t544 => ((laws_eqByteS.f kj16 t544 t514).bind fun t547 => (if t547 = true then ((laws_heldByteS.f kj16 bt536.2 1).bind fun t548 => (if t548 < 0 then (some false) else (if t548 = bt536.1 then (some true) else (some false)))) else (some false))))) else (some false))))) = some true := by rw [if_neg (show ¬ (false = true) by decide)] at H; exact H
       clear H
       have H := H1
       clear H1
       replace H := hBi H
       obtain ⟨⟨t536, t537⟩, A430, H⟩ := H
       replace H : ((laws_heldByteS.f kj16 t537 1).bind fun t538 => (if t538 < 0 then (some false) else (if t538 = t536 then ((laws_toDec.f kj16 a0_0 l0_1 a0_2).bind fun bt539 => ((impl_DecText.f kj16 bt539.1 bt539.2.1 bt539.2.2).bind fun t544 => ((laws_eqByteS.f kj16 t544 t514).bind fun t547 => (if t547 = true then ((laws_heldByteS.f kj16 t537 1).bind fun t548 => (if t548 < 0 then (some false) else (if t548 = t536 then (some true) else (some false)))) else (some false))))) else (some false)))) = some true := H
       have A43 := Aside0.mk A430
       clear A430
       replace H := hBi H
       obtain ⟨t538, A440, H⟩ := H
       replace H : (if t538 < 0 then (some false) else (if t538 = t536 then ((laws_toDec.f kj16 a0_0 l0_1 a0_2).bind fun bt539 => ((impl_DecText.f kj16 bt539.1 bt539.2.1 bt539.2.2).bind fun t544 => ((laws_eqByteS.f kj16 t544 t514).bind fun t547 => (if t547 = true then ((laws_heldByteS.f kj16 t537 1).bind fun t548 => (if t548 < 0 then (some false) else (if t548 = t536 then (some true) else (some false)))) else (some false))))) else (some false))) = some true := H
       have A44 := Aside0.mk A440
       clear A440
       by_cases c45 : t538 < 0
       ·rw [if_pos c45] at H
        have c45b0 : decide (t538 < 0) = true := decide_eq_true c45
        clear c45
        exact absurd (Option.some.inj H) (by decide)
       ·rw [if_neg c45] at H
        have c45b0 : decide (t538 < 0) = false := decide_eq_false c45
        clear c45
        by_cases c47 : t538 = t536
        ·rw [if_pos c47] at H
         have c47b0 : (t538 == t536) = true := beq_iff_eq.mpr c47
         have c47b1 : (t538 != t536) = false := bne_eq_false_iff_eq.mpr c47
         clear c47
         replace H := hBi H
         obtain ⟨⟨t539, t540, t543⟩, A480, H⟩ := H
         replace H : ((impl_DecText.f kj16 t539 t540 t543).bind fun t544 => ((laws_eqByteS.f kj16 t544 t514).bind fun t547 => (if t547 = true then ((laws_heldByteS.f kj16 t537 1).bind fun t548 => (if t548 < 0 then (some false) else (if t548 = t536 then (some true) else (some false)))) else (some false)))) = some true := H
         have A48 := Aside0.mk A480
         clear A480
         replace H := hBi H
         obtain ⟨t544, A490, H⟩ := H
         replace H : ((laws_eqByteS.f kj16 t544 t514).bind fun t547 => (if t547 = true then ((laws_heldByteS.f kj16 t537 1).bind fun t548 => (if t548 < 0 then (some false) else (if t548 = t536 then (some true) else (some false)))) else (some false))) = some true := H
         have A49 := Aside0.mk A490
         clear A490
         replace H := hBi H
         obtain ⟨t547, A500, H⟩ := H
         replace H : (if t547 = true then ((laws_heldByteS.f kj16 t537 1).bind fun t548 => (if t548 < 0 then (some false) else (if t548 = t536 then (some true) else (some false)))) else (some false)) = some true := H
         have A50 := Aside0.mk A500
         clear A500
         by_cases c51 : t547 = true
         ·subst c51
          have H1 : ((laws_heldByteS.f kj16 t537 1).bind fun t548 => (if t548 < 0 then (some false) else (if t548 = t536 then (some true) else (some false)))) = some true := by rw [if_pos rfl] at H; exact H
          clear H
          have H := H1
          clear H1
          replace H := hBi H
          obtain ⟨t548, A520, H⟩ := H
          replace H : (if t548 < 0 then (some false) else (if t548 = t536 then (some true) else (some false))) = some true := H
          have A52 := Aside0.mk A520
          clear A520
          by_cases c53 : t548 < 0
          ·rw [if_pos c53] at H
           have c53b0 : decide (t548 < 0) = true := decide_eq_true c53
           clear c53
           exact absurd (Option.some.inj H) (by decide)
          ·rw [if_neg c53] at H
           have c53b0 : decide (t548 < 0) = false := decide_eq_false c53
           clear c53
           by_cases c61 : t548 = t536
           ·rw [if_pos c61] at H
            have c61b0 : (t548 == t536) = true := beq_iff_eq.mpr c61
            have c61b1 : (t548 != t536) = false := bne_eq_false_iff_eq.mpr c61
            clear c61
            clear H
            go_wp2_with (first | ((with_reducible refine gate_callee (f := 11) rfl ?_); refine hkGo (N := some 45) Tryd.func11 #[.slice Ao32 t523.length co32, .int .i64 1] ?_; (with_reducible refine (laws_markByteS.calls kj16 (fun k_ => some k_ = (.slice Ao32 t523.length co32 : Value).ownBlock) (.slice Ao32 t523.length co32) t523 1 t536 t537 w _ ?side1 ?side2 A43.out).mono ?_); (case side1 => exact hkS HB); (case side2 => exact Kd.R_tight rfl HO_6.out); rintro e w62 ⟨rfl, hy0, hb, hkp⟩; refine ⟨_, rfl, ?_⟩; have n_ := hkA (Aside0.mk (Kd.R_mono (ok' := fun k_ => some k_ ≠ (.slice Ao32 t523.length co32 : Value).ownBlock) (Kd.R_keptB (HO_4.out) hkp (fun k_ hk_ hs_ => by first | exact (hk_) hs_ | exact hkP hk_ hs_)) (fun k_ hk_ => by first | exact hk_.1 | exact hkQ hk_))) (hkA (Aside0.mk (Kd.R_reok rfl hy0 (fun k_ e_ => HO_6.out.1 k_ e_))) (hkA (Aside0.mk (Kd.R_mono (ok' := fun k_ => True) (Kd.R_keptB ((Kd.R_apart' HO_523001.out (Kd.R_typed HO_6.out) (by decide))) hkp (fun k_ hk_ hs_ => by first | exact (hk_.2) hs_ | exact hkP hk_ hs_)) (fun k_ hk_ => trivial))) (hkA (Aside0.mk (blk_kept (hkB BK507) hkp (fun hs_ => (fun e_ => (Kd.R_ne HO_6.out BK507.out (by decide)) e_) hs_))) (hkA (Aside0.mk (blk_kept (hkB BK522) hkp (fun hs_ => (fun e_ => (Kd.R_ne HO_6.out BK522.out (by decide)) e_) hs_))) (Aside0.mk (hb)))))); clear HO_4 HO_6 HO_523001 BK507 BK522 HB; obtain ⟨HO_4, HO_6, HO_523001, BK507, BK522, HB⟩ := n_; (try clear hb); (try clear hkp); (try clear hy0)) | ((with_reducible refine gate_callee (f := 12) rfl ?_); refine goesL_ (some 48) rfl rfl Tryd.func12 (by kernel_rfl) rfl #[.slice Ao32 t537.length co32, .int .i64 1] rfl (by (try simp only [List.map_toArray, List.map_cons, List.map_nil]); first | done | (rw [show t537.length = t523.length from (Kd.R_reads' HO_6.out).1.symm] <;> rfl) | rfl | (simp only [List.length_drop, List.length_take]; rfl)) ?_; (with_reducible refine (laws_heldByteS.calls kj16 _ _ t537 1 t538 _ ?side1 ?side2 A44.out).mono ?_); (case side1 => exact hkC ((Kd.R_reads' HO_6.out).2.2)); (case side2 => rw [show t537.length = t523.length from (Kd.R_reads' HO_6.out).1.symm]; exact (Kd.R_reads' HO_6.out).2.1); rintro e w' ⟨rfl, ⟨nd, rfl⟩⟩; refine ⟨_, rfl, ?_⟩; have hnb63 := NB507_522.out; have hnc63 := NB522_507.out; obtain ⟨hcz64_0, hfz64_0, hcz64_1, hfz64_1, hcz64_2, hfz64_2⟩ := hkc3 BK507) | ((with_reducible refine gate_callee (f := 6) rfl ?_); refine hkGo (N := some 55) Tryd.func6 #[.agg #[.bool a0_0, .slice A0_1 l0_1.length c0_1, .int .i64 a0_2]] ?_; (with_reducible refine (laws_toDec.calls kj16 a0_0 _ _ l0_1 a0_2 t539 t540 t543 _ ?side1 ?side2 A48.out).mono ?_); (case side1 => exact hkC ((Kd.C_below HR0_1.out (hkS HB)))); (case side2 => exact HC0_1.out); rintro e w65 ⟨v541, rfl, ho0, hb⟩; refine ⟨_, rfl, ?_⟩; have n_ := hkA (hkRb HO_4 hb) (hkA (hkRb HO_6 hb) (hkA (Aside0.mk (Kd.R_elder' (hkR HO_523001) (Kd.R_base ho0) hb)) (hkA (Aside0.mk (Kd.R_lower (Kd.R_new' ho0 (Kd.R_lt (hkR HO_523001))) (below_size (hkS HB)))) (hkA (hkBb BK507 hb) (hkA (hkBb BK522 hb) (hkU HB hb)))))); clear HO_4 HO_6 HO_523001 BK507 BK522 HB; obtain ⟨HO_4, HO_6, HO_523001, HO542, BK507, BK522, HB⟩ := n_; (try clear hb); (try clear ho0); obtain ⟨Ao66, co66, eo66⟩ := Kd.R_slice HO542.out; subst eo66) | ((with_reducible refine gate_callee (f := 7) rfl ?_); refine hkGo (N := some 56) Tryd.func7 #[.agg #[.bool t539, .slice Ao66 t540.length co66, .int .i64 t543]] ?_; (with_reducible refine (impl_DecText.calls kj16 t539 _ _ t540 t543 t544 _ ?side1 ?side2 A49.out).mono ?_); (case side1 => exact hkC ((Kd.R_reads' HO542.out).2.2)); (case side2 => exact (Kd.R_reads' HO542.out).2.1); rintro e w67 ⟨v545, rfl, ho0, hb⟩; refine ⟨_, rfl, ?_⟩; have n_ := hkA (Aside0.mk (Kd.R_elder' (hkR HO_4) (Kd.R_base ho0) hb)) (hkA (Aside0.mk (Kd.R_elder' (hkR HO_6) (Kd.R_base ho0) hb)) (hkA (hkRb HO_523001 hb) (hkA (hkRb HO542 hb) (hkA (Aside0.mk (Kd.R_lower (Kd.R_new' (Kd.R_new' ho0 (Kd.R_lt (hkR HO_4))) (Kd.R_lt (hkR HO_6))) (below_size (hkS HB)))) (hkA (hkBb BK507 hb) (hkA (hkBb BK522 hb) (hkU HB hb))))))); clear HO_4 HO_6 HO_523001 HO542 BK507 BK522 HB; obtain ⟨HO_4, HO_6, HO_523001, HO542, HO546, BK507, BK522, HB⟩ := n_; (try clear hb); (try clear ho0); obtain ⟨Ao68, co68, eo68⟩ := Kd.R_slice HO546.out; subst eo68) | ((with_reducible refine gate_callee (f := 8) rfl ?_); refine hkGo (N := some 59) Tryd.func8 #[.slice Ao68 t544.length co68, .slice Ao33 t514.length co33] ?_; (with_reducible refine (laws_eqByteS.calls kj16 _ _ t544 _ _ t514 true _ ?side1 ?side2 ?side3 ?side4 A50.out).mono ?_); (case side1 => exact hkC ((Kd.R_reads' HO546.out).2.2)); (case side2 => exact (Kd.R_reads' HO546.out).2.1); (case side3 => exact hkC ((Kd.R_reads' HO_4.out).2.2)); (case side4 => exact (Kd.R_reads' HO_4.out).2.1); rintro e w' ⟨rfl, ⟨nd, rfl⟩⟩; refine ⟨_, rfl, ?_⟩) | ((with_reducible refine gate_callee (f := 12) rfl ?_); refine goesL_ (some 63) rfl rfl Tryd.func12 (by kernel_rfl) rfl #[.slice Ao32 t537.length co32, .int .i64 1] rfl (by (try simp only [List.map_toArray, List.map_cons, List.map_nil]); first | done | (rw [show t537.length = t523.length from (Kd.R_reads' HO_6.out).1.symm] <;> rfl) | rfl | (simp only [List.length_drop, List.length_take]; rfl)) ?_; (with_reducible refine (laws_heldByteS.calls kj16 _ _ t537 1 t548 _ ?side1 ?side2 A52.out).mono ?_); (case side1 => exact hkC ((Kd.R_reads' HO_6.out).2.2)); (case side2 => rw [show t537.length = t523.length from (Kd.R_reads' HO_6.out).1.symm]; exact (Kd.R_reads' HO_6.out).2.1); rintro e w' ⟨rfl, ⟨nd, rfl⟩⟩; refine ⟨_, rfl, ?_⟩))
            go_ret
            exact ⟨hkE, hkS HB⟩
           ·rw [if_neg c61] at H
            have c61b0 : (t548 == t536) = false := beq_eq_false_iff_ne.mpr c61
            have c61b1 : (t548 != t536) = true := bne_iff_ne.mpr c61
            exact absurd (Option.some.inj H) (by decide)
         ·replace c51 := Bool.eq_false_iff.mpr c51
          subst c51
          have H1 : (some false) = some true := by rw [if_neg (show ¬ (false = true) by decide)] at H; exact H
          clear H
          have H := H1
          clear H1
          exact absurd (Option.some.inj H) (by decide)
        ·rw [if_neg c47] at H
         have c47b0 : (t538 == t536) = false := beq_eq_false_iff_ne.mpr c47
         have c47b1 : (t538 != t536) = true := bne_iff_ne.mpr c47
         exact absurd (Option.some.inj H) (by decide)
   ·replace c15 := Bool.eq_false_iff.mpr c15
    subst c15
    have H1 : (some false) = some true := by rw [if_neg (show ¬ (false = true) by decide)] at H; exact H
    clear H
    have H := H1
    clear H1
    exact absurd (Option.some.inj H) (by decide)
  ·replace c12 := Bool.eq_false_iff.mpr c12
   subst c12
   have H1 : (some false) = some true := by rw [if_neg (show ¬ (false = true) by decide)] at H; exact H
   clear H
   have H := H1
   clear H1
   exact absurd (Option.some.inj H) (by decide)
/-- THE ONE PURE STATEMENT of laws_FnExactDecText. -/
def laws_FnExactDecText.Pure : Prop := ∀ (a0_0 : Bool) (l0_1 : List Int) (a0_2 : Int), l0_1.length ≤ maxLen → (∀ x ∈ l0_1, (Lit.int .i64 x).wf = true) → (Lit.int .i64 a0_2).wf = true → ∃ k, laws_FnExactDecText.f k a0_0 l0_1 a0_2 = some true
theorem laws_FnExactDecText.walk (P : laws_FnExactDecText.Pure) (a0_0 : Bool) (a0_1 : Option Addr) (len0_1 cap0_1 : Nat) (z0_1 : List Int) (a0_2 : Int) (w : World) (w0_1 : ((a0_1 = none ∧ len0_1 = 0 ∧ cap0_1 = 0 ∧ z0_1 = []) ∨ ∃ x, a0_1 = some x ∧ len0_1 ≤ cap0_1 ∧ cap0_1 ≤ maxLen ∧ z0_1.length = cap0_1 ∧ (∀ i, i < z0_1.length → w.cell? (x.add i) = some (.int .i64 (z0_1.getD i 0))) ∧ ∀ n ∈ z0_1, (Lit.int .i64 n).wf = true)) (w0_2 : (Lit.int .i64 a0_2).wf = true) (hT : hTab w) :
  Calls Tryd.prog 3 #[.agg #[.bool a0_0, .slice a0_1 len0_1 cap0_1, .int .i64 a0_2]] w fun e w' => e = .returned (.bool true) ∧ Below w.heap.size w w' := by
 have HT0 := Aside0.mk hT
 clear hT
 obtain ⟨l0_1, rfl, hr0_1, hm0_1, hw0_1, hc0_1⟩ := ReadsInt.ofRowC w0_1
 obtain ⟨k, h⟩ := P a0_0 l0_1 a0_2 hm0_1 hw0_1 w0_2
 refine (laws_FnExactDecText.calls k a0_0 _ _ l0_1 a0_2 w (Kd.C_of_reads (d := (0 : Int)) (h1 := fun _ => rfl) hr0_1) hc0_1 h).mono ?_
 rintro e w' ⟨rfl, hd⟩
 exact ⟨rfl, hd⟩

end Go.Proofs.YthmieecgojiliaaDoor.PFnExactDecText
