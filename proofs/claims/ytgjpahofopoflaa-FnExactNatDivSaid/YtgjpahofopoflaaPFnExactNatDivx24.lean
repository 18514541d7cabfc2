-- Written by our own driver (wip/hand/hprint.py) over the seat's translation.
import Derived.Test.YtgjpahofopoflaaPFnExactNatDivx21
import Derived.Test.YtgjpahofopoflaaPFnExactNatDivx22
import Derived.Test.YtgjpahofopoflaaPFnExactNatDivx23
import Derived.Test.YtgjpahofopoflaaPFnExactNatDivx0
import Derived.Test.YtgjpahofopoflaaPFnExactNatDivx11
import Derived.Test.YtgjpahofopoflaaPFnExactNatDivx18
import Derived.Test.YtgjpahofopoflaaPFnExactNatDivx19
import Derived.Test.YtgjpahofopoflaaPFnExactNatDivx20
namespace Go.Proofs.Ytgjpahofopoflaa.PFnExactNatDiv
open Go.RowKit Go.Proofs.YtgjpahofopoflaaW.PrintWords Go.Proofs.YtgjpahofopoflaaW.PrintLast Go.Proofs.YtgjpahofopoflaaW.PrintMore
attribute [local go_sem] max2_int min2_int max_two min_two max_three min_three max_four min_four   -- for this text's walks alone
set_option linter.unusedVariables false
set_option linter.unusedSimpArgs false

set_option maxHeartbeats 8000000 in
set_option maxRecDepth 100000 in
theorem laws_FnExactNatDiv.calls (k : Nat) (A0_0 : Option Addr) (c0_0 : Nat) (l0_0 : List Int) (A1_0 : Option Addr) (c1_0 : Nat) (l1_0 : List Int) (w : World) (hr0_0 : Kd.C (Kd.int .i64) w A0_0 l0_0.length l0_0) (hc0_0 : l0_0.length ≤ c0_0) (hr1_0 : Kd.C (Kd.int .i64) w A1_0 l1_0.length l1_0) (hc1_0 : l1_0.length ≤ c1_0) (h : laws_FnExactNatDiv.f k l0_0 l1_0 = some true) :
  Calls Try.prog 6 #[.agg #[.slice A0_0 l0_0.length c0_0], .agg #[.slice A1_0 l1_0.length c1_0]] w fun e w' => e = .returned (.bool true) ∧ Below w.heap.size w w' := by
 have hu31 := Try.underlying31
 have hu38 := Try.underlying38
 have HR0_0 := Aside0.mk hr0_0
 have HC0_0 := Aside0.mk hc0_0
 clear hr0_0 hc0_0
 have HR1_0 := Aside0.mk hr1_0
 have HC1_0 := Aside0.mk hc1_0
 clear hr1_0 hc1_0
 have HB := Aside0.mk (Below.refl w.heap.size w)
 have H : ((laws_szNat.f l0_0 1048576).bind fun t394 => (if t394 < 0 then (some true) else ((laws_szNat.f l1_0 t394).bind fun t395 => (if t395 < 0 then (some true) else ((laws_toNat.f k l0_0).bind fun t396 => ((laws_toNat.f k l1_0).bind fun t399 => ((spec_NatDiv.f k t396 t399).bind fun bt402 => ((laws_toNat.f k l0_0).bind fun t411 => ((laws_toNat.f k l1_0).bind fun t415 => ((impl_NatDiv.f k t411 t415).bind fun bt419 => ((laws_eqNat.f k bt419.1 bt402.1).bind fun t428 => (if t428 = true then ((laws_eqNat.f k bt419.2.1 bt402.2.1).bind fun t429 => (if t429 = true then (laws_FnExactNatDiv.j0 k bt402.2.2 bt419.2.2 (bt419.2.2 != bt402.2.2) l0_0 l1_0 bt402.1 bt402.2.1 t411 t415 bt419.1 bt419.2.1) else (laws_FnExactNatDiv.j0 k bt402.2.2 bt419.2.2 true l0_0 l1_0 bt402.1 bt402.2.1 t411 t415 bt419.1 bt419.2.1))) else (laws_FnExactNatDiv.j0 k bt402.2.2 bt419.2.2 true l0_0 l1_0 bt402.1 bt402.2.1 t411 t415 bt419.1 bt419.2.1))))))))))))) = some true := h
 clear h
 replace H := hBi H
 obtain ⟨t394, A30, H⟩ := H
 replace H : (if t394 < 0 then (some true) else ((laws_szNat.f l1_0 t394).bind fun t395 => (if t395 < 0 then (some true) else ((laws_toNat.f k l0_0).bind fun t396 => ((laws_toNat.f k l1_0).bind fun t399 => ((spec_NatDiv.f k t396 t399).bind fun bt402 => ((laws_toNat.f k l0_0).bind fun t411 => ((laws_toNat.f k l1_0).bind fun t415 => ((impl_NatDiv.f k t411 t415).bind fun bt419 => ((laws_eqNat.f k bt419.1 bt402.1).bind fun t428 => (if t428 = true then ((laws_eqNat.f k bt419.2.1 bt402.2.1).bind fun t429 => (if t429 = true then (laws_FnExactNatDiv.j0 k bt402.2.2 bt419.2.2 (bt419.2.2 != bt402.2.2) l0_0 l1_0 bt402.1 bt402.2.1 t411 t415 bt419.1 bt419.2.1) else (laws_FnExactNatDiv.j0 k bt402.2.2 bt419.2.2 true l0_0 l1_0 bt402.1 bt402.2.1 t411 t415 bt419.1 bt419.2.1))) else (laws_FnExactNatDiv.j0 k bt402.2.2 bt419.2.2 true l0_0 l1_0 bt402.1 bt402.2.1 t411 t415 bt419.1 bt419.2.1)))))))))))) = some true := H
 have A3 := Aside0.mk A30
 clear A30
 by_cases c4 : t394 < 0
 ·rw [if_pos c4] at H
  have c4b0 : decide (t394 < 0) = true := decide_eq_true c4
  clear c4
  clear H
  go_enter Try.func6, Try.ntmps6
  go_wp2_with (first | ((with_reducible refine gate_dst (N := 2) rfl ?_); refine hkBox (N := 2) (cs := #[.slice A0_0 l0_0.length c0_0]) (t := 31) ?_; intro gb392 hg w5 hbox hb; have n_ := hkA (hkU HB hb) (hkA (Aside0.mk (hbox)) (hkA (hkG hg (hkS HB)) (hkG hg (hkS HB)))); clear HB; obtain ⟨HB, BK392, GW392, GE392⟩ := n_; clear hb hbox hg) | ((with_reducible refine gate_dst (N := 3) rfl ?_); refine hkBox (N := 3) (cs := #[.slice A1_0 l1_0.length c1_0]) (t := 31) ?_; intro gb393 hg w6 hbox hb; have n_ := hkA (hkBb BK392 hb) (hkA (hkU HB hb) (hkA (Aside0.mk (hbox)) (hkA (hkG hg (hkS HB)) (hkA (hkG hg (hkS HB)) (hkA (hkN hg BK392) (hkM hg BK392)))))); clear BK392 HB; obtain ⟨BK392, HB, BK393, GW393, GE393, NB392_393, NB393_392⟩ := n_; clear hb hbox hg; have hnb7 := NB392_393.out; have hnc7 := NB393_392.out; obtain ⟨hcz8_0, hfz8_0⟩ := hkc1 BK392) | ((with_reducible refine gate_callee (f := 24) rfl ?_); refine hkGo (N := some 22) Try.func24 #[.agg #[.slice A0_0 l0_0.length c0_0], .int .i64 1048576] ?_; (with_reducible refine (laws_szNat.calls _ _ l0_0 1048576 t394 _ ?side1 ?side2 A3.out).mono ?_); (case side1 => exact hkC ((Kd.C_below HR0_0.out HB.out))); (case side2 => exact HC0_0.out); rintro e w9 ⟨rfl, hb⟩; refine ⟨_, rfl, ?_⟩; have n_ := hkA (hkBb BK392 hb) (hkA (hkBb BK393 hb) (hkU HB hb)); clear BK392 BK393 HB; obtain ⟨BK392, BK393, HB⟩ := n_; (try clear hb)))
  go_ret
  exact ⟨hkE, hkS HB⟩
 ·rw [if_neg c4] at H
  have c4b0 : decide (t394 < 0) = false := decide_eq_false c4
  clear c4
  replace H := hBi H
  obtain ⟨t395, A100, H⟩ := H
  replace H : (if t395 < 0 then (some true) else ((laws_toNat.f k l0_0).bind fun t396 => ((laws_toNat.f k l1_0).bind fun t399 => ((spec_NatDiv.f k t396 t399).bind fun bt402 => ((laws_toNat.f k l0_0).bind fun t411 => ((laws_toNat.f k l1_0).bind fun t415 => ((impl_NatDiv.f k t411 t415).bind fun bt419 => ((laws_eqNat.f k bt419.1 bt402.1).bind fun t428 => (if t428 = true then ((laws_eqNat.f k bt419.2.1 bt402.2.1).bind fun t429 => (if t429 = true then (laws_FnExactNatDiv.j0 k bt402.2.2 bt419.2.2 (bt419.2.2 != bt402.2.2) l0_0 l1_0 bt402.1 bt402.2.1 t411 t415 bt419.1 bt419.2.1) else (laws_FnExactNatDiv.j0 k bt402.2.2 bt419.2.2 true l0_0 l1_0 bt402.1 bt402.2.1 t411 t415 bt419.1 bt419.2.1))) else (laws_FnExactNatDiv.j0 k bt402.2.2 bt419.2.2 true l0_0 l1_0 bt402.1 bt402.2.1 t411 t415 bt419.1 bt419.2.1)))))))))) = some true := H
  have A10 := Aside0.mk A100
  clear A100
  by_cases c11 : t395 < 0
  ·rw [if_pos c11] at H
   have c11b0 : decide (t395 < 0) = true := decide_eq_true c11
   clear c11
   clear H
   go_enter Try.func6, Try.ntmps6
   go_wp2_with (first | ((with_reducible refine gate_dst (N := 2) rfl ?_); refine hkBox (N := 2) (cs := #[.slice A0_0 l0_0.length c0_0]) (t := 31) ?_; intro gb392 hg w12 hbox hb; have n_ := hkA (hkU HB hb) (hkA (Aside0.mk (hbox)) (hkA (hkG hg (hkS HB)) (hkG hg (hkS HB)))); clear HB; obtain ⟨HB, BK392, GW392, GE392⟩ := n_; clear hb hbox hg) | ((with_reducible refine gate_dst (N := 3) rfl ?_); refine hkBox (N := 3) (cs := #[.slice A1_0 l1_0.length c1_0]) (t := 31) ?_; intro gb393 hg w13 hbox hb; have n_ := hkA (hkBb BK392 hb) (hkA (hkU HB hb) (hkA (Aside0.mk (hbox)) (hkA (hkG hg (hkS HB)) (hkA (hkG hg (hkS HB)) (hkA (hkN hg BK392) (hkM hg BK392)))))); clear BK392 HB; obtain ⟨BK392, HB, BK393, GW393, GE393, NB392_393, NB393_392⟩ := n_; clear hb hbox hg; have hnb14 := NB392_393.out; have hnc14 := NB393_392.out; obtain ⟨hcz15_0, hfz15_0⟩ := hkc1 BK392) | ((with_reducible refine gate_callee (f := 24) rfl ?_); refine hkGo (N := some 22) Try.func24 #[.agg #[.slice A0_0 l0_0.length c0_0], .int .i64 1048576] ?_; (with_reducible refine (laws_szNat.calls _ _ l0_0 1048576 t394 _ ?side1 ?side2 A3.out).mono ?_); (case side1 => exact hkC ((Kd.C_below HR0_0.out HB.out))); (case side2 => exact HC0_0.out); rintro e w16 ⟨rfl, hb⟩; refine ⟨_, rfl, ?_⟩; have n_ := hkA (hkBb BK392 hb) (hkA (hkBb BK393 hb) (hkU HB hb)); clear BK392 BK393 HB; obtain ⟨BK392, BK393, HB⟩ := n_; (try clear hb); obtain ⟨hcz17_0, hfz17_0⟩ := hkc1 BK393) | ((with_reducible refine gate_callee (f := 24) rfl ?_); refine hkGo (N := some 27) Try.func24 #[.agg #[.slice A1_0 l1_0.length c1_0], .int .i64 t394] ?_; (with_reducible refine (laws_szNat.calls _ _ l1_0 t394 t395 _ ?side1 ?side2 A10.out).mono ?_); (case side1 => exact hkC ((Kd.C_below HR1_0.out HB.out))); (case side2 => exact HC1_0.out); rintro e w18 ⟨rfl, hb⟩; refine ⟨_, rfl, ?_⟩; have n_ := hkA (hkBb BK392 hb) (hkA (hkBb BK393 hb) (hkU HB hb)); clear BK392 BK393 HB; obtain ⟨BK392, BK393, HB⟩ := n_; (try clear hb)))
   go_ret
   exact ⟨hkE, hkS HB⟩
  ·rw [if_neg c11] at H
   have c11b0 : decide (t395 < 0) = false := decide_eq_false c11
   clear c11
   replace H := hBi H
   obtain ⟨t396, A190, H⟩ := H
   replace H : ((laws_toNat.f k l1_0).bind fun t399 => ((spec_NatDiv.f k t396 t399).bind fun bt402 => ((laws_toNat.f k l0_0).bind fun t411 => ((laws_toNat.f k l1_0).bind fun t415 => ((impl_NatDiv.f k t411 t415).bind fun bt419 => ((laws_eqNat.f k bt419.1 bt402.1).bind fun t428 => (if t428 = true then ((laws_eqNat.f k bt419.2.1 bt402.2.1).bind fun t429 => (if t429 = true then (laws_FnExactNatDiv.j0 k bt402.2.2 bt419.2.2 (bt419.2.2 != bt402.2.2) l0_0 l1_0 bt402.1 bt402.2.1 t411 t415 bt419.1 bt419.2.1) else (laws_FnExactNatDiv.j0 k bt402.2.2 bt419.2.2 true l0_0 l1_0 bt402.1 bt402.2.1 t411 t415 bt419.1 bt419.2.1))) else (laws_FnExactNatDiv.j0 k bt402.2.2 bt419.2.2 true l0_0 l1_0 bt402.1 bt402.2.1 t411 t415 bt419.1 bt419.2.1)))))))) = some true := H
   have A19 := Aside0.mk A190
   clear A190
   replace H := hBi H
   obtain ⟨t399, A200, H⟩ := H
   replace H : ((spec_NatDiv.f k t396 t399).bind fun bt402 => ((laws_toNat.f k l0_0).bind fun t411 => ((laws_toNat.f k l1_0).bind fun t415 => ((impl_NatDiv.f k t411 t415).bind fun bt419 => ((laws_eqNat.f k bt419.1 bt402.1).bind fun t428 => (if t428 = true then ((laws_eqNat.f k bt419.2.1 bt402.2.1).bind fun t429 => (if t429 = true then (laws_FnExactNatDiv.j0 k bt402.2.2 bt419.2.2 (bt419.2.2 != bt402.2.2) l0_0 l1_0 bt402.1 bt402.2.1 t411 t415 bt419.1 bt419.2.1) else (laws_FnExactNatDiv.j0 k bt402.2.2 bt419.2.2 true l0_0 l1_0 bt402.1 bt402.2.1 t411 t415 bt419.1 bt419.2.1))) else (laws_FnExactNatDiv.j0 k bt402.2.2 bt419.2.2 true l0_0 l1_0 bt402.1 bt402.2.1 t411 t415 bt419.1 bt419.2.1))))))) = some true := H
   have A20 := Aside0.mk A200
   clear A200
   replace H := hBi H
   obtain ⟨⟨t402, t405, t408⟩, A210, H⟩ := H
   replace H : ((laws_toNat.f k l0_0).bind fun t411 => ((laws_toNat.f k l1_0).bind fun t415 => ((impl_NatDiv.f k t411 t415).bind fun bt419 => ((laws_eqNat.f k bt419.1 t402).bind fun t428 => (if t428 = true then ((laws_eqNat.f k bt419.2.1 t405).bind fun t429 => (if t429 = true then (laws_FnExactNatDiv.j0 k t408 bt419.2.2 (bt419.2.2 != t408) l0_0 l1_0 t402 t405 t411 t415 bt419.1 bt419.2.1) else (laws_FnExactNatDiv.j0 k t408 bt419.2.2 true l0_0 l1_0 t402 t405 t411 t415 bt419.1 bt419.2.1))) else (laws_FnExactNatDiv.j0 k t408 bt419.2.2 true l0_0 l1_0 t402 t405 t411 t415 bt419.1 bt419.2.1)))))) = some true := H
   have A21 := Aside0.mk A210
   clear A210
   replace H := hBi H
   obtain ⟨t411, A220, H⟩ := H
   replace H : ((laws_toNat.f k l1_0).bind fun t415 => ((impl_NatDiv.f k t411 t415).bind fun bt419 => ((laws_eqNat.f k bt419.1 t402).bind fun t428 => (if t428 = true then ((laws_eqNat.f k bt419.2.1 t405).bind fun t429 => (if t429 = true then (laws_FnExactNatDiv.j0 k t408 bt419.2.2 (bt419.2.2 != t408) l0_0 l1_0 t402 t405 t411 t415 bt419.1 bt419.2.1) else (laws_FnExactNatDiv.j0 k t408 bt419.2.2 true l0_0 l1_0 t402 t405 t411 t415 bt419.1 bt419.2.1))) else (laws_FnExactNatDiv.j0 k t408 bt419.2.2 true l0_0 l1_0 t402 t405 t411 t415 bt419.1 bt419.2.1))))) = some true := H
   have A22 := Aside0.mk A220
   clear A220
   replace H := hBi H
   obtain ⟨t415, A230, H⟩ := H
   replace H : ((impl_NatDiv.f k t411 t415).bind fun bt419 => ((laws_eqNat.f k bt419.1 t402).bind fun t428 => (if t428 = true then ((laws_eqNat.f k bt419.2.1 t405).bind fun t429 => (if t429 = true then (laws_FnExactNatDiv.j0 k t408 bt419.2.2 (bt419.2.2 != t408) l0_0 l1_0 t402 t405 t411 t415 bt419.1 bt419.2.1) else (laws_FnExactNatDiv.j0 k t408 bt419.2.2 true l0_0 l1_0 t402 t405 t411 t415 bt419.1 bt419.2.1))) else (laws_FnExactNatDiv.j0 k t408 bt419.2.2 true l0_0 l1_0 t402 t405 t411 t415 bt419.1 bt419.2.1)))) = some true := H
   have A23 := Aside0.mk A230
   clear A230
   replace H := hBi H
   obtain ⟨⟨t419, t422, t425⟩, A240, H⟩ := H
   replace H : ((laws_eqNat.f k t419 t402).bind fun t428 => (if t428 = true then ((laws_eqNat.f k t422 t405).bind fun t429 => (if t429 = true then (laws_FnExactNatDiv.j0 k t408 t425 (t425 != t408) l0_0 l1_0 t402 t405 t411 t415 t419 t422) else (laws_FnExactNatDiv.j0 k t408 t425 true l0_0 l1_0 t402 t405 t411 t415 t419 t422))) else (laws_FnExactNatDiv.j0 k t408 t425 true l0_0 l1_0 t402 t405 t411 t415 t419 t422))) = some true := H
   have A24 := Aside0.mk A240
   clear A240
   have HC25 := Aside0.mk H
   clear H
   go_enter Try.func6, Try.ntmps6
   try go_wp2_with (first | ((with_reducible refine gate_dst (N := 2) rfl ?_); refine hkBox (N := 2) (cs := #[.slice A0_0 l0_0.length c0_0]) (t := 31) ?_; intro gb392 hg w26 hbox hb; have n_ := hkA (hkU HB hb) (hkA (Aside0.mk (hbox)) (hkA (hkG hg (hkS HB)) (hkG hg (hkS HB)))); clear HB; obtain ⟨HB, BK392, GW392, GE392⟩ := n_; clear hb hbox hg) | ((with_reducible refine gate_dst (N := 3) rfl ?_); refine hkBox (N := 3) (cs := #[.slice A1_0 l1_0.length c1_0]) (t := 31) ?_; intro gb393 hg w27 hbox hb; have n_ := hkA (hkBb BK392 hb) (hkA (hkU HB hb) (hkA (Aside0.mk (hbox)) (hkA (hkG hg (hkS HB)) (hkA (hkG hg (hkS HB)) (hkA (hkN hg BK392) (hkM hg BK392)))))); clear BK392 HB; obtain ⟨BK392, HB, BK393, GW393, GE393, NB392_393, NB393_392⟩ := n_; clear hb hbox hg; have hnb28 := NB392_393.out; have hnc28 := NB393_392.out; obtain ⟨hcz29_0, hfz29_0⟩ := hkc1 BK392) | ((with_reducible refine gate_callee (f := 24) rfl ?_); refine hkGo (N := some 22) Try.func24 #[.agg #[.slice A0_0 l0_0.length c0_0], .int .i64 1048576] ?_; (with_reducible refine (laws_szNat.calls _ _ l0_0 1048576 t394 _ ?side1 ?side2 A3.out).mono ?_); (case side1 => exact hkC ((Kd.C_below HR0_0.out HB.out))); (case side2 => exact HC0_0.out); rintro e w30 ⟨rfl, hb⟩; refine ⟨_, rfl, ?_⟩; have n_ := hkA (hkBb BK392 hb) (hkA (hkBb BK393 hb) (hkU HB hb)); clear BK392 BK393 HB; obtain ⟨BK392, BK393, HB⟩ := n_; (try clear hb); obtain ⟨hcz31_0, hfz31_0⟩ := hkc1 BK393) | ((with_reducible refine gate_callee (f := 24) rfl ?_); refine hkGo (N := some 27) Try.func24 #[.agg #[.slice A1_0 l1_0.length c1_0], .int .i64 t394] ?_; (with_reducible refine (laws_szNat.calls _ _ l1_0 t394 t395 _ ?side1 ?side2 A10.out).mono ?_); (case side1 => exact hkC ((Kd.C_below HR1_0.out HB.out))); (case side2 => exact HC1_0.out); rintro e w32 ⟨rfl, hb⟩; refine ⟨_, rfl, ?_⟩; have n_ := hkA (hkBb BK392 hb) (hkA (hkBb BK393 hb) (hkU HB hb)); clear BK392 BK393 HB; obtain ⟨BK392, BK393, HB⟩ := n_; (try clear hb)))
   have n_ := hkA (Aside0.mk (blk_drew BK392.out)) (hkA (Aside0.mk (blk_drew BK393.out)) (Aside0.mk (below_drew1 HB.out)))
   clear BK392 BK393 HB
   obtain ⟨BK392, BK393, HB⟩ := n_
   refine start_ (n := 14) (S := fun w' => w'.cell? ⟨gb392, 0, none⟩ = some (.slice A0_0 l0_0.length c0_0) ∧ w'.cell? ⟨gb393, 0, none⟩ = some (.slice A1_0 l1_0.length c1_0)) (ds := []) #[false, false, false, false, false, false, false, false, false, false, false, false, false, false] (by kernel_rfl) rfl rfl ⟨(blk_cell BK392.out 0).trans rfl, (blk_cell BK393.out 0).trans rfl⟩ (fun hHeld => ?_); refine with_tabW laws_FnExactNatDiv.tab8 laws_FnExactNatDiv.bits8 (fun HT_ HW_ => ?_)
   generalize w32.drew = w33 at BK392 BK393 HB hHeld ⊢
   refine hkTt (i := 0) (N := some 31) HT_ HW_ hHeld ?_ (hy := by rintro w' ⟨s0, s1⟩; go_simp; with_reducible rfl)
   refine hkTt (i := 2) (N := some 33) HT_ HW_ hHeld ?_ (hy := by rintro w' ⟨s0, s1⟩; go_simp; with_reducible rfl)
   refine join_ (σ := Value × Value × Value × Value × Nat × Nat) 3 #[true, true, true, true, true, true, true, true, true, true, true, false, false, false] (fun s_ => [(32, .agg #[s_.1]), (34, .agg #[s_.2.1]), (35, .tuple #[.agg #[s_.2.2.1], .agg #[s_.2.2.2.1], .bool t408]), (6, .pointer (some ⟨s_.2.2.2.2.1, 0, none⟩)), (7, .pointer (some ⟨s_.2.2.2.2.2, 0, none⟩)), (30, .tuple #[.agg #[s_.2.2.1], .agg #[s_.2.2.2.1], .bool t408]), (36, .agg #[s_.2.2.1]), (37, .agg #[s_.2.2.2.1]), (38, .bool t408)]) (fun s_ w' => (w'.cell? ⟨gb392, 0, none⟩ = some (.slice A0_0 l0_0.length c0_0) ∧ w'.cell? ⟨gb393, 0, none⟩ = some (.slice A1_0 l1_0.length c1_0)) ∧ Aside0 (Kd.R (Kd.int .i64) 3 w' w.heap.size (fun k_ => some k_ ≠ (s_.2.1 : Value).ownBlock ∧ some k_ ≠ (s_.2.2.1 : Value).ownBlock ∧ some k_ ≠ (s_.2.2.2.1 : Value).ownBlock) s_.1 t396) ∧ Aside0 (Kd.R (Kd.int .i64) 3 w' w.heap.size (fun k_ => some k_ ≠ (s_.1 : Value).ownBlock ∧ some k_ ≠ (s_.2.2.1 : Value).ownBlock ∧ some k_ ≠ (s_.2.2.2.1 : Value).ownBlock) s_.2.1 t399) ∧ Aside0 (Kd.R (Kd.int .i64) 3 w' w.heap.size (fun k_ => some k_ ≠ (s_.1 : Value).ownBlock ∧ some k_ ≠ (s_.2.1 : Value).ownBlock ∧ some k_ ≠ (s_.2.2.2.1 : Value).ownBlock) s_.2.2.1 t402) ∧ Aside0 (Kd.R (Kd.int .i64) 3 w' w.heap.size (fun k_ => some k_ ≠ (s_.1 : Value).ownBlock ∧ some k_ ≠ (s_.2.1 : Value).ownBlock ∧ some k_ ≠ (s_.2.2.1 : Value).ownBlock) s_.2.2.2.1 t405) ∧ Aside0 (w'.heap[gb392]? = some (.cells #[.slice A0_0 l0_0.length c0_0] 31 (0, 0))) ∧ Aside0 (w'.heap[gb393]? = some (.cells #[.slice A1_0 l1_0.length c1_0] 31 (0, 0))) ∧ Aside0 (w'.heap[s_.2.2.2.2.1]? = some (.cells #[.slice none 0 0] 38 (0, 0))) ∧ Aside0 (w'.heap[s_.2.2.2.2.2]? = some (.cells #[.slice none 0 0] 38 (0, 0))) ∧ Aside0 (w.heap.size ≤ s_.2.2.2.2.1) ∧ Aside0 (w.heap.size ≤ s_.2.2.2.2.1) ∧ Aside0 (gb392 ≠ s_.2.2.2.2.1) ∧ Aside0 (s_.2.2.2.2.1 ≠ gb392) ∧ Aside0 (gb393 ≠ s_.2.2.2.2.1) ∧ Aside0 (s_.2.2.2.2.1 ≠ gb393) ∧ Aside0 (s_.2.2.2.2.2 ≠ s_.2.2.2.2.1) ∧ Aside0 (s_.2.2.2.2.1 ≠ s_.2.2.2.2.2) ∧ Aside0 (w.heap.size ≤ s_.2.2.2.2.2) ∧ Aside0 (w.heap.size ≤ s_.2.2.2.2.2) ∧ Aside0 (gb392 ≠ s_.2.2.2.2.2) ∧ Aside0 (s_.2.2.2.2.2 ≠ gb392) ∧ Aside0 (gb393 ≠ s_.2.2.2.2.2) ∧ Aside0 (s_.2.2.2.2.2 ≠ gb393) ∧ Aside0 (Below w.heap.size w w')) ?_ ?_
   rotate_left
   ·intro hJ1_3_4_9_10
    refine laws_FnExactNatDiv.nest8 (k := k) (fun _ _ _ _ _ h => h) ⟨Kd.C_below HR0_0.out HB.out⟩ HC0_0 ⟨Kd.C_below HR1_0.out HB.out⟩ HC1_0 A19 A20 A21 BK392 BK393 hHeld HT_ HW_ ?_
    rintro ⟨v397, v400, v403, v406, gb409, gb410⟩ W' h_
    dsimp only at h_
    obtain ⟨fhHeld, fHO398, fHO401, fHO404, fHO407, fBK392, fBK393, fBK409, fBK410, fGW409, fGE409, fNB392_409, fNB409_392, fNB393_409, fNB409_393, fNB410_409, fNB409_410, fGW410, fGE410, fNB392_410, fNB410_392, fNB393_410, fNB410_393, fHB⟩ := h_
    have hb := fHB.out
    have hsz : w.heap.size ≤ w33.heap.size := below_size HB.out
    exact hJ1_3_4_9_10 (v397, v400, v403, v406, gb409, gb410) W' ⟨fhHeld, ⟨Kd.R_lower fHO398.out hsz⟩, ⟨Kd.R_lower fHO401.out hsz⟩, ⟨Kd.R_lower fHO404.out hsz⟩, ⟨Kd.R_lower fHO407.out hsz⟩, ⟨blk_below BK392.out hb⟩, ⟨blk_below BK393.out hb⟩, fBK409, fBK410, ⟨Nat.le_trans hsz fGW409.out⟩, ⟨Nat.le_trans hsz fGW409.out⟩, ⟨Nat.ne_of_lt (Nat.lt_of_lt_of_le (blk_lt BK392.out) fGW409.out)⟩, ⟨Nat.ne_of_gt (Nat.lt_of_lt_of_le (blk_lt BK392.out) fGW409.out)⟩, ⟨Nat.ne_of_lt (Nat.lt_of_lt_of_le (blk_lt BK393.out) fGW409.out)⟩, ⟨Nat.ne_of_gt (Nat.lt_of_lt_of_le (blk_lt BK393.out) fGW409.out)⟩, fNB410_409, fNB409_410, ⟨Nat.le_trans hsz fGW410.out⟩, ⟨Nat.le_trans hsz fGW410.out⟩, ⟨Nat.ne_of_lt (Nat.lt_of_lt_of_le (blk_lt BK392.out) fGW410.out)⟩, ⟨Nat.ne_of_gt (Nat.lt_of_lt_of_le (blk_lt BK392.out) fGW410.out)⟩, ⟨Nat.ne_of_lt (Nat.lt_of_lt_of_le (blk_lt BK393.out) fGW410.out)⟩, ⟨Nat.ne_of_gt (Nat.lt_of_lt_of_le (blk_lt BK393.out) fGW410.out)⟩, ⟨below_step HB.out hb⟩⟩
   clear BK392 BK393 HB
   rintro ⟨v397, v400, v403, v406, gb409, gb410⟩ w41 h_
   dsimp only at h_
   obtain ⟨hHeld, HO398, HO401, HO404, HO407, BK392, BK393, BK409, BK410, GW409, GE409, NB392_409, NB409_392, NB393_409, NB409_393, NB410_409, NB409_410, GW410, GE410, NB392_410, NB410_392, NB393_410, NB410_393, HB⟩ := h_
   obtain ⟨Ao42, co42, eo42⟩ := Kd.R_slice HO404.out
   (first | subst eo42 | (injection eo42 with f1_ f2_ f3_; have f4_ := f1_.symm; have f5_ := f3_.symm; clear f1_ f2_ f3_; subst f4_; subst f5_))
   obtain ⟨Ao44, co44, eo44⟩ := Kd.R_slice HO407.out
   (first | subst eo44 | (injection eo44 with f1_ f2_ f3_; have f4_ := f1_.symm; have f5_ := f3_.symm; clear f1_ f2_ f3_; subst f4_; subst f5_))
   refine hkNp ?_
   refine one_ (i := 11) (N := none) #[true, true, true, true, true, true, true, true, true, true, true, true, false, false] rfl rfl (one_of HT_.out (by kernel_rfl)) (by decide) (fun K hK => ?_)
   have hs43 : w41.cell? ⟨gb409, 0, none⟩ = some (.slice none 0 0) := (blk_cell BK409.out 0).trans rfl
   have hfs43 := blk_frozen BK409.out 0
   have hns43_0 := NB392_409.out
   have hns43_1 := NB393_409.out
   have hns43_3 := NB410_409.out
   have hms43_0 := NB409_392.out
   have hms43_1 := NB409_393.out
   have hms43_3 := NB409_410.out
   refine skip_ (w1 := ?_) (by rfl) rfl ?_ ?_
   rotate_left
   ·go_simp
    rfl
   refine hK.out _ _ ⟨((cell_far (p := ⟨gb409, _, none⟩) NB392_409.out _).trans (hHeld.1)), ((cell_far (p := ⟨gb409, _, none⟩) NB393_409.out _).trans (hHeld.2))⟩ (fun hHeld => ?_)
   clear hK K
   refine one_ (i := 12) (N := none) #[true, true, true, true, true, true, true, true, true, true, true, true, true, false] rfl rfl (one_of HT_.out (by kernel_rfl)) (by decide) (fun K hK => ?_)
   have hs45 : w41.cell? ⟨gb410, 0, none⟩ = some (.slice none 0 0) := (blk_cell BK410.out 0).trans rfl
   have hfs45 := blk_frozen BK410.out 0
   have hns45_0 := NB392_410.out
   have hns45_1 := NB393_410.out
   have hns45_2 := NB409_410.out
   have hms45_0 := NB410_392.out
   have hms45_1 := NB410_393.out
   have hms45_2 := NB410_409.out
   refine skip_ (w1 := ?_) (by rfl) rfl ?_ ?_
   rotate_left
   ·go_simp
    rfl
   refine hK.out _ _ ⟨((cell_far (p := ⟨gb410, _, none⟩) NB392_410.out _).trans (hHeld.1)), ((cell_far (p := ⟨gb410, _, none⟩) NB393_410.out _).trans (hHeld.2))⟩ (fun hHeld => ?_)
   clear hK K
   refine hkPt (i := 13) (N := some 8) HT_ ?_
   refine done_ (done_of HT_.out (by kernel_rfl)) ?_
   have hnb46 := NB392_409.out
   have hnc46 := NB409_392.out
   have hnb47 := NB392_410.out
   have hnc47 := NB410_392.out
   obtain ⟨hcz48_0, hfz48_0⟩ := hkc1 BK392
   go_upto_region 12 with (first | ((with_reducible refine gate_callee (f := 26) rfl ?_); refine hkGo (N := some 40) Try.func26 #[.agg #[.slice A0_0 l0_0.length c0_0]] ?_; (with_reducible refine (laws_toNat.calls k _ _ l0_0 t411 _ ?side1 ?side2 A22.out).mono ?_); (case side1 => exact Kd.C_below HR0_0.out (hkS HB)); (case side2 => exact HC0_0.out); rintro e w49 ⟨v412, rfl, ho0, hb⟩; refine ⟨_, rfl, ?_⟩; have n_ := hkA (Aside0.mk (Kd.R_elder' (by (with_reducible repeat (first | apply Kd.R_alloc | apply Kd.R_drewN | apply Kd.R_drew)); exact (Kd.R_mono (Kd.R_mono (Kd.R_far (p := ⟨gb410, 0, none⟩) (Kd.R_far (p := ⟨gb409, 0, none⟩) (Kd.R_types (Kd.R_types HO398.out BK409.out (by decide)) BK410.out (by decide)) (fun _ hk => hk.1.2) (.slice Ao42 t402.length co42)) (fun _ hk => hk.2) (.slice Ao44 t405.length co44)) (fun _ h_ => h_.1)) (fun _ h_ => h_.1))) (Kd.R_base ho0) hb)) (hkA (Aside0.mk (Kd.R_elder' (by (with_reducible repeat (first | apply Kd.R_alloc | apply Kd.R_drewN | apply Kd.R_drew)); exact (Kd.R_mono (Kd.R_mono (Kd.R_far (p := ⟨gb410, 0, none⟩) (Kd.R_far (p := ⟨gb409, 0, none⟩) (Kd.R_types (Kd.R_types HO401.out BK409.out (by decide)) BK410.out (by decide)) (fun _ hk => hk.1.2) (.slice Ao42 t402.length co42)) (fun _ hk => hk.2) (.slice Ao44 t405.length co44)) (fun _ h_ => h_.1)) (fun _ h_ => h_.1))) (Kd.R_base ho0) hb)) (hkA (Aside0.mk (Kd.R_elder' (by (with_reducible repeat (first | apply Kd.R_alloc | apply Kd.R_drewN | apply Kd.R_drew)); exact (Kd.R_mono (Kd.R_mono (Kd.R_far (p := ⟨gb410, 0, none⟩) (Kd.R_far (p := ⟨gb409, 0, none⟩) (Kd.R_types (Kd.R_types HO404.out BK409.out (by decide)) BK410.out (by decide)) (fun _ hk => hk.1.2) (.slice Ao42 t402.length co42)) (fun _ hk => hk.2) (.slice Ao44 t405.length co44)) (fun _ h_ => h_.1)) (fun _ h_ => h_.1))) (Kd.R_base ho0) hb)) (hkA (Aside0.mk (Kd.R_elder' (by (with_reducible repeat (first | apply Kd.R_alloc | apply Kd.R_drewN | apply Kd.R_drew)); exact (Kd.R_mono (Kd.R_mono (Kd.R_far (p := ⟨gb410, 0, none⟩) (Kd.R_far (p := ⟨gb409, 0, none⟩) (Kd.R_types (Kd.R_types HO407.out BK409.out (by decide)) BK410.out (by decide)) (fun _ hk => hk.1.2) (.slice Ao42 t402.length co42)) (fun _ hk => hk.2) (.slice Ao44 t405.length co44)) (fun _ h_ => h_.1)) (fun _ h_ => h_.1))) (Kd.R_base ho0) hb)) (hkA (Aside0.mk (Kd.R_lower (Kd.R_new' (Kd.R_new' (Kd.R_new' (Kd.R_new' ho0 (Kd.R_lt (by (with_reducible repeat (first | apply Kd.R_alloc | apply Kd.R_drewN | apply Kd.R_drew)); exact (Kd.R_mono (Kd.R_mono (Kd.R_far (p := ⟨gb410, 0, none⟩) (Kd.R_far (p := ⟨gb409, 0, none⟩) (Kd.R_types (Kd.R_types HO398.out BK409.out (by decide)) BK410.out (by decide)) (fun _ hk => hk.1.2) (.slice Ao42 t402.length co42)) (fun _ hk => hk.2) (.slice Ao44 t405.length co44)) (fun _ h_ => h_.1)) (fun _ h_ => h_.1))))) (Kd.R_lt (by (with_reducible repeat (first | apply Kd.R_alloc | apply Kd.R_drewN | apply Kd.R_drew)); exact (Kd.R_mono (Kd.R_mono (Kd.R_far (p := ⟨gb410, 0, none⟩) (Kd.R_far (p := ⟨gb409, 0, none⟩) (Kd.R_types (Kd.R_types HO401.out BK409.out (by decide)) BK410.out (by decide)) (fun _ hk => hk.1.2) (.slice Ao42 t402.length co42)) (fun _ hk => hk.2) (.slice Ao44 t405.length co44)) (fun _ h_ => h_.1)) (fun _ h_ => h_.1))))) (Kd.R_lt (by (with_reducible repeat (first | apply Kd.R_alloc | apply Kd.R_drewN | apply Kd.R_drew)); exact (Kd.R_mono (Kd.R_mono (Kd.R_far (p := ⟨gb410, 0, none⟩) (Kd.R_far (p := ⟨gb409, 0, none⟩) (Kd.R_types (Kd.R_types HO404.out BK409.out (by decide)) BK410.out (by decide)) (fun _ hk => hk.1.2) (.slice Ao42 t402.length co42)) (fun _ hk => hk.2) (.slice Ao44 t405.length co44)) (fun _ h_ => h_.1)) (fun _ h_ => h_.1))))) (Kd.R_lt (by (with_reducible repeat (first | apply Kd.R_alloc | apply Kd.R_drewN | apply Kd.R_drew)); exact (Kd.R_mono (Kd.R_mono (Kd.R_far (p := ⟨gb410, 0, none⟩) (Kd.R_far (p := ⟨gb409, 0, none⟩) (Kd.R_types (Kd.R_types HO407.out BK409.out (by decide)) BK410.out (by decide)) (fun _ hk => hk.1.2) (.slice Ao42 t402.length co42)) (fun _ hk => hk.2) (.slice Ao44 t405.length co44)) (fun _ h_ => h_.1)) (fun _ h_ => h_.1))))) (below_size (hkS HB)))) (hkA (Aside0.mk (blk_below (g := gb392) (o := .cells #[.slice A0_0 l0_0.length c0_0] 31 (0, 0)) hkPp hb)) (hkA (Aside0.mk (blk_below (g := gb393) (o := .cells #[.slice A1_0 l1_0.length c1_0] 31 (0, 0)) hkPp hb)) (hkA (Aside0.mk (blk_below (g := gb409) (o := .cells #[.slice Ao42 t402.length co42] 38 (0, 0)) hkPp hb)) (hkA (Aside0.mk (blk_below (g := gb410) (o := .cells #[.slice Ao44 t405.length co44] 38 (0, 0)) hkPp hb)) (hkU HB hb))))))))); clear HO398 HO401 HO404 HO407 BK392 BK393 BK409 BK410 HB; obtain ⟨HO398, HO401, HO404, HO407, HO413, BK392, BK393, BK409, BK410, HB⟩ := n_; (try clear hb); (try clear hk); (try clear ho0)) | ((with_reducible refine gate_dst (N := 9) rfl ?_); refine hkBox (N := 9) (cs := #[.slice none 0 0]) (t := 38) ?_; intro gb414 hg w50 hbox hb; have n_ := hkA (hkRb HO398 hb) (hkA (hkRb HO401 hb) (hkA (hkRb HO404 hb) (hkA (hkRb HO407 hb) (hkA (hkRb HO413 hb) (hkA (hkBb BK392 hb) (hkA (hkBb BK393 hb) (hkA (hkBb BK409 hb) (hkA (hkBb BK410 hb) (hkA (hkU HB hb) (hkA (Aside0.mk (hbox)) (hkA (hkG hg (hkS HB)) (hkA (hkG hg (hkS HB)) (hkA (hkN hg BK392) (hkA (hkM hg BK392) (hkA (hkN hg BK393) (hkA (hkM hg BK393) (hkA (hkN hg BK409) (hkA (hkM hg BK409) (hkA (hkN hg BK410) (hkM hg BK410)))))))))))))))))))); clear HO398 HO401 HO404 HO407 HO413 BK392 BK393 BK409 BK410 HB; obtain ⟨HO398, HO401, HO404, HO407, HO413, BK392, BK393, BK409, BK410, HB, BK414, GW414, GE414, NB392_414, NB414_392, NB393_414, NB414_393, NB409_414, NB414_409, NB410_414, NB414_410⟩ := n_; clear hb hbox hg; obtain ⟨Ao51, co51, eo51⟩ := Kd.R_slice HO413.out; subst eo51; have hnb52 := NB414_392.out; have hnc52 := NB392_414.out; have hnb53 := NB414_393.out; have hnc53 := NB393_414.out; have hnb54 := NB414_409.out; have hnc54 := NB409_414.out; have hnb55 := NB414_410.out; have hnc55 := NB410_414.out; obtain ⟨hcz56_0, hfz56_0⟩ := hkc1 BK414; have hnb57 := NB393_409.out; have hnc57 := NB409_393.out; have hnb58 := NB393_410.out; have hnc58 := NB410_393.out; obtain ⟨hcz59_0, hfz59_0⟩ := hkc1 BK393) | ((with_reducible refine gate_callee (f := 26) rfl ?_); refine hkGo (N := some 42) Try.func26 #[.agg #[.slice A1_0 l1_0.length c1_0]] ?_; (with_reducible refine (laws_toNat.calls k _ _ l1_0 t415 _ ?side1 ?side2 A23.out).mono ?_); (case side1 => exact Kd.C_below HR1_0.out (hkS HB)); (case side2 => exact HC1_0.out); rintro e w60 ⟨v416, rfl, ho0, hb⟩; refine ⟨_, rfl, ?_⟩; have n_ := hkA (Aside0.mk (Kd.R_elder' (by (with_reducible repeat (first | apply Kd.R_alloc | apply Kd.R_drewN | apply Kd.R_drew)); exact (Kd.R_mono (Kd.R_far (p := ⟨gb414, 0, none⟩) (Kd.R_types HO398.out BK414.out (by decide)) (fun _ hk => hk.2) (.slice Ao51 t411.length co51)) (fun _ h_ => h_.1))) (Kd.R_base ho0) hb)) (hkA (Aside0.mk (Kd.R_elder' (by (with_reducible repeat (first | apply Kd.R_alloc | apply Kd.R_drewN | apply Kd.R_drew)); exact (Kd.R_mono (Kd.R_far (p := ⟨gb414, 0, none⟩) (Kd.R_types HO401.out BK414.out (by decide)) (fun _ hk => hk.2) (.slice Ao51 t411.length co51)) (fun _ h_ => h_.1))) (Kd.R_base ho0) hb)) (hkA (Aside0.mk (Kd.R_elder' (by (with_reducible repeat (first | apply Kd.R_alloc | apply Kd.R_drewN | apply Kd.R_drew)); exact (Kd.R_mono (Kd.R_far (p := ⟨gb414, 0, none⟩) (Kd.R_types HO404.out BK414.out (by decide)) (fun _ hk => hk.2) (.slice Ao51 t411.length co51)) (fun _ h_ => h_.1))) (Kd.R_base ho0) hb)) (hkA (Aside0.mk (Kd.R_elder' (by (with_reducible repeat (first | apply Kd.R_alloc | apply Kd.R_drewN | apply Kd.R_drew)); exact (Kd.R_mono (Kd.R_far (p := ⟨gb414, 0, none⟩) (Kd.R_types HO407.out BK414.out (by decide)) (fun _ hk => hk.2) (.slice Ao51 t411.length co51)) (fun _ h_ => h_.1))) (Kd.R_base ho0) hb)) (hkA (Aside0.mk (Kd.R_elder' (by (with_reducible repeat (first | apply Kd.R_alloc | apply Kd.R_drewN | apply Kd.R_drew)); exact (Kd.R_mono (Kd.R_far (p := ⟨gb414, 0, none⟩) (Kd.R_types HO413.out BK414.out (by decide)) (fun _ hk => hk.2) (.slice Ao51 t411.length co51)) (fun _ h_ => h_.1))) (Kd.R_base ho0) hb)) (hkA (Aside0.mk (Kd.R_lower (Kd.R_new' (Kd.R_new' (Kd.R_new' (Kd.R_new' (Kd.R_new' ho0 (Kd.R_lt (by (with_reducible repeat (first | apply Kd.R_alloc | apply Kd.R_drewN | apply Kd.R_drew)); exact (Kd.R_mono (Kd.R_far (p := ⟨gb414, 0, none⟩) (Kd.R_types HO398.out BK414.out (by decide)) (fun _ hk => hk.2) (.slice Ao51 t411.length co51)) (fun _ h_ => h_.1))))) (Kd.R_lt (by (with_reducible repeat (first | apply Kd.R_alloc | apply Kd.R_drewN | apply Kd.R_drew)); exact (Kd.R_mono (Kd.R_far (p := ⟨gb414, 0, none⟩) (Kd.R_types HO401.out BK414.out (by decide)) (fun _ hk => hk.2) (.slice Ao51 t411.length co51)) (fun _ h_ => h_.1))))) (Kd.R_lt (by (with_reducible repeat (first | apply Kd.R_alloc | apply Kd.R_drewN | apply Kd.R_drew)); exact (Kd.R_mono (Kd.R_far (p := ⟨gb414, 0, none⟩) (Kd.R_types HO404.out BK414.out (by decide)) (fun _ hk => hk.2) (.slice Ao51 t411.length co51)) (fun _ h_ => h_.1))))) (Kd.R_lt (by (with_reducible repeat (first | apply Kd.R_alloc | apply Kd.R_drewN | apply Kd.R_drew)); exact (Kd.R_mono (Kd.R_far (p := ⟨gb414, 0, none⟩) (Kd.R_types HO407.out BK414.out (by decide)) (fun _ hk => hk.2) (.slice Ao51 t411.length co51)) (fun _ h_ => h_.1))))) (Kd.R_lt (by (with_reducible repeat (first | apply Kd.R_alloc | apply Kd.R_drewN | apply Kd.R_drew)); exact (Kd.R_mono (Kd.R_far (p := ⟨gb414, 0, none⟩) (Kd.R_types HO413.out BK414.out (by decide)) (fun _ hk => hk.2) (.slice Ao51 t411.length co51)) (fun _ h_ => h_.1))))) (below_size (hkS HB)))) (hkA (Aside0.mk (blk_below (g := gb392) (o := .cells #[.slice A0_0 l0_0.length c0_0] 31 (0, 0)) hkPp hb)) (hkA (Aside0.mk (blk_below (g := gb393) (o := .cells #[.slice A1_0 l1_0.length c1_0] 31 (0, 0)) hkPp hb)) (hkA (Aside0.mk (blk_below (g := gb409) (o := .cells #[.slice Ao42 t402.length co42] 38 (0, 0)) hkPp hb)) (hkA (Aside0.mk (blk_below (g := gb410) (o := .cells #[.slice Ao44 t405.length co44] 38 (0, 0)) hkPp hb)) (hkA (Aside0.mk (blk_below (g := gb414) (o := .cells #[.slice Ao51 t411.length co51] 38 (0, 0)) hkPp hb)) (hkU HB hb))))))))))); clear HO398 HO401 HO404 HO407 HO413 BK392 BK393 BK409 BK410 BK414 HB; obtain ⟨HO398, HO401, HO404, HO407, HO413, HO417, BK392, BK393, BK409, BK410, BK414, HB⟩ := n_; (try clear hb); (try clear hk); (try clear ho0)) | ((with_reducible refine gate_dst (N := 10) rfl ?_); refine hkBox (N := 10) (cs := #[.slice none 0 0]) (t := 38) ?_; intro gb418 hg w61 hbox hb; have n_ := hkA (hkRb HO398 hb) (hkA (hkRb HO401 hb) (hkA (hkRb HO404 hb) (hkA (hkRb HO407 hb) (hkA (hkRb HO413 hb) (hkA (hkRb HO417 hb) (hkA (hkBb BK392 hb) (hkA (hkBb BK393 hb) (hkA (hkBb BK409 hb) (hkA (hkBb BK410 hb) (hkA (hkBb BK414 hb) (hkA (hkU HB hb) (hkA (Aside0.mk (hbox)) (hkA (hkG hg (hkS HB)) (hkA (hkG hg (hkS HB)) (hkA (hkN hg BK392) (hkA (hkM hg BK392) (hkA (hkN hg BK393) (hkA (hkM hg BK393) (hkA (hkN hg BK409) (hkA (hkM hg BK409) (hkA (hkN hg BK410) (hkA (hkM hg BK410) (hkA (hkN hg BK414) (hkM hg BK414)))))))))))))))))))))))); clear HO398 HO401 HO404 HO407 HO413 HO417 BK392 BK393 BK409 BK410 BK414 HB; obtain ⟨HO398, HO401, HO404, HO407, HO413, HO417, BK392, BK393, BK409, BK410, BK414, HB, BK418, GW418, GE418, NB392_418, NB418_392, NB393_418, NB418_393, NB409_418, NB418_409, NB410_418, NB418_410, NB414_418, NB418_414⟩ := n_; clear hb hbox hg; obtain ⟨Ao62, co62, eo62⟩ := Kd.R_slice HO417.out; subst eo62; have hnb63 := NB418_392.out; have hnc63 := NB392_418.out; have hnb64 := NB418_393.out; have hnc64 := NB393_418.out; have hnb65 := NB418_409.out; have hnc65 := NB409_418.out; have hnb66 := NB418_410.out; have hnc66 := NB410_418.out; have hnb67 := NB418_414.out; have hnc67 := NB414_418.out; obtain ⟨hcz68_0, hfz68_0⟩ := hkc1 BK418; obtain ⟨hcz69_0, hfz69_0⟩ := hkc1 BK414) | ((with_reducible refine gate_callee (f := 23) rfl ?_); refine hkGo (N := some 46) Try.func23 #[.agg #[.slice Ao51 t411.length co51], .agg #[.slice Ao62 t415.length co62]] ?_; (with_reducible refine (impl_NatDiv.calls k _ _ t411 _ _ t415 t419 t422 t425 _ ?side1 ?side2 ?side3 ?side4 A24.out).mono ?_); (case side1 => refine (Kd.R_reads' (e := 3) (base := w.heap.size) (ok := fun k_ => (((((True ∧ some k_ ≠ (v397 : Value).ownBlock) ∧ some k_ ≠ (v400 : Value).ownBlock) ∧ some k_ ≠ (.slice Ao42 t402.length co42 : Value).ownBlock) ∧ some k_ ≠ (.slice Ao44 t405.length co44 : Value).ownBlock) ∧ some k_ ≠ (.slice Ao62 t415.length co62 : Value).ownBlock)) (n := t411.length) (c := co51) ?_).2.2; exact (by (with_reducible repeat (first | apply Kd.R_alloc | apply Kd.R_drewN | apply Kd.R_drew)); exact (Kd.R_mono (Kd.R_far (p := ⟨gb418, 0, none⟩) (Kd.R_types HO413.out BK418.out (by decide)) (fun _ hk => hk.2) (.slice Ao62 t415.length co62)) (fun _ h_ => h_.1)))); (case side2 => exact (Kd.R_reads' HO413.out).2.1); (case side3 => refine (Kd.R_reads' (e := 3) (base := w.heap.size) (ok := fun k_ => (((((True ∧ some k_ ≠ (v397 : Value).ownBlock) ∧ some k_ ≠ (v400 : Value).ownBlock) ∧ some k_ ≠ (.slice Ao42 t402.length co42 : Value).ownBlock) ∧ some k_ ≠ (.slice Ao44 t405.length co44 : Value).ownBlock) ∧ some k_ ≠ (.slice Ao51 t411.length co51 : Value).ownBlock)) (n := t415.length) (c := co62) ?_).2.2; exact (by (with_reducible repeat (first | apply Kd.R_alloc | apply Kd.R_drewN | apply Kd.R_drew)); exact (Kd.R_mono (Kd.R_far (p := ⟨gb418, 0, none⟩) (Kd.R_types HO417.out BK418.out (by decide)) (fun _ hk => hk.2) (.slice Ao62 t415.length co62)) (fun _ h_ => h_.1)))); (case side4 => exact (Kd.R_reads' HO417.out).2.1); rintro e w70 ⟨v420, v423, rfl, ho0, ho1, hb⟩; refine ⟨_, rfl, ?_⟩; have n_ := hkA (Aside0.mk (Kd.R_mono (Kd.R_told (Kd.R_told (Kd.R_old (by (with_reducible repeat (first | apply Kd.R_alloc | apply Kd.R_drewN | apply Kd.R_drew)); exact (Kd.R_mono (Kd.R_far (p := ⟨gb418, 0, none⟩) (Kd.R_types HO398.out BK418.out (by decide)) (fun _ hk => hk.2) (.slice Ao62 t415.length co62)) (fun _ h_ => h_.1))) hb) (Kd.R_base ho0)) (Kd.R_base ho1)) (fun _ h_ => h_.1))) (hkA (Aside0.mk (Kd.R_mono (Kd.R_told (Kd.R_told (Kd.R_old (by (with_reducible repeat (first | apply Kd.R_alloc | apply Kd.R_drewN | apply Kd.R_drew)); exact (Kd.R_mono (Kd.R_far (p := ⟨gb418, 0, none⟩) (Kd.R_types HO401.out BK418.out (by decide)) (fun _ hk => hk.2) (.slice Ao62 t415.length co62)) (fun _ h_ => h_.1))) hb) (Kd.R_base ho0)) (Kd.R_base ho1)) (fun _ h_ => h_.1))) (hkA (Aside0.mk (Kd.R_mono (Kd.R_told (Kd.R_told (Kd.R_old (by (with_reducible repeat (first | apply Kd.R_alloc | apply Kd.R_drewN | apply Kd.R_drew)); exact (Kd.R_mono (Kd.R_far (p := ⟨gb418, 0, none⟩) (Kd.R_types HO404.out BK418.out (by decide)) (fun _ hk => hk.2) (.slice Ao62 t415.length co62)) (fun _ h_ => h_.1))) hb) (Kd.R_base ho0)) (Kd.R_base ho1)) (fun _ h_ => h_.1))) (hkA (Aside0.mk (Kd.R_mono (Kd.R_told (Kd.R_told (Kd.R_old (by (with_reducible repeat (first | apply Kd.R_alloc | apply Kd.R_drewN | apply Kd.R_drew)); exact (Kd.R_mono (Kd.R_far (p := ⟨gb418, 0, none⟩) (Kd.R_types HO407.out BK418.out (by decide)) (fun _ hk => hk.2) (.slice Ao62 t415.length co62)) (fun _ h_ => h_.1))) hb) (Kd.R_base ho0)) (Kd.R_base ho1)) (fun _ h_ => h_.1))) (hkA (Aside0.mk (Kd.R_mono (Kd.R_told (Kd.R_told (Kd.R_old (by (with_reducible repeat (first | apply Kd.R_alloc | apply Kd.R_drewN | apply Kd.R_drew)); exact (Kd.R_mono (Kd.R_far (p := ⟨gb418, 0, none⟩) (Kd.R_types HO413.out BK418.out (by decide)) (fun _ hk => hk.2) (.slice Ao62 t415.length co62)) (fun _ h_ => h_.1))) hb) (Kd.R_base ho0)) (Kd.R_base ho1)) (fun _ h_ => h_.1))) (hkA (Aside0.mk (Kd.R_mono (Kd.R_told (Kd.R_told (Kd.R_old (by (with_reducible repeat (first | apply Kd.R_alloc | apply Kd.R_drewN | apply Kd.R_drew)); exact (Kd.R_mono (Kd.R_far (p := ⟨gb418, 0, none⟩) (Kd.R_types HO417.out BK418.out (by decide)) (fun _ hk => hk.2) (.slice Ao62 t415.length co62)) (fun _ h_ => h_.1))) hb) (Kd.R_base ho0)) (Kd.R_base ho1)) (fun _ h_ => h_.1))) (hkA (Aside0.mk (Kd.R_lower (Kd.R_new' (Kd.R_new' (Kd.R_new' (Kd.R_new' (Kd.R_new' (Kd.R_new' ho0 (Kd.R_lt (by (with_reducible repeat (first | apply Kd.R_alloc | apply Kd.R_drewN | apply Kd.R_drew)); exact (Kd.R_mono (Kd.R_far (p := ⟨gb418, 0, none⟩) (Kd.R_types HO398.out BK418.out (by decide)) (fun _ hk => hk.2) (.slice Ao62 t415.length co62)) (fun _ h_ => h_.1))))) (Kd.R_lt (by (with_reducible repeat (first | apply Kd.R_alloc | apply Kd.R_drewN | apply Kd.R_drew)); exact (Kd.R_mono (Kd.R_far (p := ⟨gb418, 0, none⟩) (Kd.R_types HO401.out BK418.out (by decide)) (fun _ hk => hk.2) (.slice Ao62 t415.length co62)) (fun _ h_ => h_.1))))) (Kd.R_lt (by (with_reducible repeat (first | apply Kd.R_alloc | apply Kd.R_drewN | apply Kd.R_drew)); exact (Kd.R_mono (Kd.R_far (p := ⟨gb418, 0, none⟩) (Kd.R_types HO404.out BK418.out (by decide)) (fun _ hk => hk.2) (.slice Ao62 t415.length co62)) (fun _ h_ => h_.1))))) (Kd.R_lt (by (with_reducible repeat (first | apply Kd.R_alloc | apply Kd.R_drewN | apply Kd.R_drew)); exact (Kd.R_mono (Kd.R_far (p := ⟨gb418, 0, none⟩) (Kd.R_types HO407.out BK418.out (by decide)) (fun _ hk => hk.2) (.slice Ao62 t415.length co62)) (fun _ h_ => h_.1))))) (Kd.R_lt (by (with_reducible repeat (first | apply Kd.R_alloc | apply Kd.R_drewN | apply Kd.R_drew)); exact (Kd.R_mono (Kd.R_far (p := ⟨gb418, 0, none⟩) (Kd.R_types HO413.out BK418.out (by decide)) (fun _ hk => hk.2) (.slice Ao62 t415.length co62)) (fun _ h_ => h_.1))))) (Kd.R_lt (by (with_reducible repeat (first | apply Kd.R_alloc | apply Kd.R_drewN | apply Kd.R_drew)); exact (Kd.R_mono (Kd.R_far (p := ⟨gb418, 0, none⟩) (Kd.R_types HO417.out BK418.out (by decide)) (fun _ hk => hk.2) (.slice Ao62 t415.length co62)) (fun _ h_ => h_.1))))) (below_size (hkS HB)))) (hkA (Aside0.mk (Kd.R_lower (Kd.R_new' (Kd.R_new' (Kd.R_new' (Kd.R_new' (Kd.R_new' (Kd.R_new' ho1 (Kd.R_lt (by (with_reducible repeat (first | apply Kd.R_alloc | apply Kd.R_drewN | apply Kd.R_drew)); exact (Kd.R_mono (Kd.R_far (p := ⟨gb418, 0, none⟩) (Kd.R_types HO398.out BK418.out (by decide)) (fun _ hk => hk.2) (.slice Ao62 t415.length co62)) (fun _ h_ => h_.1))))) (Kd.R_lt (by (with_reducible repeat (first | apply Kd.R_alloc | apply Kd.R_drewN | apply Kd.R_drew)); exact (Kd.R_mono (Kd.R_far (p := ⟨gb418, 0, none⟩) (Kd.R_types HO401.out BK418.out (by decide)) (fun _ hk => hk.2) (.slice Ao62 t415.length co62)) (fun _ h_ => h_.1))))) (Kd.R_lt (by (with_reducible repeat (first | apply Kd.R_alloc | apply Kd.R_drewN | apply Kd.R_drew)); exact (Kd.R_mono (Kd.R_far (p := ⟨gb418, 0, none⟩) (Kd.R_types HO404.out BK418.out (by decide)) (fun _ hk => hk.2) (.slice Ao62 t415.length co62)) (fun _ h_ => h_.1))))) (Kd.R_lt (by (with_reducible repeat (first | apply Kd.R_alloc | apply Kd.R_drewN | apply Kd.R_drew)); exact (Kd.R_mono (Kd.R_far (p := ⟨gb418, 0, none⟩) (Kd.R_types HO407.out BK418.out (by decide)) (fun _ hk => hk.2) (.slice Ao62 t415.length co62)) (fun _ h_ => h_.1))))) (Kd.R_lt (by (with_reducible repeat (first | apply Kd.R_alloc | apply Kd.R_drewN | apply Kd.R_drew)); exact (Kd.R_mono (Kd.R_far (p := ⟨gb418, 0, none⟩) (Kd.R_types HO413.out BK418.out (by decide)) (fun _ hk => hk.2) (.slice Ao62 t415.length co62)) (fun _ h_ => h_.1))))) (Kd.R_lt (by (with_reducible repeat (first | apply Kd.R_alloc | apply Kd.R_drewN | apply Kd.R_drew)); exact (Kd.R_mono (Kd.R_far (p := ⟨gb418, 0, none⟩) (Kd.R_types HO417.out BK418.out (by decide)) (fun _ hk => hk.2) (.slice Ao62 t415.length co62)) (fun _ h_ => h_.1))))) (below_size (hkS HB)))) (hkA (Aside0.mk (blk_below (g := gb392) (o := .cells #[.slice A0_0 l0_0.length c0_0] 31 (0, 0)) hkPp hb)) (hkA (Aside0.mk (blk_below (g := gb393) (o := .cells #[.slice A1_0 l1_0.length c1_0] 31 (0, 0)) hkPp hb)) (hkA (Aside0.mk (blk_below (g := gb409) (o := .cells #[.slice Ao42 t402.length co42] 38 (0, 0)) hkPp hb)) (hkA (Aside0.mk (blk_below (g := gb410) (o := .cells #[.slice Ao44 t405.length co44] 38 (0, 0)) hkPp hb)) (hkA (Aside0.mk (blk_below (g := gb414) (o := .cells #[.slice Ao51 t411.length co51] 38 (0, 0)) hkPp hb)) (hkA (Aside0.mk (blk_below (g := gb418) (o := .cells #[.slice Ao62 t415.length co62] 38 (0, 0)) hkPp hb)) (hkU HB hb)))))))))))))); clear HO398 HO401 HO404 HO407 HO413 HO417 BK392 BK393 BK409 BK410 BK414 BK418 HB; obtain ⟨HO398, HO401, HO404, HO407, HO413, HO417, HO421, HO424, BK392, BK393, BK409, BK410, BK414, BK418, HB⟩ := n_; (try clear hb); (try clear hk); (try clear ho0); (try clear ho1)) | ((with_reducible refine gate_dst (N := 11) rfl ?_); refine hkBox (N := 11) (cs := #[.slice none 0 0]) (t := 38) ?_; intro gb426 hg w71 hbox hb; have n_ := hkA (hkRb HO398 hb) (hkA (hkRb HO401 hb) (hkA (hkRb HO404 hb) (hkA (hkRb HO407 hb) (hkA (hkRb HO413 hb) (hkA (hkRb HO417 hb) (hkA (hkRb HO421 hb) (hkA (hkRb HO424 hb) (hkA (hkBb BK392 hb) (hkA (hkBb BK393 hb) (hkA (hkBb BK409 hb) (hkA (hkBb BK410 hb) (hkA (hkBb BK414 hb) (hkA (hkBb BK418 hb) (hkA (hkU HB hb) (hkA (Aside0.mk (hbox)) (hkA (hkG hg (hkS HB)) (hkA (hkG hg (hkS HB)) (hkA (hkN hg BK392) (hkA (hkM hg BK392) (hkA (hkN hg BK393) (hkA (hkM hg BK393) (hkA (hkN hg BK409) (hkA (hkM hg BK409) (hkA (hkN hg BK410) (hkA (hkM hg BK410) (hkA (hkN hg BK414) (hkA (hkM hg BK414) (hkA (hkN hg BK418) (hkM hg BK418))))))))))))))))))))))))))))); clear HO398 HO401 HO404 HO407 HO413 HO417 HO421 HO424 BK392 BK393 BK409 BK410 BK414 BK418 HB; obtain ⟨HO398, HO401, HO404, HO407, HO413, HO417, HO421, HO424, BK392, BK393, BK409, BK410, BK414, BK418, HB, BK426, GW426, GE426, NB392_426, NB426_392, NB393_426, NB426_393, NB409_426, NB426_409, NB410_426, NB426_410, NB414_426, NB426_414, NB418_426, NB426_418⟩ := n_; clear hb hbox hg) | ((with_reducible refine gate_dst (N := 12) rfl ?_); refine hkBox (N := 12) (cs := #[.slice none 0 0]) (t := 38) ?_; intro gb427 hg w72 hbox hb; have n_ := hkA (hkRb HO398 hb) (hkA (hkRb HO401 hb) (hkA (hkRb HO404 hb) (hkA (hkRb HO407 hb) (hkA (hkRb HO413 hb) (hkA (hkRb HO417 hb) (hkA (hkRb HO421 hb) (hkA (hkRb HO424 hb) (hkA (hkBb BK392 hb) (hkA (hkBb BK393 hb) (hkA (hkBb BK409 hb) (hkA (hkBb BK410 hb) (hkA (hkBb BK414 hb) (hkA (hkBb BK418 hb) (hkA (hkBb BK426 hb) (hkA (hkU HB hb) (hkA (Aside0.mk (hbox)) (hkA (hkG hg (hkS HB)) (hkA (hkG hg (hkS HB)) (hkA (hkN hg BK392) (hkA (hkM hg BK392) (hkA (hkN hg BK393) (hkA (hkM hg BK393) (hkA (hkN hg BK409) (hkA (hkM hg BK409) (hkA (hkN hg BK410) (hkA (hkM hg BK410) (hkA (hkN hg BK414) (hkA (hkM hg BK414) (hkA (hkN hg BK418) (hkA (hkM hg BK418) (hkA (hkN hg BK426) (hkM hg BK426)))))))))))))))))))))))))))))))); clear HO398 HO401 HO404 HO407 HO413 HO417 HO421 HO424 BK392 BK393 BK409 BK410 BK414 BK418 BK426 HB; obtain ⟨HO398, HO401, HO404, HO407, HO413, HO417, HO421, HO424, BK392, BK393, BK409, BK410, BK414, BK418, BK426, HB, BK427, GW427, GE427, NB392_427, NB427_392, NB393_427, NB427_393, NB409_427, NB427_409, NB410_427, NB427_410, NB414_427, NB427_414, NB418_427, NB427_418, NB426_427, NB427_426⟩ := n_; clear hb hbox hg; obtain ⟨Ao73, co73, eo73⟩ := Kd.R_slice HO421.out; subst eo73; have hnb74 := NB426_392.out; have hnc74 := NB392_426.out; have hnb75 := NB426_393.out; have hnc75 := NB393_426.out; have hnb76 := NB426_409.out; have hnc76 := NB409_426.out; have hnb77 := NB426_410.out; have hnc77 := NB410_426.out; have hnb78 := NB426_414.out; have hnc78 := NB414_426.out; have hnb79 := NB426_418.out; have hnc79 := NB418_426.out; have hnb80 := NB426_427.out; have hnc80 := NB427_426.out; obtain ⟨hcz81_0, hfz81_0⟩ := hkc1 BK426; obtain ⟨Ao82, co82, eo82⟩ := Kd.R_slice HO424.out; subst eo82; have hnb83 := NB427_392.out; have hnc83 := NB392_427.out; have hnb84 := NB427_393.out; have hnc84 := NB393_427.out; have hnb85 := NB427_409.out; have hnc85 := NB409_427.out; have hnb86 := NB427_410.out; have hnc86 := NB410_427.out; have hnb87 := NB427_414.out; have hnc87 := NB414_427.out; have hnb88 := NB427_418.out; have hnc88 := NB418_427.out; obtain ⟨hcz89_0, hfz89_0⟩ := hkc1 BK427))
   (try simp only [Act.put, List.setIfInBounds_toArray, List.set_cons_zero, List.set_cons_succ])
   go_cut [64] (fun v64 wc => ∃ (kq : Nat) (x64_24 : Bool), v64 = .bool x64_24 ∧ Aside0 (laws_FnExactNatDiv.j0 kq t408 t425 x64_24 l0_0 l1_0 t402 t405 t411 t415 t419 t422 = some true) ∧ Aside0 (kq ≤ k) ∧ Aside0 (Kd.R (Kd.int .i64) 3 wc w.heap.size (fun k_ => some k_ ≠ ((.slice Ao44 t405.length co44) : Value).ownBlock ∧ some k_ ≠ ((.slice Ao51 t411.length co51) : Value).ownBlock ∧ some k_ ≠ ((.slice Ao62 t415.length co62) : Value).ownBlock ∧ some k_ ≠ ((.slice Ao73 t419.length co73) : Value).ownBlock ∧ some k_ ≠ ((.slice Ao82 t422.length co82) : Value).ownBlock) (.slice Ao42 t402.length co42) t402) ∧ Aside0 (Kd.R (Kd.int .i64) 3 wc w.heap.size (fun k_ => some k_ ≠ ((.slice Ao42 t402.length co42) : Value).ownBlock ∧ some k_ ≠ ((.slice Ao51 t411.length co51) : Value).ownBlock ∧ some k_ ≠ ((.slice Ao62 t415.length co62) : Value).ownBlock ∧ some k_ ≠ ((.slice Ao73 t419.length co73) : Value).ownBlock ∧ some k_ ≠ ((.slice Ao82 t422.length co82) : Value).ownBlock) (.slice Ao44 t405.length co44) t405) ∧ Aside0 (Kd.R (Kd.int .i64) 3 wc w.heap.size (fun k_ => some k_ ≠ ((.slice Ao42 t402.length co42) : Value).ownBlock ∧ some k_ ≠ ((.slice Ao44 t405.length co44) : Value).ownBlock ∧ some k_ ≠ ((.slice Ao62 t415.length co62) : Value).ownBlock ∧ some k_ ≠ ((.slice Ao73 t419.length co73) : Value).ownBlock ∧ some k_ ≠ ((.slice Ao82 t422.length co82) : Value).ownBlock) (.slice Ao51 t411.length co51) t411) ∧ Aside0 (Kd.R (Kd.int .i64) 3 wc w.heap.size (fun k_ => some k_ ≠ ((.slice Ao42 t402.length co42) : Value).ownBlock ∧ some k_ ≠ ((.slice Ao44 t405.length co44) : Value).ownBlock ∧ some k_ ≠ ((.slice Ao51 t411.length co51) : Value).ownBlock ∧ some k_ ≠ ((.slice Ao73 t419.length co73) : Value).ownBlock ∧ some k_ ≠ ((.slice Ao82 t422.length co82) : Value).ownBlock) (.slice Ao62 t415.length co62) t415) ∧ Aside0 (Kd.R (Kd.int .i64) 3 wc w.heap.size (fun k_ => some k_ ≠ ((.slice Ao42 t402.length co42) : Value).ownBlock ∧ some k_ ≠ ((.slice Ao44 t405.length co44) : Value).ownBlock ∧ some k_ ≠ ((.slice Ao51 t411.length co51) : Value).ownBlock ∧ some k_ ≠ ((.slice Ao62 t415.length co62) : Value).ownBlock ∧ some k_ ≠ ((.slice Ao82 t422.length co82) : Value).ownBlock) (.slice Ao73 t419.length co73) t419) ∧ Aside0 (Kd.R (Kd.int .i64) 3 wc w.heap.size (fun k_ => some k_ ≠ ((.slice Ao42 t402.length co42) : Value).ownBlock ∧ some k_ ≠ ((.slice Ao44 t405.length co44) : Value).ownBlock ∧ some k_ ≠ ((.slice Ao51 t411.length co51) : Value).ownBlock ∧ some k_ ≠ ((.slice Ao62 t415.length co62) : Value).ownBlock ∧ some k_ ≠ ((.slice Ao73 t419.length co73) : Value).ownBlock) (.slice Ao82 t422.length co82) t422) ∧ Aside0 (wc.heap[gb392]? = some (.cells #[(.slice A0_0 l0_0.length c0_0)] 31 (0, 0))) ∧ Aside0 (wc.heap[gb393]? = some (.cells #[(.slice A1_0 l1_0.length c1_0)] 31 (0, 0))) ∧ Aside0 (wc.heap[gb409]? = some (.cells #[(.slice Ao42 t402.length co42)] 38 (0, 0))) ∧ Aside0 (wc.heap[gb410]? = some (.cells #[(.slice Ao44 t405.length co44)] 38 (0, 0))) ∧ Aside0 (wc.heap[gb414]? = some (.cells #[(.slice Ao51 t411.length co51)] 38 (0, 0))) ∧ Aside0 (wc.heap[gb418]? = some (.cells #[(.slice Ao62 t415.length co62)] 38 (0, 0))) ∧ Aside0 (wc.heap[gb426]? = some (.cells #[(.slice Ao73 t419.length co73)] 38 (0, 0))) ∧ Aside0 (wc.heap[gb427]? = some (.cells #[(.slice Ao82 t422.length co82)] 38 (0, 0))) ∧ Aside0 (Below w.heap.size w wc))
   case first =>
    have H := HC25.out
    clear HC25
    replace H := hBi H
    obtain ⟨t428, A900, H⟩ := H
    replace H : (if t428 = true then ((laws_eqNat.f k t422 t405).bind fun t429 => (if t429 = true then (laws_FnExactNatDiv.j0 k t408 t425 (t425 != t408) l0_0 l1_0 t402 t405 t411 t415 t419 t422) else (laws_FnExactNatDiv.j0 k t408 t425 true l0_0 l1_0 t402 t405 t411 t415 t419 t422))) else (laws_FnExactNatDiv.j0 k t408 t425 true l0_0 l1_0 t402 t405 t411 t415 t419 t422)) = some true := H
    have A90 := Aside0.mk A900
    clear A900
    by_cases c91 : t428 = true
    ·subst c91
     have H1 : ((laws_eqNat.f k t422 t405).bind fun t429 => (if t429 = true then (laws_FnExactNatDiv.j0 k t408 t425 (t425 != t408) l0_0 l1_0 t402 t405 t411 t415 t419 t422) else (laws_FnExactNatDiv.j0 k t408 t425 true l0_0 l1_0 t402 t405 t411 t415 t419 t422))) = some true := by rw [if_pos rfl] at H; exact H
     clear H
     have H := H1
     clear H1
     replace H := hBi H
     obtain ⟨t429, A920, H⟩ := H
     replace H : (if t429 = true then (laws_FnExactNatDiv.j0 k t408 t425 (t425 != t408) l0_0 l1_0 t402 t405 t411 t415 t419 t422) else (laws_FnExactNatDiv.j0 k t408 t425 true l0_0 l1_0 t402 t405 t411 t415 t419 t422)) = some true := H
     have A92 := Aside0.mk A920
     clear A920
     by_cases c93 : t429 = true
     ·subst c93
      have H1 : (laws_FnExactNatDiv.j0 k t408 t425 (t425 != t408) l0_0 l1_0 t402 t405 t411 t415 t419 t422) = some true := by rw [if_pos rfl] at H; exact H
      clear H
      have H := H1
      clear H1
      have H' := Aside0.mk H
      clear H
      have hnb94 := NB426_392.out
      have hnc94 := NB392_426.out
      have hnb95 := NB426_393.out
      have hnc95 := NB393_426.out
      have hnb96 := NB426_409.out
      have hnc96 := NB409_426.out
      have hnb97 := NB426_410.out
      have hnc97 := NB410_426.out
      have hnb98 := NB426_414.out
      have hnc98 := NB414_426.out
      have hnb99 := NB426_418.out
      have hnc99 := NB418_426.out
      have hnb100 := NB426_427.out
      have hnc100 := NB427_426.out
      obtain ⟨hcz101_0, hfz101_0⟩ := hkc1 BK426
      have hnb102 := NB409_392.out
      have hnc102 := NB392_409.out
      have hnb103 := NB409_393.out
      have hnc103 := NB393_409.out
      have hnb104 := NB409_410.out
      have hnc104 := NB410_409.out
      have hnb105 := NB409_414.out
      have hnc105 := NB414_409.out
      have hnb106 := NB409_418.out
      have hnc106 := NB418_409.out
      have hnb107 := NB409_427.out
      have hnc107 := NB427_409.out
      obtain ⟨hcz108_0, hfz108_0⟩ := hkc1 BK409
      go_wp2_with (first | ((with_reducible refine gate_callee (f := 27) rfl ?_); refine hkGo (N := some 52) Try.func27 #[.agg #[.slice Ao73 t419.length co73], .agg #[.slice Ao42 t402.length co42]] ?_; (with_reducible refine (laws_eqNat.calls k _ _ t419 _ _ t402 true _ ?side1 ?side2 ?side3 ?side4 A90.out).mono ?_); (case side1 => refine (Kd.R_reads' (e := 3) (base := w.heap.size) (ok := fun k_ => ((((((some k_ ≠ (.slice Ao82 t422.length co82 : Value).ownBlock ∧ some k_ ≠ (v397 : Value).ownBlock) ∧ some k_ ≠ (v400 : Value).ownBlock) ∧ some k_ ≠ (.slice Ao42 t402.length co42 : Value).ownBlock) ∧ some k_ ≠ (.slice Ao44 t405.length co44 : Value).ownBlock) ∧ some k_ ≠ (.slice Ao51 t411.length co51 : Value).ownBlock) ∧ some k_ ≠ (.slice Ao62 t415.length co62 : Value).ownBlock)) (n := t419.length) (c := co73) ?_).2.2; exact (by (with_reducible repeat (first | apply Kd.R_alloc | apply Kd.R_drewN | apply Kd.R_drew)); exact (Kd.R_mono (Kd.R_mono (Kd.R_far (p := ⟨gb427, 0, none⟩) (Kd.R_far (p := ⟨gb426, 0, none⟩) (Kd.R_types (Kd.R_types HO421.out BK426.out (by decide)) BK427.out (by decide)) (fun _ hk => hk.1.2) (.slice Ao73 t419.length co73)) (fun _ hk => hk.2) (.slice Ao82 t422.length co82)) (fun _ h_ => h_.1)) (fun _ h_ => h_.1)))); (case side2 => exact (Kd.R_reads' HO421.out).2.1); (case side3 => refine (Kd.R_reads' (e := 3) (base := w.heap.size) (ok := fun k_ => (((((some k_ ≠ (v397 : Value).ownBlock ∧ (some k_ ≠ (v400 : Value).ownBlock ∧ some k_ ≠ (.slice Ao44 t405.length co44 : Value).ownBlock)) ∧ some k_ ≠ (.slice Ao51 t411.length co51 : Value).ownBlock) ∧ some k_ ≠ (.slice Ao62 t415.length co62 : Value).ownBlock) ∧ some k_ ≠ (.slice Ao73 t419.length co73 : Value).ownBlock) ∧ some k_ ≠ (.slice Ao82 t422.length co82 : Value).ownBlock)) (n := t402.length) (c := co42) ?_).2.2; exact (by (with_reducible repeat (first | apply Kd.R_alloc | apply Kd.R_drewN | apply Kd.R_drew)); exact (Kd.R_mono (Kd.R_mono (Kd.R_far (p := ⟨gb427, 0, none⟩) (Kd.R_far (p := ⟨gb426, 0, none⟩) (Kd.R_types (Kd.R_types HO404.out BK426.out (by decide)) BK427.out (by decide)) (fun _ hk => hk.1.2) (.slice Ao73 t419.length co73)) (fun _ hk => hk.2) (.slice Ao82 t422.length co82)) (fun _ h_ => h_.1)) (fun _ h_ => h_.1)))); (case side4 => exact (Kd.R_reads' HO404.out).2.1); rintro e w109 ⟨rfl, hb⟩; refine ⟨_, rfl, ?_⟩; have n_ := hkA (Aside0.mk (Kd.R_below (by (with_reducible repeat (first | apply Kd.R_alloc | apply Kd.R_drewN | apply Kd.R_drew)); exact (Kd.R_mono (Kd.R_mono (Kd.R_far (p := ⟨gb427, 0, none⟩) (Kd.R_far (p := ⟨gb426, 0, none⟩) (Kd.R_types (Kd.R_types HO398.out BK426.out (by decide)) BK427.out (by decide)) (fun _ hk => hk.1.2) (.slice Ao73 t419.length co73)) (fun _ hk => hk.2) (.slice Ao82 t422.length co82)) (fun _ h_ => h_.1)) (fun _ h_ => h_.1))) hb)) (hkA (Aside0.mk (Kd.R_below (by (with_reducible repeat (first | apply Kd.R_alloc | apply Kd.R_drewN | apply Kd.R_drew)); exact (Kd.R_mono (Kd.R_mono (Kd.R_far (p := ⟨gb427, 0, none⟩) (Kd.R_far (p := ⟨gb426, 0, none⟩) (Kd.R_types (Kd.R_types HO401.out BK426.out (by decide)) BK427.out (by decide)) (fun _ hk => hk.1.2) (.slice Ao73 t419.length co73)) (fun _ hk => hk.2) (.slice Ao82 t422.length co82)) (fun _ h_ => h_.1)) (fun _ h_ => h_.1))) hb)) (hkA (Aside0.mk (Kd.R_below (by (with_reducible repeat (first | apply Kd.R_alloc | apply Kd.R_drewN | apply Kd.R_drew)); exact (Kd.R_mono (Kd.R_mono (Kd.R_far (p := ⟨gb427, 0, none⟩) (Kd.R_far (p := ⟨gb426, 0, none⟩) (Kd.R_types (Kd.R_types HO404.out BK426.out (by decide)) BK427.out (by decide)) (fun _ hk => hk.1.2) (.slice Ao73 t419.length co73)) (fun _ hk => hk.2) (.slice Ao82 t422.length co82)) (fun _ h_ => h_.1)) (fun _ h_ => h_.1))) hb)) (hkA (Aside0.mk (Kd.R_below (by (with_reducible repeat (first | apply Kd.R_alloc | apply Kd.R_drewN | apply Kd.R_drew)); exact (Kd.R_mono (Kd.R_mono (Kd.R_far (p := ⟨gb427, 0, none⟩) (Kd.R_far (p := ⟨gb426, 0, none⟩) (Kd.R_types (Kd.R_types HO407.out BK426.out (by decide)) BK427.out (by decide)) (fun _ hk => hk.1.2) (.slice Ao73 t419.length co73)) (fun _ hk => hk.2) (.slice Ao82 t422.length co82)) (fun _ h_ => h_.1)) (fun _ h_ => h_.1))) hb)) (hkA (Aside0.mk (Kd.R_below (by (with_reducible repeat (first | apply Kd.R_alloc | apply Kd.R_drewN | apply Kd.R_drew)); exact (Kd.R_mono (Kd.R_mono (Kd.R_far (p := ⟨gb427, 0, none⟩) (Kd.R_far (p := ⟨gb426, 0, none⟩) (Kd.R_types (Kd.R_types HO413.out BK426.out (by decide)) BK427.out (by decide)) (fun _ hk => hk.1.2) (.slice Ao73 t419.length co73)) (fun _ hk => hk.2) (.slice Ao82 t422.length co82)) (fun _ h_ => h_.1)) (fun _ h_ => h_.1))) hb)) (hkA (Aside0.mk (Kd.R_below (by (with_reducible repeat (first | apply Kd.R_alloc | apply Kd.R_drewN | apply Kd.R_drew)); exact (Kd.R_mono (Kd.R_mono (Kd.R_far (p := ⟨gb427, 0, none⟩) (Kd.R_far (p := ⟨gb426, 0, none⟩) (Kd.R_types (Kd.R_types HO417.out BK426.out (by decide)) BK427.out (by decide)) (fun _ hk => hk.1.2) (.slice Ao73 t419.length co73)) (fun _ hk => hk.2) (.slice Ao82 t422.length co82)) (fun _ h_ => h_.1)) (fun _ h_ => h_.1))) hb)) (hkA (Aside0.mk (Kd.R_below (by (with_reducible repeat (first | apply Kd.R_alloc | apply Kd.R_drewN | apply Kd.R_drew)); exact (Kd.R_mono (Kd.R_mono (Kd.R_far (p := ⟨gb427, 0, none⟩) (Kd.R_far (p := ⟨gb426, 0, none⟩) (Kd.R_types (Kd.R_types HO421.out BK426.out (by decide)) BK427.out (by decide)) (fun _ hk => hk.1.2) (.slice Ao73 t419.length co73)) (fun _ hk => hk.2) (.slice Ao82 t422.length co82)) (fun _ h_ => h_.1)) (fun _ h_ => h_.1))) hb)) (hkA (Aside0.mk (Kd.R_below (by (with_reducible repeat (first | apply Kd.R_alloc | apply Kd.R_drewN | apply Kd.R_drew)); exact (Kd.R_mono (Kd.R_mono (Kd.R_far (p := ⟨gb427, 0, none⟩) (Kd.R_far (p := ⟨gb426, 0, none⟩) (Kd.R_types (Kd.R_types HO424.out BK426.out (by decide)) BK427.out (by decide)) (fun _ hk => hk.1.2) (.slice Ao73 t419.length co73)) (fun _ hk => hk.2) (.slice Ao82 t422.length co82)) (fun _ h_ => h_.1)) (fun _ h_ => h_.1))) hb)) (hkA (Aside0.mk (blk_below (g := gb392) (o := .cells #[.slice A0_0 l0_0.length c0_0] 31 (0, 0)) hkPp hb)) (hkA (Aside0.mk (blk_below (g := gb393) (o := .cells #[.slice A1_0 l1_0.length c1_0] 31 (0, 0)) hkPp hb)) (hkA (Aside0.mk (blk_below (g := gb409) (o := .cells #[.slice Ao42 t402.length co42] 38 (0, 0)) hkPp hb)) (hkA (Aside0.mk (blk_below (g := gb410) (o := .cells #[.slice Ao44 t405.length co44] 38 (0, 0)) hkPp hb)) (hkA (Aside0.mk (blk_below (g := gb414) (o := .cells #[.slice Ao51 t411.length co51] 38 (0, 0)) hkPp hb)) (hkA (Aside0.mk (blk_below (g := gb418) (o := .cells #[.slice Ao62 t415.length co62] 38 (0, 0)) hkPp hb)) (hkA (Aside0.mk (blk_below (g := gb426) (o := .cells #[.slice Ao73 t419.length co73] 38 (0, 0)) hkPp hb)) (hkA (Aside0.mk (blk_below (g := gb427) (o := .cells #[.slice Ao82 t422.length co82] 38 (0, 0)) hkPp hb)) (hkU HB hb)))))))))))))))); clear HO398 HO401 HO404 HO407 HO413 HO417 HO421 HO424 BK392 BK393 BK409 BK410 BK414 BK418 BK426 BK427 HB; obtain ⟨HO398, HO401, HO404, HO407, HO413, HO417, HO421, HO424, BK392, BK393, BK409, BK410, BK414, BK418, BK426, BK427, HB⟩ := n_; (try clear hb); (try clear hk); have hnb110 := NB427_392.out; have hnc110 := NB392_427.out; have hnb111 := NB427_393.out; have hnc111 := NB393_427.out; have hnb112 := NB427_410.out; have hnc112 := NB410_427.out; have hnb113 := NB427_414.out; have hnc113 := NB414_427.out; have hnb114 := NB427_418.out; have hnc114 := NB418_427.out; obtain ⟨hcz115_0, hfz115_0⟩ := hkc1 BK427; have hnb116 := NB410_392.out; have hnc116 := NB392_410.out; have hnb117 := NB410_393.out; have hnc117 := NB393_410.out; have hnb118 := NB410_414.out; have hnc118 := NB414_410.out; have hnb119 := NB410_418.out; have hnc119 := NB418_410.out; obtain ⟨hcz120_0, hfz120_0⟩ := hkc1 BK410) | (go_at_call 27; (with_reducible refine (laws_eqNat.calls k _ _ t422 _ _ t405 true _ ?side1 ?side2 ?side3 ?side4 A92.out).mono ?_); (case side1 => exact hkC ((Kd.R_reads' HO424.out).2.2)); (case side2 => exact (Kd.R_reads' HO424.out).2.1); (case side3 => exact hkC ((Kd.R_reads' HO407.out).2.2)); (case side4 => exact (Kd.R_reads' HO407.out).2.1); rintro e w121 ⟨rfl, hb⟩; have n_ := hkA (hkRb HO398 hb) (hkA (hkRb HO401 hb) (hkA (hkRb HO404 hb) (hkA (hkRb HO407 hb) (hkA (hkRb HO413 hb) (hkA (hkRb HO417 hb) (hkA (hkRb HO421 hb) (hkA (hkRb HO424 hb) (hkA (hkBb BK392 hb) (hkA (hkBb BK393 hb) (hkA (hkBb BK409 hb) (hkA (hkBb BK410 hb) (hkA (hkBb BK414 hb) (hkA (hkBb BK418 hb) (hkA (hkBb BK426 hb) (hkA (hkBb BK427 hb) (hkU HB hb)))))))))))))))); clear HO398 HO401 HO404 HO407 HO413 HO417 HO421 HO424 BK392 BK393 BK409 BK410 BK414 BK418 BK426 BK427 HB; obtain ⟨HO398, HO401, HO404, HO407, HO413, HO417, HO421, HO424, BK392, BK393, BK409, BK410, BK414, BK418, BK426, BK427, HB⟩ := n_; (try clear hb); (try clear hk)))
      go_meet
      case rel => exact ⟨_, ((t425 != t408)), (by first | rfl | (simp; done) | (simp [*]; done)), H', ⟨by first | omega | exact Nat.le_refl _⟩, ⟨by (with_reducible repeat (first | apply Kd.R_alloc | apply Kd.R_drewN | apply Kd.R_drew)); exact Kd.R_mono HO404.out (fun _ hk => ⟨hk.1.1.1.1.2.2, ⟨hk.1.1.1.2, ⟨hk.1.1.2, ⟨hk.1.2, hk.2⟩⟩⟩⟩)⟩, ⟨by (with_reducible repeat (first | apply Kd.R_alloc | apply Kd.R_drewN | apply Kd.R_drew)); exact Kd.R_mono HO407.out (fun _ hk => ⟨hk.1.1.1.1.2.2, ⟨hk.1.1.1.2, ⟨hk.1.1.2, ⟨hk.1.2, hk.2⟩⟩⟩⟩)⟩, ⟨by (with_reducible repeat (first | apply Kd.R_alloc | apply Kd.R_drewN | apply Kd.R_drew)); exact Kd.R_mono HO413.out (fun _ hk => ⟨hk.1.1.1.1.2, ⟨hk.1.1.1.2, ⟨hk.1.1.2, ⟨hk.1.2, hk.2⟩⟩⟩⟩)⟩, ⟨by (with_reducible repeat (first | apply Kd.R_alloc | apply Kd.R_drewN | apply Kd.R_drew)); exact Kd.R_mono HO417.out (fun _ hk => ⟨hk.1.1.1.1.2, ⟨hk.1.1.1.2, ⟨hk.1.1.2, ⟨hk.1.2, hk.2⟩⟩⟩⟩)⟩, ⟨by (with_reducible repeat (first | apply Kd.R_alloc | apply Kd.R_drewN | apply Kd.R_drew)); exact Kd.R_mono HO421.out (fun _ hk => ⟨hk.1.1.1.2, ⟨hk.1.1.2, ⟨hk.1.2, ⟨hk.2, hk.1.1.1.1.1.1⟩⟩⟩⟩)⟩, ⟨by (with_reducible repeat (first | apply Kd.R_alloc | apply Kd.R_drewN | apply Kd.R_drew)); exact Kd.R_mono HO424.out (fun _ hk => ⟨hk.1.1.1.2, ⟨hk.1.1.2, ⟨hk.1.2, ⟨hk.2, hk.1.1.1.1.1.1⟩⟩⟩⟩)⟩, ⟨by refine hkz ?_; exact BK392.out⟩, ⟨by refine hkz ?_; exact BK393.out⟩, ⟨by refine hkz ?_; exact BK409.out⟩, ⟨by refine hkz ?_; exact BK410.out⟩, ⟨by refine hkz ?_; exact BK414.out⟩, ⟨by refine hkz ?_; exact BK418.out⟩, ⟨by refine hkz ?_; exact BK426.out⟩, ⟨by refine hkz ?_; exact BK427.out⟩, ⟨hkS HB⟩⟩
     ·replace c93 := Bool.eq_false_iff.mpr c93
      subst c93
      have H1 : (laws_FnExactNatDiv.j0 k t408 t425 true l0_0 l1_0 t402 t405 t411 t415 t419 t422) = some true := by rw [if_neg (show ¬ (false = true) by decide)] at H; exact H
      clear H
      have H := H1
      clear H1
      have H' := Aside0.mk H
      clear H
      have hnb122 := NB426_392.out
      have hnc122 := NB392_426.out
      have hnb123 := NB426_393.out
      have hnc123 := NB393_426.out
      have hnb124 := NB426_409.out
      have hnc124 := NB409_426.out
      have hnb125 := NB426_410.out
      have hnc125 := NB410_426.out
      have hnb126 := NB426_414.out
      have hnc126 := NB414_426.out
      have hnb127 := NB426_418.out
      have hnc127 := NB418_426.out
      have hnb128 := NB426_427.out
      have hnc128 := NB427_426.out
      obtain ⟨hcz129_0, hfz129_0⟩ := hkc1 BK426
      have hnb130 := NB409_392.out
      have hnc130 := NB392_409.out
      have hnb131 := NB409_393.out
      have hnc131 := NB393_409.out
      have hnb132 := NB409_410.out
      have hnc132 := NB410_409.out
      have hnb133 := NB409_414.out
      have hnc133 := NB414_409.out
      have hnb134 := NB409_418.out
      have hnc134 := NB418_409.out
      have hnb135 := NB409_427.out
      have hnc135 := NB427_409.out
      obtain ⟨hcz136_0, hfz136_0⟩ := hkc1 BK409
      go_wp2_with (first | ((with_reducible refine gate_callee (f := 27) rfl ?_); refine hkGo (N := some 52) Try.func27 #[.agg #[.slice Ao73 t419.length co73], .agg #[.slice Ao42 t402.length co42]] ?_; (with_reducible refine (laws_eqNat.calls k _ _ t419 _ _ t402 true _ ?side1 ?side2 ?side3 ?side4 A90.out).mono ?_); (case side1 => refine (Kd.R_reads' (e := 3) (base := w.heap.size) (ok := fun k_ => ((((((some k_ ≠ (.slice Ao82 t422.length co82 : Value).ownBlock ∧ some k_ ≠ (v397 : Value).ownBlock) ∧ some k_ ≠ (v400 : Value).ownBlock) ∧ some k_ ≠ (.slice Ao42 t402.length co42 : Value).ownBlock) ∧ some k_ ≠ (.slice Ao44 t405.length co44 : Value).ownBlock) ∧ some k_ ≠ (.slice Ao51 t411.length co51 : Value).ownBlock) ∧ some k_ ≠ (.slice Ao62 t415.length co62 : Value).ownBlock)) (n := t419.length) (c := co73) ?_).2.2; exact (by (with_reducible repeat (first | apply Kd.R_alloc | apply Kd.R_drewN | apply Kd.R_drew)); exact (Kd.R_mono (Kd.R_mono (Kd.R_far (p := ⟨gb427, 0, none⟩) (Kd.R_far (p := ⟨gb426, 0, none⟩) (Kd.R_types (Kd.R_types HO421.out BK426.out (by decide)) BK427.out (by decide)) (fun _ hk => hk.1.2) (.slice Ao73 t419.length co73)) (fun _ hk => hk.2) (.slice Ao82 t422.length co82)) (fun _ h_ => h_.1)) (fun _ h_ => h_.1)))); (case side2 => exact (Kd.R_reads' HO421.out).2.1); (case side3 => refine (Kd.R_reads' (e := 3) (base := w.heap.size) (ok := fun k_ => (((((some k_ ≠ (v397 : Value).ownBlock ∧ (some k_ ≠ (v400 : Value).ownBlock ∧ some k_ ≠ (.slice Ao44 t405.length co44 : Value).ownBlock)) ∧ some k_ ≠ (.slice Ao51 t411.length co51 : Value).ownBlock) ∧ some k_ ≠ (.slice Ao62 t415.length co62 : Value).ownBlock) ∧ some k_ ≠ (.slice Ao73 t419.length co73 : Value).ownBlock) ∧ some k_ ≠ (.slice Ao82 t422.length co82 : Value).ownBlock)) (n := t402.length) (c := co42) ?_).2.2; exact (by (with_reducible repeat (first | apply Kd.R_alloc | apply Kd.R_drewN | apply Kd.R_drew)); exact (Kd.R_mono (Kd.R_mono (Kd.R_far (p := ⟨gb427, 0, none⟩) (Kd.R_far (p := ⟨gb426, 0, none⟩) (Kd.R_types (Kd.R_types HO404.out BK426.out (by decide)) BK427.out (by decide)) (fun _ hk => hk.1.2) (.slice Ao73 t419.length co73)) (fun _ hk => hk.2) (.slice Ao82 t422.length co82)) (fun _ h_ => h_.1)) (fun _ h_ => h_.1)))); (case side4 => exact (Kd.R_reads' HO404.out).2.1); rintro e w137 ⟨rfl, hb⟩; refine ⟨_, rfl, ?_⟩; have n_ := hkA (Aside0.mk (Kd.R_below (by (with_reducible repeat (first | apply Kd.R_alloc | apply Kd.R_drewN | apply Kd.R_drew)); exact (Kd.R_mono (Kd.R_mono (Kd.R_far (p := ⟨gb427, 0, none⟩) (Kd.R_far (p := ⟨gb426, 0, none⟩) (Kd.R_types (Kd.R_types HO398.out BK426.out (by decide)) BK427.out (by decide)) (fun _ hk => hk.1.2) (.slice Ao73 t419.length co73)) (fun _ hk => hk.2) (.slice Ao82 t422.length co82)) (fun _ h_ => h_.1)) (fun _ h_ => h_.1))) hb)) (hkA (Aside0.mk (Kd.R_below (by (with_reducible repeat (first | apply Kd.R_alloc | apply Kd.R_drewN | apply Kd.R_drew)); exact (Kd.R_mono (Kd.R_mono (Kd.R_far (p := ⟨gb427, 0, none⟩) (Kd.R_far (p := ⟨gb426, 0, none⟩) (Kd.R_types (Kd.R_types HO401.out BK426.out (by decide)) BK427.out (by decide)) (fun _ hk => hk.1.2) (.slice Ao73 t419.length co73)) (fun _ hk => hk.2) (.slice Ao82 t422.length co82)) (fun _ h_ => h_.1)) (fun _ h_ => h_.1))) hb)) (hkA (Aside0.mk (Kd.R_below (by (with_reducible repeat (first | apply Kd.R_alloc | apply Kd.R_drewN | apply Kd.R_drew)); exact (Kd.R_mono (Kd.R_mono (Kd.R_far (p := ⟨gb427, 0, none⟩) (Kd.R_far (p := ⟨gb426, 0, none⟩) (Kd.R_types (Kd.R_types HO404.out BK426.out (by decide)) BK427.out (by decide)) (fun _ hk => hk.1.2) (.slice Ao73 t419.length co73)) (fun _ hk => hk.2) (.slice Ao82 t422.length co82)) (fun _ h_ => h_.1)) (fun _ h_ => h_.1))) hb)) (hkA (Aside0.mk (Kd.R_below (by (with_reducible repeat (first | apply Kd.R_alloc | apply Kd.R_drewN | apply Kd.R_drew)); exact (Kd.R_mono (Kd.R_mono (Kd.R_far (p := ⟨gb427, 0, none⟩) (Kd.R_far (p := ⟨gb426, 0, none⟩) (Kd.R_types (Kd.R_types HO407.out BK426.out (by decide)) BK427.out (by decide)) (fun _ hk => hk.1.2) (.slice Ao73 t419.length co73)) (fun _ hk => hk.2) (.slice Ao82 t422.length co82)) (fun _ h_ => h_.1)) (fun _ h_ => h_.1))) hb)) (hkA (Aside0.mk (Kd.R_below (by (with_reducible repeat (first | apply Kd.R_alloc | apply Kd.R_drewN | apply Kd.R_drew)); exact (Kd.R_mono (Kd.R_mono (Kd.R_far (p := ⟨gb427, 0, none⟩) (Kd.R_far (p := ⟨gb426, 0, none⟩) (Kd.R_types (Kd.R_types HO413.out BK426.out (by decide)) BK427.out (by decide)) (fun _ hk => hk.1.2) (.slice Ao73 t419.length co73)) (fun _ hk => hk.2) (.slice Ao82 t422.length co82)) (fun _ h_ => h_.1)) (fun _ h_ => h_.1))) hb)) (hkA (Aside0.mk (Kd.R_below (by (with_reducible repeat (first | apply Kd.R_alloc | apply Kd.R_drewN | apply Kd.R_drew)); exact (Kd.R_mono (Kd.R_mono (Kd.R_far (p := ⟨gb427, 0, none⟩) (Kd.R_far (p := ⟨gb426, 0, none⟩) (Kd.R_types (Kd.R_types HO417.out BK426.out (by decide)) BK427.out (by decide)) (fun _ hk => hk.1.2) (.slice Ao73 t419.length co73)) (fun _ hk => hk.2) (.slice Ao82 t422.length co82)) (fun _ h_ => h_.1)) (fun _ h_ => h_.1))) hb)) (hkA (Aside0.mk (Kd.R_below (by (with_reducible repeat (first | apply Kd.R_alloc | apply Kd.R_drewN | apply Kd.R_drew)); exact (Kd.R_mono (Kd.R_mono (Kd.R_far (p := ⟨gb427, 0, none⟩) (Kd.R_far (p := ⟨gb426, 0, none⟩) (Kd.R_types (Kd.R_types HO421.out BK426.out (by decide)) BK427.out (by decide)) (fun _ hk => hk.1.2) (.slice Ao73 t419.length co73)) (fun _ hk => hk.2) (.slice Ao82 t422.length co82)) (fun _ h_ => h_.1)) (fun _ h_ => h_.1))) hb)) (hkA (Aside0.mk (Kd.R_below (by (with_reducible repeat (first | apply Kd.R_alloc | apply Kd.R_drewN | apply Kd.R_drew)); exact (Kd.R_mono (Kd.R_mono (Kd.R_far (p := ⟨gb427, 0, none⟩) (Kd.R_far (p := ⟨gb426, 0, none⟩) (Kd.R_types (Kd.R_types HO424.out BK426.out (by decide)) BK427.out (by decide)) (fun _ hk => hk.1.2) (.slice Ao73 t419.length co73)) (fun _ hk => hk.2) (.slice Ao82 t422.length co82)) (fun _ h_ => h_.1)) (fun _ h_ => h_.1))) hb)) (hkA (Aside0.mk (blk_below (g := gb392) (o := .cells #[.slice A0_0 l0_0.length c0_0] 31 (0, 0)) hkPp hb)) (hkA (Aside0.mk (blk_below (g := gb393) (o := .cells #[.slice A1_0 l1_0.length c1_0] 31 (0, 0)) hkPp hb)) (hkA (Aside0.mk (blk_below (g := gb409) (o := .cells #[.slice Ao42 t402.length co42] 38 (0, 0)) hkPp hb)) (hkA (Aside0.mk (blk_below (g := gb410) (o := .cells #[.slice Ao44 t405.length co44] 38 (0, 0)) hkPp hb)) (hkA (Aside0.mk (blk_below (g := gb414) (o := .cells #[.slice Ao51 t411.length co51] 38 (0, 0)) hkPp hb)) (hkA (Aside0.mk (blk_below (g := gb418) (o := .cells #[.slice Ao62 t415.length co62] 38 (0, 0)) hkPp hb)) (hkA (Aside0.mk (blk_below (g := gb426) (o := .cells #[.slice Ao73 t419.length co73] 38 (0, 0)) hkPp hb)) (hkA (Aside0.mk (blk_below (g := gb427) (o := .cells #[.slice Ao82 t422.length co82] 38 (0, 0)) hkPp hb)) (hkU HB hb)))))))))))))))); clear HO398 HO401 HO404 HO407 HO413 HO417 HO421 HO424 BK392 BK393 BK409 BK410 BK414 BK418 BK426 BK427 HB; obtain ⟨HO398, HO401, HO404, HO407, HO413, HO417, HO421, HO424, BK392, BK393, BK409, BK410, BK414, BK418, BK426, BK427, HB⟩ := n_; (try clear hb); (try clear hk); have hnb138 := NB427_392.out; have hnc138 := NB392_427.out; have hnb139 := NB427_393.out; have hnc139 := NB393_427.out; have hnb140 := NB427_410.out; have hnc140 := NB410_427.out; have hnb141 := NB427_414.out; have hnc141 := NB414_427.out; have hnb142 := NB427_418.out; have hnc142 := NB418_427.out; obtain ⟨hcz143_0, hfz143_0⟩ := hkc1 BK427; have hnb144 := NB410_392.out; have hnc144 := NB392_410.out; have hnb145 := NB410_393.out; have hnc145 := NB393_410.out; have hnb146 := NB410_414.out; have hnc146 := NB414_410.out; have hnb147 := NB410_418.out; have hnc147 := NB418_410.out; obtain ⟨hcz148_0, hfz148_0⟩ := hkc1 BK410) | (go_at_call 27; (with_reducible refine (laws_eqNat.calls k _ _ t422 _ _ t405 false _ ?side1 ?side2 ?side3 ?side4 A92.out).mono ?_); (case side1 => exact hkC ((Kd.R_reads' HO424.out).2.2)); (case side2 => exact (Kd.R_reads' HO424.out).2.1); (case side3 => exact hkC ((Kd.R_reads' HO407.out).2.2)); (case side4 => exact (Kd.R_reads' HO407.out).2.1); rintro e w149 ⟨rfl, hb⟩; have n_ := hkA (hkRb HO398 hb) (hkA (hkRb HO401 hb) (hkA (hkRb HO404 hb) (hkA (hkRb HO407 hb) (hkA (hkRb HO413 hb) (hkA (hkRb HO417 hb) (hkA (hkRb HO421 hb) (hkA (hkRb HO424 hb) (hkA (hkBb BK392 hb) (hkA (hkBb BK393 hb) (hkA (hkBb BK409 hb) (hkA (hkBb BK410 hb) (hkA (hkBb BK414 hb) (hkA (hkBb BK418 hb) (hkA (hkBb BK426 hb) (hkA (hkBb BK427 hb) (hkU HB hb)))))))))))))))); clear HO398 HO401 HO404 HO407 HO413 HO417 HO421 HO424 BK392 BK393 BK409 BK410 BK414 BK418 BK426 BK427 HB; obtain ⟨HO398, HO401, HO404, HO407, HO413, HO417, HO421, HO424, BK392, BK393, BK409, BK410, BK414, BK418, BK426, BK427, HB⟩ := n_; (try clear hb); (try clear hk)))
      go_meet
      case rel => exact ⟨_, (true), (by first | rfl | (simp; done) | (simp [*]; done)), H', ⟨by first | omega | exact Nat.le_refl _⟩, ⟨by (with_reducible repeat (first | apply Kd.R_alloc | apply Kd.R_drewN | apply Kd.R_drew)); exact Kd.R_mono HO404.out (fun _ hk => ⟨hk.1.1.1.1.2.2, ⟨hk.1.1.1.2, ⟨hk.1.1.2, ⟨hk.1.2, hk.2⟩⟩⟩⟩)⟩, ⟨by (with_reducible repeat (first | apply Kd.R_alloc | apply Kd.R_drewN | apply Kd.R_drew)); exact Kd.R_mono HO407.out (fun _ hk => ⟨hk.1.1.1.1.2.2, ⟨hk.1.1.1.2, ⟨hk.1.1.2, ⟨hk.1.2, hk.2⟩⟩⟩⟩)⟩, ⟨by (with_reducible repeat (first | apply Kd.R_alloc | apply Kd.R_drewN | apply Kd.R_drew)); exact Kd.R_mono HO413.out (fun _ hk => ⟨hk.1.1.1.1.2, ⟨hk.1.1.1.2, ⟨hk.1.1.2, ⟨hk.1.2, hk.2⟩⟩⟩⟩)⟩, ⟨by (with_reducible repeat (first | apply Kd.R_alloc | apply Kd.R_drewN | apply Kd.R_drew)); exact Kd.R_mono HO417.out (fun _ hk => ⟨hk.1.1.1.1.2, ⟨hk.1.1.1.2, ⟨hk.1.1.2, ⟨hk.1.2, hk.2⟩⟩⟩⟩)⟩, ⟨by (with_reducible repeat (first | apply Kd.R_alloc | apply Kd.R_drewN | apply Kd.R_drew)); exact Kd.R_mono HO421.out (fun _ hk => ⟨hk.1.1.1.2, ⟨hk.1.1.2, ⟨hk.1.2, ⟨hk.2, hk.1.1.1.1.1.1⟩⟩⟩⟩)⟩, ⟨by (with_reducible repeat (first | apply Kd.R_alloc | apply Kd.R_drewN | apply Kd.R_drew)); exact Kd.R_mono HO424.out (fun _ hk => ⟨hk.1.1.1.2, ⟨hk.1.1.2, ⟨hk.1.2, ⟨hk.2, hk.1.1.1.1.1.1⟩⟩⟩⟩)⟩, ⟨by refine hkz ?_; exact BK392.out⟩, ⟨by refine hkz ?_; exact BK393.out⟩, ⟨by refine hkz ?_; exact BK409.out⟩, ⟨by refine hkz ?_; exact BK410.out⟩, ⟨by refine hkz ?_; exact BK414.out⟩, ⟨by refine hkz ?_; exact BK418.out⟩, ⟨by refine hkz ?_; exact BK426.out⟩, ⟨by refine hkz ?_; exact BK427.out⟩, ⟨hkS HB⟩⟩
    ·replace c91 := Bool.eq_false_iff.mpr c91
     subst c91
     have H1 : (laws_FnExactNatDiv.j0 k t408 t425 true l0_0 l1_0 t402 t405 t411 t415 t419 t422) = some true := by rw [if_neg (show ¬ (false = true) by decide)] at H; exact H
     clear H
     have H := H1
     clear H1
     have H' := Aside0.mk H
     clear H
     have hnb150 := NB426_392.out
     have hnc150 := NB392_426.out
     have hnb151 := NB426_393.out
     have hnc151 := NB393_426.out
     have hnb152 := NB426_409.out
     have hnc152 := NB409_426.out
     have hnb153 := NB426_410.out
     have hnc153 := NB410_426.out
     have hnb154 := NB426_414.out
     have hnc154 := NB414_426.out
     have hnb155 := NB426_418.out
     have hnc155 := NB418_426.out
     have hnb156 := NB426_427.out
     have hnc156 := NB427_426.out
     obtain ⟨hcz157_0, hfz157_0⟩ := hkc1 BK426
     have hnb158 := NB409_392.out
     have hnc158 := NB392_409.out
     have hnb159 := NB409_393.out
     have hnc159 := NB393_409.out
     have hnb160 := NB409_410.out
     have hnc160 := NB410_409.out
     have hnb161 := NB409_414.out
     have hnc161 := NB414_409.out
     have hnb162 := NB409_418.out
     have hnc162 := NB418_409.out
     have hnb163 := NB409_427.out
     have hnc163 := NB427_409.out
     obtain ⟨hcz164_0, hfz164_0⟩ := hkc1 BK409
     go_wp2_with (first | ((with_reducible refine gate_callee (f := 27) rfl ?_); refine hkGo (N := some 52) Try.func27 #[.agg #[.slice Ao73 t419.length co73], .agg #[.slice Ao42 t402.length co42]] ?_; (with_reducible refine (laws_eqNat.calls k _ _ t419 _ _ t402 false _ ?side1 ?side2 ?side3 ?side4 A90.out).mono ?_); (case side1 => refine (Kd.R_reads' (e := 3) (base := w.heap.size) (ok := fun k_ => ((((((some k_ ≠ (.slice Ao82 t422.length co82 : Value).ownBlock ∧ some k_ ≠ (v397 : Value).ownBlock) ∧ some k_ ≠ (v400 : Value).ownBlock) ∧ some k_ ≠ (.slice Ao42 t402.length co42 : Value).ownBlock) ∧ some k_ ≠ (.slice Ao44 t405.length co44 : Value).ownBlock) ∧ some k_ ≠ (.slice Ao51 t411.length co51 : Value).ownBlock) ∧ some k_ ≠ (.slice Ao62 t415.length co62 : Value).ownBlock)) (n := t419.length) (c := co73) ?_).2.2; exact (by (with_reducible repeat (first | apply Kd.R_alloc | apply Kd.R_drewN | apply Kd.R_drew)); exact (Kd.R_mono (Kd.R_mono (Kd.R_far (p := ⟨gb427, 0, none⟩) (Kd.R_far (p := ⟨gb426, 0, none⟩) (Kd.R_types (Kd.R_types HO421.out BK426.out (by decide)) BK427.out (by decide)) (fun _ hk => hk.1.2) (.slice Ao73 t419.length co73)) (fun _ hk => hk.2) (.slice Ao82 t422.length co82)) (fun _ h_ => h_.1)) (fun _ h_ => h_.1)))); (case side2 => exact (Kd.R_reads' HO421.out).2.1); (case side3 => refine (Kd.R_reads' (e := 3) (base := w.heap.size) (ok := fun k_ => (((((some k_ ≠ (v397 : Value).ownBlock ∧ (some k_ ≠ (v400 : Value).ownBlock ∧ some k_ ≠ (.slice Ao44 t405.length co44 : Value).ownBlock)) ∧ some k_ ≠ (.slice Ao51 t411.length co51 : Value).ownBlock) ∧ some k_ ≠ (.slice Ao62 t415.length co62 : Value).ownBlock) ∧ some k_ ≠ (.slice Ao73 t419.length co73 : Value).ownBlock) ∧ some k_ ≠ (.slice Ao82 t422.length co82 : Value).ownBlock)) (n := t402.length) (c := co42) ?_).2.2; exact (by (with_reducible repeat (first | apply Kd.R_alloc | apply Kd.R_drewN | apply Kd.R_drew)); exact (Kd.R_mono (Kd.R_mono (Kd.R_far (p := ⟨gb427, 0, none⟩) (Kd.R_far (p := ⟨gb426, 0, none⟩) (Kd.R_types (Kd.R_types HO404.out BK426.out (by decide)) BK427.out (by decide)) (fun _ hk => hk.1.2) (.slice Ao73 t419.length co73)) (fun _ hk => hk.2) (.slice Ao82 t422.length co82)) (fun _ h_ => h_.1)) (fun _ h_ => h_.1)))); (case side4 => exact (Kd.R_reads' HO404.out).2.1); rintro e w165 ⟨rfl, hb⟩; refine ⟨_, rfl, ?_⟩; have n_ := hkA (Aside0.mk (Kd.R_below (by (with_reducible repeat (first | apply Kd.R_alloc | apply Kd.R_drewN | apply Kd.R_drew)); exact (Kd.R_mono (Kd.R_mono (Kd.R_far (p := ⟨gb427, 0, none⟩) (Kd.R_far (p := ⟨gb426, 0, none⟩) (Kd.R_types (Kd.R_types HO398.out BK426.out (by decide)) BK427.out (by decide)) (fun _ hk => hk.1.2) (.slice Ao73 t419.length co73)) (fun _ hk => hk.2) (.slice Ao82 t422.length co82)) (fun _ h_ => h_.1)) (fun _ h_ => h_.1))) hb)) (hkA (Aside0.mk (Kd.R_below (by (with_reducible repeat (first | apply Kd.R_alloc | apply Kd.R_drewN | apply Kd.R_drew)); exact (Kd.R_mono (Kd.R_mono (Kd.R_far (p := ⟨gb427, 0, none⟩) (Kd.R_far (p := ⟨gb426, 0, none⟩) (Kd.R_types (Kd.R_types HO401.out BK426.out (by decide)) BK427.out (by decide)) (fun _ hk => hk.1.2) (.slice Ao73 t419.length co73)) (fun _ hk => hk.2) (.slice Ao82 t422.length co82)) (fun _ h_ => h_.1)) (fun _ h_ => h_.1))) hb)) (hkA (Aside0.mk (Kd.R_below (by (with_reducible repeat (first | apply Kd.R_alloc | apply Kd.R_drewN | apply Kd.R_drew)); exact (Kd.R_mono (Kd.R_mono (Kd.R_far (p := ⟨gb427, 0, none⟩) (Kd.R_far (p := ⟨gb426, 0, none⟩) (Kd.R_types (Kd.R_types HO404.out BK426.out (by decide)) BK427.out (by decide)) (fun _ hk => hk.1.2) (.slice Ao73 t419.length co73)) (fun _ hk => hk.2) (.slice Ao82 t422.length co82)) (fun _ h_ => h_.1)) (fun _ h_ => h_.1))) hb)) (hkA (Aside0.mk (Kd.R_below (by (with_reducible repeat (first | apply Kd.R_alloc | apply Kd.R_drewN | apply Kd.R_drew)); exact (Kd.R_mono (Kd.R_mono (Kd.R_far (p := ⟨gb427, 0, none⟩) (Kd.R_far (p := ⟨gb426, 0, none⟩) (Kd.R_types (Kd.R_types HO407.out BK426.out (by decide)) BK427.out (by decide)) (fun _ hk => hk.1.2) (.slice Ao73 t419.length co73)) (fun _ hk => hk.2) (.slice Ao82 t422.length co82)) (fun _ h_ => h_.1)) (fun _ h_ => h_.1))) hb)) (hkA (Aside0.mk (Kd.R_below (by (with_reducible repeat (first | apply Kd.R_alloc | apply Kd.R_drewN | apply Kd.R_drew)); exact (Kd.R_mono (Kd.R_mono (Kd.R_far (p := ⟨gb427, 0, none⟩) (Kd.R_far (p := ⟨gb426, 0, none⟩) (Kd.R_types (Kd.R_types HO413.out BK426.out (by decide)) BK427.out (by decide)) (fun _ hk => hk.1.2) (.slice Ao73 t419.length co73)) (fun _ hk => hk.2) (.slice Ao82 t422.length co82)) (fun _ h_ => h_.1)) (fun _ h_ => h_.1))) hb)) (hkA (Aside0.mk (Kd.R_below (by (with_reducible repeat (first | apply Kd.R_alloc | apply Kd.R_drewN | apply Kd.R_drew)); exact (Kd.R_mono (Kd.R_mono (Kd.R_far (p := ⟨gb427, 0, none⟩) (Kd.R_far (p := ⟨gb426, 0, none⟩) (Kd.R_types (Kd.R_types HO417.out BK426.out (by decide)) BK427.out (by decide)) (fun _ hk => hk.1.2) (.slice Ao73 t419.length co73)) (fun _ hk => hk.2) (.slice Ao82 t422.length co82)) (fun _ h_ => h_.1)) (fun _ h_ => h_.1))) hb)) (hkA (Aside0.mk (Kd.R_below (by (with_reducible repeat (first | apply Kd.R_alloc | apply Kd.R_drewN | apply Kd.R_drew)); exact (Kd.R_mono (Kd.R_mono (Kd.R_far (p := ⟨gb427, 0, none⟩) (Kd.R_far (p := ⟨gb426, 0, none⟩) (Kd.R_types (Kd.R_types HO421.out BK426.out (by decide)) BK427.out (by decide)) (fun _ hk => hk.1.2) (.slice Ao73 t419.length co73)) (fun _ hk => hk.2) (.slice Ao82 t422.length co82)) (fun _ h_ => h_.1)) (fun _ h_ => h_.1))) hb)) (hkA (Aside0.mk (Kd.R_below (by (with_reducible repeat (first | apply Kd.R_alloc | apply Kd.R_drewN | apply Kd.R_drew)); exact (Kd.R_mono (Kd.R_mono (Kd.R_far (p := ⟨gb427, 0, none⟩) (Kd.R_far (p := ⟨gb426, 0, none⟩) (Kd.R_types (Kd.R_types HO424.out BK426.out (by decide)) BK427.out (by decide)) (fun _ hk => hk.1.2) (.slice Ao73 t419.length co73)) (fun _ hk => hk.2) (.slice Ao82 t422.length co82)) (fun _ h_ => h_.1)) (fun _ h_ => h_.1))) hb)) (hkA (Aside0.mk (blk_below (g := gb392) (o := .cells #[.slice A0_0 l0_0.length c0_0] 31 (0, 0)) hkPp hb)) (hkA (Aside0.mk (blk_below (g := gb393) (o := .cells #[.slice A1_0 l1_0.length c1_0] 31 (0, 0)) hkPp hb)) (hkA (Aside0.mk (blk_below (g := gb409) (o := .cells #[.slice Ao42 t402.length co42] 38 (0, 0)) hkPp hb)) (hkA (Aside0.mk (blk_below (g := gb410) (o := .cells #[.slice Ao44 t405.length co44] 38 (0, 0)) hkPp hb)) (hkA (Aside0.mk (blk_below (g := gb414) (o := .cells #[.slice Ao51 t411.length co51] 38 (0, 0)) hkPp hb)) (hkA (Aside0.mk (blk_below (g := gb418) (o := .cells #[.slice Ao62 t415.length co62] 38 (0, 0)) hkPp hb)) (hkA (Aside0.mk (blk_below (g := gb426) (o := .cells #[.slice Ao73 t419.length co73] 38 (0, 0)) hkPp hb)) (hkA (Aside0.mk (blk_below (g := gb427) (o := .cells #[.slice Ao82 t422.length co82] 38 (0, 0)) hkPp hb)) (hkU HB hb)))))))))))))))); clear HO398 HO401 HO404 HO407 HO413 HO417 HO421 HO424 BK392 BK393 BK409 BK410 BK414 BK418 BK426 BK427 HB; obtain ⟨HO398, HO401, HO404, HO407, HO413, HO417, HO421, HO424, BK392, BK393, BK409, BK410, BK414, BK418, BK426, BK427, HB⟩ := n_; (try clear hb); (try clear hk)))
     go_meet
     case rel => exact ⟨_, (true), (by first | rfl | (simp; done) | (simp [*]; done)), H', ⟨by first | omega | exact Nat.le_refl _⟩, ⟨by (with_reducible repeat (first | apply Kd.R_alloc | apply Kd.R_drewN | apply Kd.R_drew)); exact Kd.R_mono HO404.out (fun _ hk => ⟨hk.1.1.1.1.2.2, ⟨hk.1.1.1.2, ⟨hk.1.1.2, ⟨hk.1.2, hk.2⟩⟩⟩⟩)⟩, ⟨by (with_reducible repeat (first | apply Kd.R_alloc | apply Kd.R_drewN | apply Kd.R_drew)); exact Kd.R_mono HO407.out (fun _ hk => ⟨hk.1.1.1.1.2.2, ⟨hk.1.1.1.2, ⟨hk.1.1.2, ⟨hk.1.2, hk.2⟩⟩⟩⟩)⟩, ⟨by (with_reducible repeat (first | apply Kd.R_alloc | apply Kd.R_drewN | apply Kd.R_drew)); exact Kd.R_mono HO413.out (fun _ hk => ⟨hk.1.1.1.1.2, ⟨hk.1.1.1.2, ⟨hk.1.1.2, ⟨hk.1.2, hk.2⟩⟩⟩⟩)⟩, ⟨by (with_reducible repeat (first | apply Kd.R_alloc | apply Kd.R_drewN | apply Kd.R_drew)); exact Kd.R_mono HO417.out (fun _ hk => ⟨hk.1.1.1.1.2, ⟨hk.1.1.1.2, ⟨hk.1.1.2, ⟨hk.1.2, hk.2⟩⟩⟩⟩)⟩, ⟨by (with_reducible repeat (first | apply Kd.R_alloc | apply Kd.R_drewN | apply Kd.R_drew)); exact Kd.R_mono HO421.out (fun _ hk => ⟨hk.1.1.1.2, ⟨hk.1.1.2, ⟨hk.1.2, ⟨hk.2, hk.1.1.1.1.1.1⟩⟩⟩⟩)⟩, ⟨by (with_reducible repeat (first | apply Kd.R_alloc | apply Kd.R_drewN | apply Kd.R_drew)); exact Kd.R_mono HO424.out (fun _ hk => ⟨hk.1.1.1.2, ⟨hk.1.1.2, ⟨hk.1.2, ⟨hk.2, hk.1.1.1.1.1.1⟩⟩⟩⟩)⟩, ⟨by refine hkz ?_; exact BK392.out⟩, ⟨by refine hkz ?_; exact BK393.out⟩, ⟨by refine hkz ?_; exact BK409.out⟩, ⟨by refine hkz ?_; exact BK410.out⟩, ⟨by refine hkz ?_; exact BK414.out⟩, ⟨by refine hkz ?_; exact BK418.out⟩, ⟨by refine hkz ?_; exact BK426.out⟩, ⟨by refine hkz ?_; exact BK427.out⟩, ⟨hkS HB⟩⟩
   case rest =>
    clear HC25
    try clear c1
    try clear c2
    try clear p2
    try clear c4
    try clear c5
    try clear c6
    try clear c7
    try clear c8
    try clear c9
    try clear c10
    try clear c11
    try clear c12
    try clear c13
    try clear c14
    try clear c15
    try clear c16
    try clear c23
    try clear c25
    try clear c26
    try clear c27
    try clear c46
    try clear c47
    try clear c52
    try clear c53
    try clear c54
    try clear c55
    try clear c57
    try clear c58
    try clear c63
    try clear c64
    try clear c65
    try clear c66
    try clear c67
    try clear c74
    try clear c75
    try clear c76
    try clear c77
    try clear c78
    try clear c79
    try clear c80
    try clear c83
    try clear c84
    try clear c85
    try clear c86
    try clear c87
    try clear c88
    try clear c91
    try clear c93
    try clear c94
    try clear c95
    try clear c96
    try clear c97
    try clear c98
    try clear c99
    try clear c100
    try clear c102
    try clear c103
    try clear c104
    try clear c105
    try clear c106
    try clear c107
    try clear c110
    try clear c111
    try clear c112
    try clear c113
    try clear c114
    try clear c116
    try clear c117
    try clear c118
    try clear c119
    try clear c122
    try clear c123
    try clear c124
    try clear c125
    try clear c126
    try clear c127
    try clear c128
    try clear c130
    try clear c131
    try clear c132
    try clear c133
    try clear c134
    try clear c135
    try clear c138
    try clear c139
    try clear c140
    try clear c141
    try clear c142
    try clear c144
    try clear c145
    try clear c146
    try clear c147
    try clear c150
    try clear c151
    try clear c152
    try clear c153
    try clear c154
    try clear c155
    try clear c156
    try clear c158
    try clear c159
    try clear c160
    try clear c161
    try clear c162
    try clear c163
    try clear hcz101_0 hcz108_0 hcz115_0 hcz120_0 hcz129_0 hcz136_0 hcz143_0 hcz148_0 hcz157_0 hcz164_0 hcz48_0 hcz56_0 hcz59_0 hcz68_0 hcz69_0 hcz81_0 hcz89_0 hfz101_0 hfz108_0 hfz115_0 hfz120_0 hfz129_0 hfz136_0 hfz143_0 hfz148_0 hfz157_0 hfz164_0 hfz48_0 hfz56_0 hfz59_0 hfz68_0 hfz69_0 hfz81_0 hfz89_0
    obtain ⟨kq, x64_24, rfl, HA, HJ24, HO_410000, HO_411000, HO_415000, HO_419000, HO_427000, HO_428000, BK392, BK393, BK409, BK410, BK414, BK418, BK426, BK427, HB⟩ := hcut
    cases kq with
    | zero => exact absurd HA.out (by simp [laws_FnExactNatDiv.j0])
    | succ kj24 =>
     have H := HA.out
     clear HA
     simp only [laws_FnExactNatDiv.j0] at H
     by_cases c166 : x64_24 = true
     ·subst c166
      have H1 : (some false) = some true := by rw [if_pos rfl] at H; exact H
      clear H
      have H := H1
      clear H1
      exact absurd (Option.some.inj H) (by decide)
     ·replace c166 := Bool.eq_false_iff.mpr c166
      subst c166
      have H1 : ((laws_toNat.f kj24 l0_0).bind fun t430 => ((laws_eqNat.f kj24 t411 t430).bind fun t433 => (if t433 = true then ((laws_toNat.f kj24 l1_0).bind fun t434 => ((laws_eqNat.f kj24 t415 t434).bind fun t437 => (if t437 = true then ((laws_markNat.f kj24 t411 1).bind fun bt438 => ((laws_markNat.f kj24 t415 bt438.1).bind fun bt440 => (if bt440.1 < 0 then (laws_FnExactNatDiv.j1 kj24 t408 true l0_0 l1_0 t402 t405 t419 t422) else ((laws_eqNat.f kj24 t419 t402).bind fun t442 => (if t442 = true then ((laws_eqNat.f kj24 t422 t405).bind fun t443 => (if t443 = true then (laws_FnExactNatDiv.j1 kj24 t408 (t425 != t408) l0_0 l1_0 t402 t405 t419 t422) else (laws_FnExactNatDiv.j1 kj24 t408 true l0_0 l1_0 t402 t405 t419 t422))) else (laws_FnExactNatDiv.j1 kj24 t408 true l0_0 l1_0 t402 t405 t419 t422)))))) else (some false)))) else (some false)))) = some true := by rw [if_neg (show ¬ (false = true) by decide)] at H; exact H
      clear H
      have H := H1
      clear H1
      replace H := hBi H
      obtain ⟨t430, A1670, H⟩ := H
      replace H : ((laws_eqNat.f kj24 t411 t430).bind fun t433 => (if t433 = true then ((laws_toNat.f kj24 l1_0).bind fun t434 => ((laws_eqNat.f kj24 t415 t434).bind fun t437 => (if t437 = true then ((laws_markNat.f kj24 t411 1).bind fun bt438 => ((laws_markNat.f kj24 t415 bt438.1).bind fun bt440 => (if bt440.1 < 0 then (laws_FnExactNatDiv.j1 kj24 t408 true l0_0 l1_0 t402 t405 t419 t422) else ((laws_eqNat.f kj24 t419 t402).bind fun t442 => (if t442 = true then ((laws_eqNat.f kj24 t422 t405).bind fun t443 => (if t443 = true then (laws_FnExactNatDiv.j1 kj24 t408 (t425 != t408) l0_0 l1_0 t402 t405 t419 t422) else (laws_FnExactNatDiv.j1 kj24 t408 true l0_0 l1_0 t402 t405 t419 t422))) else (laws_FnExactNatDiv.j1 kj24 t408 true l0_0 l1_0 t402 t405 t419 t422)))))) else (some false)))) else (some false))) = some true := H
      have A167 := Aside0.mk A1670
      clear A1670
      replace H := hBi H
      obtain ⟨t433, A1680, H⟩ := H
      replace H : (if t433 = true then ((laws_toNat.f kj24 l1_0).bind fun t434 => ((laws_eqNat.f kj24 t415 t434).bind fun t437 => (if t437 = true then ((laws_markNat.f kj24 t411 1).bind fun bt438 => ((laws_markNat.f kj24 t415 bt438.1).bind fun bt440 => (if bt440.1 < 0 then (laws_FnExactNatDiv.j1 kj24 t408 true l0_0 l1_0 t402 t405 t419 t422) else ((laws_eqNat.f kj24 t419 t402).bind fun t442 => (if t442 = true then ((laws_eqNat.f kj24 t422 t405).bind fun t443 => (if t443 = true then (laws_FnExactNatDiv.j1 kj24 t408 (t425 != t408) l0_0 l1_0 t402 t405 t419 t422) else (laws_FnExactNatDiv.j1 kj24 t408 true l0_0 l1_0 t402 t405 t419 t422))) else (laws_FnExactNatDiv.j1 kj24 t408 true l0_0 l1_0 t402 t405 t419 t422)))))) else (some false)))) else (some false)) = some true := H
      have A168 := Aside0.mk A1680
      clear A1680
      by_cases c169 : t433 = true
      ·subst c169
       have H1 : ((laws_toNat.f kj24 l1_0).bind fun t434 => ((laws_eqNat.f kj24 t415 t434).bind fun t437 => (if t437 = true then ((laws_markNat.f kj24 t411 1).bind fun bt438 => ((laws_markNat.f kj24 t415 bt438.1).bind fun bt440 => (if bt440.1 < 0 then (laws_FnExactNatDiv.j1 kj24 t408 true l0_0 l1_0 t402 t405 t419 t422) else ((laws_eqNat.f kj24 t419 t402).bind fun t442 => (if t442 = true then ((laws_eqNat.f kj24 t422 t405).bind fun t443 => (if t443 = true then (laws_FnExactNatDiv.j1 kj24 t408 (t425 != t408) l0_0 l1_0 t402 t405 t419 t422) else (laws_FnExactNatDiv.j1 kj24 t408 true l0_0 l1_0 t402 t405 t419 t422))) else (laws_FnExactNatDiv.j1 kj24 t408 true l0_0 l1_0 t402 t405 t419 t422)))))) else (some false)))) = some true := by rw [if_pos rfl] at H; exact H
       clear H
       have H := H1
       clear H1
       replace H := hBi H
       obtain ⟨t434, A1700, H⟩ := H
       replace H : ((laws_eqNat.f kj24 t415 t434).bind fun t437 => (if t437 = true then ((laws_markNat.f kj24 t411 1).bind fun bt438 => ((laws_markNat.f kj24 t415 bt438.1).bind fun bt440 => (if bt440.1 < 0 then (laws_FnExactNatDiv.j1 kj24 t408 true l0_0 l1_0 t402 t405 t419 t422) else ((laws_eqNat.f kj24 t419 t402).bind fun t442 => (if t442 = true then ((laws_eqNat.f kj24 t422 t405).bind fun t443 => (if t443 = true then (laws_FnExactNatDiv.j1 kj24 t408 (t425 != t408) l0_0 l1_0 t402 t405 t419 t422) else (laws_FnExactNatDiv.j1 kj24 t408 true l0_0 l1_0 t402 t405 t419 t422))) else (laws_FnExactNatDiv.j1 kj24 t408 true l0_0 l1_0 t402 t405 t419 t422)))))) else (some false))) = some true := H
       have A170 := Aside0.mk A1700
       clear A1700
       replace H := hBi H
       obtain ⟨t437, A1710, H⟩ := H
       replace H : (if t437 = true then ((laws_markNat.f kj24 t411 1).bind fun bt438 => ((laws_markNat.f kj24 t415 bt438.1).bind fun bt440 => (if bt440.1 < 0 then (laws_FnExactNatDiv.j1 kj24 t408 true l0_0 l1_0 t402 t405 t419 t422) else ((laws_eqNat.f kj24 t419 t402).bind fun t442 => (if t442 = true then ((laws_eqNat.f kj24 t422 t405).bind fun t443 => (if t443 = true then (laws_FnExactNatDiv.j1 kj24 t408 (t425 != t408) l0_0 l1_0 t402 t405 t419 t422) else (laws_FnExactNatDiv.j1 kj24 t408 true l0_0 l1_0 t402 t405 t419 t422))) else (laws_FnExactNatDiv.j1 kj24 t408 true l0_0 l1_0 t402 t405 t419 t422)))))) else (some false)) = some true := H
       have A171 := Aside0.mk A1710
       clear A1710
       by_cases c172 : t437 = true
       ·subst c172
        have H1 : ((laws_markNat.f kj24 t411 1).bind fun bt438 => ((laws_markNat.f kj24 t415 bt438.1).bind fun bt440 => (if bt440.1 < 0 then (laws_FnExactNatDiv.j1 kj24 t408 true l0_0 l1_0 t402 t405 t419 t422) else ((laws_eqNat.f kj24 t419 t402).bind fun t442 => (if t442 = true then ((laws_eqNat.f kj24 t422 t405).bind fun t443 => (if t443 = true then (laws_FnExactNatDiv.j1 kj24 t408 (t425 != t408) l0_0 l1_0 t402 t405 t419 t422) else (laws_FnExactNatDiv.j1 kj24 t408 true l0_0 l1_0 t402 t405 t419 t422))) else (laws_FnExactNatDiv.j1 kj24 t408 true l0_0 l1_0 t402 t405 t419 t422)))))) = some true := by rw [if_pos rfl] at H; exact H
        clear H
        have H := H1
        clear H1
        replace H := hBi H
        obtain ⟨⟨t438, t439⟩, A1730, H⟩ := H
        replace H : ((laws_markNat.f kj24 t415 t438).bind fun bt440 => (if bt440.1 < 0 then (laws_FnExactNatDiv.j1 kj24 t408 true l0_0 l1_0 t402 t405 t419 t422) else ((laws_eqNat.f kj24 t419 t402).bind fun t442 => (if t442 = true then ((laws_eqNat.f kj24 t422 t405).bind fun t443 => (if t443 = true then (laws_FnExactNatDiv.j1 kj24 t408 (t425 != t408) l0_0 l1_0 t402 t405 t419 t422) else (laws_FnExactNatDiv.j1 kj24 t408 true l0_0 l1_0 t402 t405 t419 t422))) else (laws_FnExactNatDiv.j1 kj24 t408 true l0_0 l1_0 t402 t405 t419 t422))))) = some true := H
        have A173 := Aside0.mk A1730
        clear A1730
        replace H := hBi H
        obtain ⟨⟨t440, t441⟩, A1740, H⟩ := H
        replace H : (if t440 < 0 then (laws_FnExactNatDiv.j1 kj24 t408 true l0_0 l1_0 t402 t405 t419 t422) else ((laws_eqNat.f kj24 t419 t402).bind fun t442 => (if t442 = true then ((laws_eqNat.f kj24 t422 t405).bind fun t443 => (if t443 = true then (laws_FnExactNatDiv.j1 kj24 t408 (t425 != t408) l0_0 l1_0 t402 t405 t419 t422) else (laws_FnExactNatDiv.j1 kj24 t408 true l0_0 l1_0 t402 t405 t419 t422))) else (laws_FnExactNatDiv.j1 kj24 t408 true l0_0 l1_0 t402 t405 t419 t422)))) = some true := H
        have A174 := Aside0.mk A1740
        clear A1740
        have HC175 := Aside0.mk H
        clear H
        try go_wp2
        have n_ := hkA (Aside0.mk (Kd.R_drew HO_410000.out)) (hkA (Aside0.mk (Kd.R_drew HO_411000.out)) (hkA (Aside0.mk (Kd.R_drew HO_415000.out)) (hkA (Aside0.mk (Kd.R_drew HO_419000.out)) (hkA (Aside0.mk (Kd.R_drew HO_427000.out)) (hkA (Aside0.mk (Kd.R_drew HO_428000.out)) (hkA (Aside0.mk (blk_drew BK392.out)) (hkA (Aside0.mk (blk_drew BK393.out)) (hkA (Aside0.mk (blk_drew BK409.out)) (hkA (Aside0.mk (blk_drew BK410.out)) (hkA (Aside0.mk (blk_drew BK414.out)) (hkA (Aside0.mk (blk_drew BK418.out)) (hkA (Aside0.mk (blk_drew BK426.out)) (hkA (Aside0.mk (blk_drew BK427.out)) (Aside0.mk (below_drew1 HB.out)))))))))))))))
        clear HO_410000 HO_411000 HO_415000 HO_419000 HO_427000 HO_428000 BK392 BK393 BK409 BK410 BK414 BK418 BK426 BK427 HB
        obtain ⟨HO_410000, HO_411000, HO_415000, HO_419000, HO_427000, HO_428000, BK392, BK393, BK409, BK410, BK414, BK418, BK426, BK427, HB⟩ := n_
        refine start_ (n := 5) (S := fun w' => w'.cell? ⟨gb414, 0, none⟩ = some (.slice Ao51 t411.length co51) ∧ w'.cell? ⟨gb392, 0, none⟩ = some (.slice A0_0 l0_0.length c0_0)) (ds := []) #[false, false, false, false, false] (by kernel_rfl) rfl rfl ⟨(blk_cell BK414.out 0).trans rfl, (blk_cell BK392.out 0).trans rfl⟩ (fun hHeld => ?_)
        generalize wc.drew = w176 at HO_410000 HO_411000 HO_415000 HO_419000 HO_427000 HO_428000 BK392 BK393 BK409 BK410 BK414 BK418 BK426 BK427 HB hHeld ⊢
        refine hkTk (i := 0) (N := some 65) hHeld ?_ (hy := by rintro w' ⟨s0, s1⟩; go_simp; with_reducible rfl)
        refine hkTk (i := 1) (N := some 66) hHeld ?_ (hy := by rintro w' ⟨s0, s1⟩; go_simp; with_reducible rfl)
        refine one_ (i := 2) (N := some 67) #[true, true, true, false, false] rfl rfl (by kernel_rfl) (by decide) (fun K hK => ?_)
        refine goes_ Try.func26 (by kernel_rfl) rfl #[.agg #[.slice A0_0 l0_0.length c0_0]] (by rfl) rfl rfl hkL ?_
        with_reducible refine (laws_toNat.calls kj24 _ _ l0_0 t430 _ ?side1 ?side2 A167.out).mono ?_
        (case side1 => exact hkC ((Kd.C_below HR0_0.out HB.out)))
        (case side2 => exact HC0_0.out)
        rintro e w177 ⟨v431, rfl, ho0, hb⟩
        refine ⟨_, rfl, ?_⟩
        have n_ := hkA (Aside0.mk (Kd.R_elder' (hkR HO_410000) (Kd.R_base ho0) hb)) (hkA (Aside0.mk (Kd.R_elder' (hkR HO_411000) (Kd.R_base ho0) hb)) (hkA (Aside0.mk (Kd.R_elder' (hkR HO_415000) (Kd.R_base ho0) hb)) (hkA (Aside0.mk (Kd.R_elder' (hkR HO_419000) (Kd.R_base ho0) hb)) (hkA (Aside0.mk (Kd.R_elder' (hkR HO_427000) (Kd.R_base ho0) hb)) (hkA (Aside0.mk (Kd.R_elder' (hkR HO_428000) (Kd.R_base ho0) hb)) (hkA (Aside0.mk (Kd.R_lower (Kd.R_new' (Kd.R_new' (Kd.R_new' (Kd.R_new' (Kd.R_new' (Kd.R_new' ho0 (Kd.R_lt (hkR HO_410000))) (Kd.R_lt (hkR HO_411000))) (Kd.R_lt (hkR HO_415000))) (Kd.R_lt (hkR HO_419000))) (Kd.R_lt (hkR HO_427000))) (Kd.R_lt (hkR HO_428000))) (below_size (hkS HB)))) (hkA (hkBb BK392 hb) (hkA (hkBb BK393 hb) (hkA (hkBb BK409 hb) (hkA (hkBb BK410 hb) (hkA (hkBb BK414 hb) (hkA (hkBb BK418 hb) (hkA (hkBb BK426 hb) (hkA (hkBb BK427 hb) (hkU HB hb)))))))))))))))
        clear HO_410000 HO_411000 HO_415000 HO_419000 HO_427000 HO_428000 BK392 BK393 BK409 BK410 BK414 BK418 BK426 BK427 HB
        obtain ⟨HO_410000, HO_411000, HO_415000, HO_419000, HO_427000, HO_428000, HO432, BK392, BK393, BK409, BK410, BK414, BK418, BK426, BK427, HB⟩ := n_
        (try clear hb); (try clear ho0)
        obtain ⟨Ao178, co178, eo178⟩ := Kd.R_slice HO432.out
        (first | subst eo178 | (injection eo178 with f1_ f2_ f3_; have f4_ := f1_.symm; have f5_ := f3_.symm; clear f1_ f2_ f3_; subst f4_; subst f5_))
        refine hK.out _ _ ⟨(blk_cell BK414.out 0).trans rfl, (blk_cell BK392.out 0).trans rfl⟩ (fun hHeld => ?_)
        clear hK K
        refine hkNo (N := some 67) ?_
        refine one_ (i := 3) (N := some 68) #[true, true, true, true, false] rfl rfl (by kernel_rfl) (by decide) (fun K hK => ?_)
        refine goes_ Try.func27 (by kernel_rfl) rfl #[.agg #[.slice Ao51 t411.length co51], .agg #[.slice Ao178 t430.length co178]] (by rfl) rfl rfl hkL ?_
        with_reducible refine (laws_eqNat.calls kj24 _ _ t411 _ _ t430 true _ ?side1 ?side2 ?side3 ?side4 A168.out).mono ?_
        (case side1 => exact hkC ((Kd.R_reads' HO_415000.out).2.2))
        (case side2 => exact (Kd.R_reads' HO_415000.out).2.1)
        (case side3 => exact hkC ((Kd.R_reads' HO432.out).2.2))
        (case side4 => exact (Kd.R_reads' HO432.out).2.1)
        rintro e w179 ⟨rfl, hb⟩
        refine ⟨_, rfl, ?_⟩
        have n_ := hkA (hkRb HO_410000 hb) (hkA (hkRb HO_411000 hb) (hkA (hkRb HO_415000 hb) (hkA (hkRb HO_419000 hb) (hkA (hkRb HO_427000 hb) (hkA (hkRb HO_428000 hb) (hkA (hkRb HO432 hb) (hkA (hkBb BK392 hb) (hkA (hkBb BK393 hb) (hkA (hkBb BK409 hb) (hkA (hkBb BK410 hb) (hkA (hkBb BK414 hb) (hkA (hkBb BK418 hb) (hkA (hkBb BK426 hb) (hkA (hkBb BK427 hb) (hkU HB hb)))))))))))))))
        clear HO_410000 HO_411000 HO_415000 HO_419000 HO_427000 HO_428000 HO432 BK392 BK393 BK409 BK410 BK414 BK418 BK426 BK427 HB
        obtain ⟨HO_410000, HO_411000, HO_415000, HO_419000, HO_427000, HO_428000, HO432, BK392, BK393, BK409, BK410, BK414, BK418, BK426, BK427, HB⟩ := n_
        (try clear hb)
        refine hK.out _ _ ⟨(blk_cell BK414.out 0).trans rfl, (blk_cell BK392.out 0).trans rfl⟩ (fun hHeld => ?_)
        clear hK K
        refine hkNo (N := some 68) ?_
        refine hkPu (i := 4) (N := some 69) ?_
        refine done_ (by kernel_rfl) ?_
        try go_wp2
        have n_ := hkA (Aside0.mk (Kd.R_drew HO_410000.out)) (hkA (Aside0.mk (Kd.R_drew HO_411000.out)) (hkA (Aside0.mk (Kd.R_drew HO_415000.out)) (hkA (Aside0.mk (Kd.R_drew HO_419000.out)) (hkA (Aside0.mk (Kd.R_drew HO_427000.out)) (hkA (Aside0.mk (Kd.R_drew HO_428000.out)) (hkA (Aside0.mk (Kd.R_drew HO432.out)) (hkA (Aside0.mk (blk_drew BK392.out)) (hkA (Aside0.mk (blk_drew BK393.out)) (hkA (Aside0.mk (blk_drew BK409.out)) (hkA (Aside0.mk (blk_drew BK410.out)) (hkA (Aside0.mk (blk_drew BK414.out)) (hkA (Aside0.mk (blk_drew BK418.out)) (hkA (Aside0.mk (blk_drew BK426.out)) (hkA (Aside0.mk (blk_drew BK427.out)) (Aside0.mk (below_drew1 HB.out))))))))))))))))
        clear HO_410000 HO_411000 HO_415000 HO_419000 HO_427000 HO_428000 HO432 BK392 BK393 BK409 BK410 BK414 BK418 BK426 BK427 HB
        obtain ⟨HO_410000, HO_411000, HO_415000, HO_419000, HO_427000, HO_428000, HO432, BK392, BK393, BK409, BK410, BK414, BK418, BK426, BK427, HB⟩ := n_
        refine start_ (n := 5) (S := fun w' => w'.cell? ⟨gb418, 0, none⟩ = some (.slice Ao62 t415.length co62) ∧ w'.cell? ⟨gb393, 0, none⟩ = some (.slice A1_0 l1_0.length c1_0)) (ds := []) #[false, false, false, false, false] (by kernel_rfl) rfl rfl ⟨(blk_cell BK418.out 0).trans rfl, (blk_cell BK393.out 0).trans rfl⟩ (fun hHeld => ?_)
        generalize w179.drew = w180 at HO_410000 HO_411000 HO_415000 HO_419000 HO_427000 HO_428000 HO432 BK392 BK393 BK409 BK410 BK414 BK418 BK426 BK427 HB hHeld ⊢
        refine hkTk (i := 0) (N := some 70) hHeld ?_ (hy := by rintro w' ⟨s0, s1⟩; go_simp; with_reducible rfl)
        refine hkTk (i := 1) (N := some 71) hHeld ?_ (hy := by rintro w' ⟨s0, s1⟩; go_simp; with_reducible rfl)
        refine one_ (i := 2) (N := some 72) #[true, true, true, false, false] rfl rfl (by kernel_rfl) (by decide) (fun K hK => ?_)
        refine goes_ Try.func26 (by kernel_rfl) rfl #[.agg #[.slice A1_0 l1_0.length c1_0]] (by rfl) rfl rfl hkL ?_
        with_reducible refine (laws_toNat.calls kj24 _ _ l1_0 t434 _ ?side1 ?side2 A170.out).mono ?_
        (case side1 => exact hkC ((Kd.C_below HR1_0.out HB.out)))
        (case side2 => exact HC1_0.out)
        rintro e w181 ⟨v435, rfl, ho0, hb⟩
        refine ⟨_, rfl, ?_⟩
        have n_ := hkA (Aside0.mk (Kd.R_elder' (hkR HO_410000) (Kd.R_base ho0) hb)) (hkA (Aside0.mk (Kd.R_elder' (hkR HO_411000) (Kd.R_base ho0) hb)) (hkA (Aside0.mk (Kd.R_elder' (hkR HO_415000) (Kd.R_base ho0) hb)) (hkA (Aside0.mk (Kd.R_elder' (hkR HO_419000) (Kd.R_base ho0) hb)) (hkA (Aside0.mk (Kd.R_elder' (hkR HO_427000) (Kd.R_base ho0) hb)) (hkA (Aside0.mk (Kd.R_elder' (hkR HO_428000) (Kd.R_base ho0) hb)) (hkA (Aside0.mk (Kd.R_elder' (hkR HO432) (Kd.R_base ho0) hb)) (hkA (Aside0.mk (Kd.R_lower (Kd.R_new' (Kd.R_new' (Kd.R_new' (Kd.R_new' (Kd.R_new' (Kd.R_new' (Kd.R_new' ho0 (Kd.R_lt (hkR HO_410000))) (Kd.R_lt (hkR HO_411000))) (Kd.R_lt (hkR HO_415000))) (Kd.R_lt (hkR HO_419000))) (Kd.R_lt (hkR HO_427000))) (Kd.R_lt (hkR HO_428000))) (Kd.R_lt (hkR HO432))) (below_size (hkS HB)))) (hkA (hkBb BK392 hb) (hkA (hkBb BK393 hb) (hkA (hkBb BK409 hb) (hkA (hkBb BK410 hb) (hkA (hkBb BK414 hb) (hkA (hkBb BK418 hb) (hkA (hkBb BK426 hb) (hkA (hkBb BK427 hb) (hkU HB hb))))))))))))))))
        clear HO_410000 HO_411000 HO_415000 HO_419000 HO_427000 HO_428000 HO432 BK392 BK393 BK409 BK410 BK414 BK418 BK426 BK427 HB
        obtain ⟨HO_410000, HO_411000, HO_415000, HO_419000, HO_427000, HO_428000, HO432, HO436, BK392, BK393, BK409, BK410, BK414, BK418, BK426, BK427, HB⟩ := n_
        (try clear hb); (try clear ho0)
        obtain ⟨Ao182, co182, eo182⟩ := Kd.R_slice HO436.out
        (first | subst eo182 | (injection eo182 with f1_ f2_ f3_; have f4_ := f1_.symm; have f5_ := f3_.symm; clear f1_ f2_ f3_; subst f4_; subst f5_))
        refine hK.out _ _ ⟨(blk_cell BK418.out 0).trans rfl, (blk_cell BK393.out 0).trans rfl⟩ (fun hHeld => ?_)
        clear hK K
        refine hkNo (N := some 72) ?_
        refine one_ (i := 3) (N := some 73) #[true, true, true, true, false] rfl rfl (by kernel_rfl) (by decide) (fun K hK => ?_)
        refine goes_ Try.func27 (by kernel_rfl) rfl #[.agg #[.slice Ao62 t415.length co62], .agg #[.slice Ao182 t434.length co182]] (by rfl) rfl rfl hkL ?_
        with_reducible refine (laws_eqNat.calls kj24 _ _ t415 _ _ t434 true _ ?side1 ?side2 ?side3 ?side4 A171.out).mono ?_
        (case side1 => exact hkC ((Kd.R_reads' HO_419000.out).2.2))
        (case side2 => exact (Kd.R_reads' HO_419000.out).2.1)
        (case side3 => exact hkC ((Kd.R_reads' HO436.out).2.2))
        (case side4 => exact (Kd.R_reads' HO436.out).2.1)
        rintro e w183 ⟨rfl, hb⟩
        refine ⟨_, rfl, ?_⟩
        have n_ := hkA (hkRb HO_410000 hb) (hkA (hkRb HO_411000 hb) (hkA (hkRb HO_415000 hb) (hkA (hkRb HO_419000 hb) (hkA (hkRb HO_427000 hb) (hkA (hkRb HO_428000 hb) (hkA (hkRb HO432 hb) (hkA (hkRb HO436 hb) (hkA (hkBb BK392 hb) (hkA (hkBb BK393 hb) (hkA (hkBb BK409 hb) (hkA (hkBb BK410 hb) (hkA (hkBb BK414 hb) (hkA (hkBb BK418 hb) (hkA (hkBb BK426 hb) (hkA (hkBb BK427 hb) (hkU HB hb))))))))))))))))
        clear HO_410000 HO_411000 HO_415000 HO_419000 HO_427000 HO_428000 HO432 HO436 BK392 BK393 BK409 BK410 BK414 BK418 BK426 BK427 HB
        obtain ⟨HO_410000, HO_411000, HO_415000, HO_419000, HO_427000, HO_428000, HO432, HO436, BK392, BK393, BK409, BK410, BK414, BK418, BK426, BK427, HB⟩ := n_
        (try clear hb)
        refine hK.out _ _ ⟨(blk_cell BK418.out 0).trans rfl, (blk_cell BK393.out 0).trans rfl⟩ (fun hHeld => ?_)
        clear hK K
        refine hkNo (N := some 73) ?_
        refine hkPu (i := 4) (N := some 74) ?_
        refine done_ (by kernel_rfl) ?_
        have hnb184 := NB414_392.out
        have hnc184 := NB392_414.out
        have hnb185 := NB414_393.out
        have hnc185 := NB393_414.out
        have hnb186 := NB414_409.out
        have hnc186 := NB409_414.out
        have hnb187 := NB414_410.out
        have hnc187 := NB410_414.out
        have hnb188 := NB414_418.out
        have hnc188 := NB418_414.out
        have hnb189 := NB414_426.out
        have hnc189 := NB426_414.out
        have hnb190 := NB414_427.out
        have hnc190 := NB427_414.out
        obtain ⟨hcz191_0, hfz191_0⟩ := hkc1 BK414
        go_upto_region 21 with (first | ((with_reducible refine gate_callee (f := 28) rfl ?_); refine hkGo (N := some 77) Try.func28 #[.agg #[.slice Ao51 t411.length co51], .int .i64 1] ?_; (with_reducible refine (laws_markNat.calls kj24 (fun k_ => some k_ = (.slice Ao51 t411.length co51 : Value).ownBlock) (.slice Ao51 t411.length co51) t411 1 t438 t439 w _ ?side1 ?side2 A173.out).mono ?_); (case side1 => exact hkS HB); (case side2 => exact Kd.R_tight rfl HO_415000.out); rintro e w192 ⟨rfl, hy0, hb, hkp⟩; refine ⟨_, rfl, ?_⟩; have n_ := hkA (Aside0.mk (Kd.R_mono (ok' := fun k_ => some k_ ≠ (.slice Ao44 t405.length co44 : Value).ownBlock ∧ some k_ ≠ (.slice Ao51 t411.length co51 : Value).ownBlock ∧ some k_ ≠ (.slice Ao62 t415.length co62 : Value).ownBlock ∧ some k_ ≠ (.slice Ao73 t419.length co73 : Value).ownBlock ∧ some k_ ≠ (.slice Ao82 t422.length co82 : Value).ownBlock ∧ some k_ ≠ (.slice Ao178 t430.length co178 : Value).ownBlock ∧ some k_ ≠ (.slice Ao182 t434.length co182 : Value).ownBlock) (Kd.R_keptB (HO_410000.out) hkp (fun k_ hk_ hs_ => by first | exact (hk_.1.1.2.1) hs_ | exact hkP hk_ hs_)) (fun k_ hk_ => by first | exact ⟨hk_.1.1.1.1, hk_.1.1.1.2.1, hk_.1.1.1.2.2.1, hk_.1.1.1.2.2.2.1, hk_.1.1.1.2.2.2.2, hk_.1.1.2, hk_.1.2⟩ | exact hkQ hk_))) (hkA (Aside0.mk (Kd.R_mono (ok' := fun k_ => some k_ ≠ (.slice Ao42 t402.length co42 : Value).ownBlock ∧ some k_ ≠ (.slice Ao51 t411.length co51 : Value).ownBlock ∧ some k_ ≠ (.slice Ao62 t415.length co62 : Value).ownBlock ∧ some k_ ≠ (.slice Ao73 t419.length co73 : Value).ownBlock ∧ some k_ ≠ (.slice Ao82 t422.length co82 : Value).ownBlock ∧ some k_ ≠ (.slice Ao178 t430.length co178 : Value).ownBlock ∧ some k_ ≠ (.slice Ao182 t434.length co182 : Value).ownBlock) (Kd.R_keptB (HO_411000.out) hkp (fun k_ hk_ hs_ => by first | exact (hk_.1.1.2.1) hs_ | exact hkP hk_ hs_)) (fun k_ hk_ => by first | exact ⟨hk_.1.1.1.1, hk_.1.1.1.2.1, hk_.1.1.1.2.2.1, hk_.1.1.1.2.2.2.1, hk_.1.1.1.2.2.2.2, hk_.1.1.2, hk_.1.2⟩ | exact hkQ hk_))) (hkA (Aside0.mk (Kd.R_reok rfl hy0 (fun k_ e_ => HO_415000.out.1 k_ e_))) (hkA (Aside0.mk (Kd.R_mono (ok' := fun k_ => some k_ ≠ (.slice Ao42 t402.length co42 : Value).ownBlock ∧ some k_ ≠ (.slice Ao44 t405.length co44 : Value).ownBlock ∧ some k_ ≠ (.slice Ao51 t411.length co51 : Value).ownBlock ∧ some k_ ≠ (.slice Ao73 t419.length co73 : Value).ownBlock ∧ some k_ ≠ (.slice Ao82 t422.length co82 : Value).ownBlock ∧ some k_ ≠ (.slice Ao178 t430.length co178 : Value).ownBlock ∧ some k_ ≠ (.slice Ao182 t434.length co182 : Value).ownBlock) (Kd.R_keptB (HO_419000.out) hkp (fun k_ hk_ hs_ => by first | exact (hk_.1.1.2.2.1) hs_ | exact hkP hk_ hs_)) (fun k_ hk_ => by first | exact ⟨hk_.1.1.1.1, hk_.1.1.1.2.1, hk_.1.1.1.2.2.1, hk_.1.1.1.2.2.2.1, hk_.1.1.1.2.2.2.2, hk_.1.1.2, hk_.1.2⟩ | exact hkQ hk_))) (hkA (Aside0.mk (Kd.R_mono (ok' := fun k_ => some k_ ≠ (.slice Ao42 t402.length co42 : Value).ownBlock ∧ some k_ ≠ (.slice Ao44 t405.length co44 : Value).ownBlock ∧ some k_ ≠ (.slice Ao51 t411.length co51 : Value).ownBlock ∧ some k_ ≠ (.slice Ao62 t415.length co62 : Value).ownBlock ∧ some k_ ≠ (.slice Ao82 t422.length co82 : Value).ownBlock ∧ some k_ ≠ (.slice Ao178 t430.length co178 : Value).ownBlock ∧ some k_ ≠ (.slice Ao182 t434.length co182 : Value).ownBlock) (Kd.R_keptB (HO_427000.out) hkp (fun k_ hk_ hs_ => by first | exact (hk_.1.1.2.2.1) hs_ | exact hkP hk_ hs_)) (fun k_ hk_ => by first | exact ⟨hk_.1.1.1.1, hk_.1.1.1.2.1, hk_.1.1.1.2.2.1, hk_.1.1.1.2.2.2.1, hk_.1.1.1.2.2.2.2, hk_.1.1.2, hk_.1.2⟩ | exact hkQ hk_))) (hkA (Aside0.mk (Kd.R_mono (ok' := fun k_ => some k_ ≠ (.slice Ao42 t402.length co42 : Value).ownBlock ∧ some k_ ≠ (.slice Ao44 t405.length co44 : Value).ownBlock ∧ some k_ ≠ (.slice Ao51 t411.length co51 : Value).ownBlock ∧ some k_ ≠ (.slice Ao62 t415.length co62 : Value).ownBlock ∧ some k_ ≠ (.slice Ao73 t419.length co73 : Value).ownBlock ∧ some k_ ≠ (.slice Ao178 t430.length co178 : Value).ownBlock ∧ some k_ ≠ (.slice Ao182 t434.length co182 : Value).ownBlock) (Kd.R_keptB (HO_428000.out) hkp (fun k_ hk_ hs_ => by first | exact (hk_.1.1.2.2.1) hs_ | exact hkP hk_ hs_)) (fun k_ hk_ => by first | exact ⟨hk_.1.1.1.1, hk_.1.1.1.2.1, hk_.1.1.1.2.2.1, hk_.1.1.1.2.2.2.1, hk_.1.1.1.2.2.2.2, hk_.1.1.2, hk_.1.2⟩ | exact hkQ hk_))) (hkA (Aside0.mk (blk_kept (hkB BK392) hkp (fun hs_ => (fun e_ => (Kd.R_ne HO_415000.out BK392.out (by decide)) e_) hs_))) (hkA (Aside0.mk (blk_kept (hkB BK393) hkp (fun hs_ => (fun e_ => (Kd.R_ne HO_415000.out BK393.out (by decide)) e_) hs_))) (hkA (Aside0.mk (blk_kept (hkB BK409) hkp (fun hs_ => (fun e_ => (Kd.R_ne HO_415000.out BK409.out (by decide)) e_) hs_))) (hkA (Aside0.mk (blk_kept (hkB BK410) hkp (fun hs_ => (fun e_ => (Kd.R_ne HO_415000.out BK410.out (by decide)) e_) hs_))) (hkA (Aside0.mk (blk_kept (hkB BK414) hkp (fun hs_ => (fun e_ => (Kd.R_ne HO_415000.out BK414.out (by decide)) e_) hs_))) (hkA (Aside0.mk (blk_kept (hkB BK418) hkp (fun hs_ => (fun e_ => (Kd.R_ne HO_415000.out BK418.out (by decide)) e_) hs_))) (hkA (Aside0.mk (blk_kept (hkB BK426) hkp (fun hs_ => (fun e_ => (Kd.R_ne HO_415000.out BK426.out (by decide)) e_) hs_))) (hkA (Aside0.mk (blk_kept (hkB BK427) hkp (fun hs_ => (fun e_ => (Kd.R_ne HO_415000.out BK427.out (by decide)) e_) hs_))) (hkA (Aside0.mk (Kd.R_mono (ok' := fun k_ => some k_ ≠ (.slice Ao42 t402.length co42 : Value).ownBlock ∧ some k_ ≠ (.slice Ao44 t405.length co44 : Value).ownBlock ∧ some k_ ≠ (.slice Ao51 t411.length co51 : Value).ownBlock ∧ some k_ ≠ (.slice Ao62 t415.length co62 : Value).ownBlock ∧ some k_ ≠ (.slice Ao73 t419.length co73 : Value).ownBlock ∧ some k_ ≠ (.slice Ao82 t422.length co82 : Value).ownBlock ∧ some k_ ≠ (.slice Ao182 t434.length co182 : Value).ownBlock) (Kd.R_keptB (HO432.out) hkp (fun k_ hk_ hs_ => by first | exact (hk_.1.1.1.1.2) hs_ | exact hkP hk_ hs_)) (fun k_ hk_ => by first | exact ⟨hk_.1.1.1.1.1.1.1.2, hk_.1.1.1.1.1.1.2, hk_.1.1.1.1.1.2, hk_.1.1.1.1.2, hk_.1.1.1.2, hk_.1.1.2, hk_.1.2⟩ | exact hkQ hk_))) (hkA (Aside0.mk (Kd.R_mono (ok' := fun k_ => some k_ ≠ (.slice Ao42 t402.length co42 : Value).ownBlock ∧ some k_ ≠ (.slice Ao44 t405.length co44 : Value).ownBlock ∧ some k_ ≠ (.slice Ao51 t411.length co51 : Value).ownBlock ∧ some k_ ≠ (.slice Ao62 t415.length co62 : Value).ownBlock ∧ some k_ ≠ (.slice Ao73 t419.length co73 : Value).ownBlock ∧ some k_ ≠ (.slice Ao82 t422.length co82 : Value).ownBlock ∧ some k_ ≠ (.slice Ao178 t430.length co178 : Value).ownBlock) (Kd.R_keptB (HO436.out) hkp (fun k_ hk_ hs_ => by first | exact (hk_.1.1.1.1.2) hs_ | exact hkP hk_ hs_)) (fun k_ hk_ => by first | exact ⟨hk_.1.1.1.1.1.1.1.2, hk_.1.1.1.1.1.1.2, hk_.1.1.1.1.1.2, hk_.1.1.1.1.2, hk_.1.1.1.2, hk_.1.1.2, hk_.1.2⟩ | exact hkQ hk_))) (Aside0.mk (hb))))))))))))))))); clear HO_410000 HO_411000 HO_415000 HO_419000 HO_427000 HO_428000 BK392 BK393 BK409 BK410 BK414 BK418 BK426 BK427 HO432 HO436 HB; obtain ⟨HO_410000, HO_411000, HO_415000, HO_419000, HO_427000, HO_428000, BK392, BK393, BK409, BK410, BK414, BK418, BK426, BK427, HO432, HO436, HB⟩ := n_; (try clear hb); (try clear hkp); (try clear hy0); have hnb193 := NB418_392.out; have hnc193 := NB392_418.out; have hnb194 := NB418_393.out; have hnc194 := NB393_418.out; have hnb195 := NB418_409.out; have hnc195 := NB409_418.out; have hnb196 := NB418_410.out; have hnc196 := NB410_418.out; have hnb197 := NB418_426.out; have hnc197 := NB426_418.out; have hnb198 := NB418_427.out; have hnc198 := NB427_418.out; obtain ⟨hcz199_0, hfz199_0⟩ := hkc1 BK418) | ((with_reducible refine gate_callee (f := 28) rfl ?_); refine hkGo (N := some 80) Try.func28 #[.agg #[.slice Ao62 t415.length co62], .int .i64 t438] ?_; (with_reducible refine (laws_markNat.calls kj24 (fun k_ => some k_ = (.slice Ao62 t415.length co62 : Value).ownBlock) (.slice Ao62 t415.length co62) t415 t438 t440 t441 w _ ?side1 ?side2 A174.out).mono ?_); (case side1 => exact hkS HB); (case side2 => exact Kd.R_tight rfl HO_419000.out); rintro e w200 ⟨rfl, hy0, hb, hkp⟩; refine ⟨_, rfl, ?_⟩; have n_ := hkA (Aside0.mk (Kd.R_mono (ok' := fun k_ => some k_ ≠ (.slice Ao44 t405.length co44 : Value).ownBlock ∧ some k_ ≠ (.slice Ao51 t411.length co51 : Value).ownBlock ∧ some k_ ≠ (.slice Ao62 t415.length co62 : Value).ownBlock ∧ some k_ ≠ (.slice Ao73 t419.length co73 : Value).ownBlock ∧ some k_ ≠ (.slice Ao82 t422.length co82 : Value).ownBlock ∧ some k_ ≠ (.slice Ao178 t430.length co178 : Value).ownBlock ∧ some k_ ≠ (.slice Ao182 t434.length co182 : Value).ownBlock) (Kd.R_keptB (HO_410000.out) hkp (fun k_ hk_ hs_ => by first | exact (hk_.2.2.1) hs_ | exact hkP hk_ hs_)) (fun k_ hk_ => by first | exact ⟨hk_.1.1, hk_.1.2.1, hk_.1.2.2.1, hk_.1.2.2.2.1, hk_.1.2.2.2.2.1, hk_.1.2.2.2.2.2.1, hk_.1.2.2.2.2.2.2⟩ | exact hkQ hk_))) (hkA (Aside0.mk (Kd.R_mono (ok' := fun k_ => some k_ ≠ (.slice Ao42 t402.length co42 : Value).ownBlock ∧ some k_ ≠ (.slice Ao51 t411.length co51 : Value).ownBlock ∧ some k_ ≠ (.slice Ao62 t415.length co62 : Value).ownBlock ∧ some k_ ≠ (.slice Ao73 t419.length co73 : Value).ownBlock ∧ some k_ ≠ (.slice Ao82 t422.length co82 : Value).ownBlock ∧ some k_ ≠ (.slice Ao178 t430.length co178 : Value).ownBlock ∧ some k_ ≠ (.slice Ao182 t434.length co182 : Value).ownBlock) (Kd.R_keptB (HO_411000.out) hkp (fun k_ hk_ hs_ => by first | exact (hk_.2.2.1) hs_ | exact hkP hk_ hs_)) (fun k_ hk_ => by first | exact ⟨hk_.1.1, hk_.1.2.1, hk_.1.2.2.1, hk_.1.2.2.2.1, hk_.1.2.2.2.2.1, hk_.1.2.2.2.2.2.1, hk_.1.2.2.2.2.2.2⟩ | exact hkQ hk_))) (hkA (Aside0.mk (Kd.R_mono (ok' := fun k_ => some k_ ≠ (.slice Ao42 t402.length co42 : Value).ownBlock ∧ some k_ ≠ (.slice Ao44 t405.length co44 : Value).ownBlock ∧ some k_ ≠ (.slice Ao62 t415.length co62 : Value).ownBlock ∧ some k_ ≠ (.slice Ao73 t419.length co73 : Value).ownBlock ∧ some k_ ≠ (.slice Ao82 t422.length co82 : Value).ownBlock ∧ some k_ ≠ (.slice Ao178 t430.length co178 : Value).ownBlock ∧ some k_ ≠ (.slice Ao182 t434.length co182 : Value).ownBlock) (Kd.R_keptB (HO_415000.out) hkp (fun k_ hk_ hs_ => by first | exact (hk_.1.1.2.2.1) hs_ | exact hkP hk_ hs_)) (fun k_ hk_ => by first | exact ⟨hk_.1.1.1.1, hk_.1.1.1.2.1, hk_.1.1.1.2.2.1, hk_.1.1.1.2.2.2.1, hk_.1.1.1.2.2.2.2, hk_.1.1.2, hk_.1.2⟩ | exact hkQ hk_))) (hkA (Aside0.mk (Kd.R_reok rfl hy0 (fun k_ e_ => HO_419000.out.1 k_ e_))) (hkA (Aside0.mk (Kd.R_mono (ok' := fun k_ => some k_ ≠ (.slice Ao42 t402.length co42 : Value).ownBlock ∧ some k_ ≠ (.slice Ao44 t405.length co44 : Value).ownBlock ∧ some k_ ≠ (.slice Ao51 t411.length co51 : Value).ownBlock ∧ some k_ ≠ (.slice Ao62 t415.length co62 : Value).ownBlock ∧ some k_ ≠ (.slice Ao82 t422.length co82 : Value).ownBlock ∧ some k_ ≠ (.slice Ao178 t430.length co178 : Value).ownBlock ∧ some k_ ≠ (.slice Ao182 t434.length co182 : Value).ownBlock) (Kd.R_keptB (HO_427000.out) hkp (fun k_ hk_ hs_ => by first | exact (hk_.2.2.2.1) hs_ | exact hkP hk_ hs_)) (fun k_ hk_ => by first | exact ⟨hk_.1.1, hk_.1.2.1, hk_.1.2.2.1, hk_.1.2.2.2.1, hk_.1.2.2.2.2.1, hk_.1.2.2.2.2.2.1, hk_.1.2.2.2.2.2.2⟩ | exact hkQ hk_))) (hkA (Aside0.mk (Kd.R_mono (ok' := fun k_ => some k_ ≠ (.slice Ao42 t402.length co42 : Value).ownBlock ∧ some k_ ≠ (.slice Ao44 t405.length co44 : Value).ownBlock ∧ some k_ ≠ (.slice Ao51 t411.length co51 : Value).ownBlock ∧ some k_ ≠ (.slice Ao62 t415.length co62 : Value).ownBlock ∧ some k_ ≠ (.slice Ao73 t419.length co73 : Value).ownBlock ∧ some k_ ≠ (.slice Ao178 t430.length co178 : Value).ownBlock ∧ some k_ ≠ (.slice Ao182 t434.length co182 : Value).ownBlock) (Kd.R_keptB (HO_428000.out) hkp (fun k_ hk_ hs_ => by first | exact (hk_.2.2.2.1) hs_ | exact hkP hk_ hs_)) (fun k_ hk_ => by first | exact ⟨hk_.1.1, hk_.1.2.1, hk_.1.2.2.1, hk_.1.2.2.2.1, hk_.1.2.2.2.2.1, hk_.1.2.2.2.2.2.1, hk_.1.2.2.2.2.2.2⟩ | exact hkQ hk_))) (hkA (Aside0.mk (blk_kept (hkB BK392) hkp (fun hs_ => (fun e_ => (Kd.R_ne HO_419000.out BK392.out (by decide)) e_) hs_))) (hkA (Aside0.mk (blk_kept (hkB BK393) hkp (fun hs_ => (fun e_ => (Kd.R_ne HO_419000.out BK393.out (by decide)) e_) hs_))) (hkA (Aside0.mk (blk_kept (hkB BK409) hkp (fun hs_ => (fun e_ => (Kd.R_ne HO_419000.out BK409.out (by decide)) e_) hs_))) (hkA (Aside0.mk (blk_kept (hkB BK410) hkp (fun hs_ => (fun e_ => (Kd.R_ne HO_419000.out BK410.out (by decide)) e_) hs_))) (hkA (Aside0.mk (blk_kept (hkB BK414) hkp (fun hs_ => (fun e_ => (Kd.R_ne HO_419000.out BK414.out (by decide)) e_) hs_))) (hkA (Aside0.mk (blk_kept (hkB BK418) hkp (fun hs_ => (fun e_ => (Kd.R_ne HO_419000.out BK418.out (by decide)) e_) hs_))) (hkA (Aside0.mk (blk_kept (hkB BK426) hkp (fun hs_ => (fun e_ => (Kd.R_ne HO_419000.out BK426.out (by decide)) e_) hs_))) (hkA (Aside0.mk (blk_kept (hkB BK427) hkp (fun hs_ => (fun e_ => (Kd.R_ne HO_419000.out BK427.out (by decide)) e_) hs_))) (hkA (Aside0.mk (Kd.R_mono (ok' := fun k_ => some k_ ≠ (.slice Ao42 t402.length co42 : Value).ownBlock ∧ some k_ ≠ (.slice Ao44 t405.length co44 : Value).ownBlock ∧ some k_ ≠ (.slice Ao51 t411.length co51 : Value).ownBlock ∧ some k_ ≠ (.slice Ao62 t415.length co62 : Value).ownBlock ∧ some k_ ≠ (.slice Ao73 t419.length co73 : Value).ownBlock ∧ some k_ ≠ (.slice Ao82 t422.length co82 : Value).ownBlock ∧ some k_ ≠ (.slice Ao182 t434.length co182 : Value).ownBlock) (Kd.R_keptB (HO432.out) hkp (fun k_ hk_ hs_ => by first | exact (hk_.2.2.2.1) hs_ | exact hkP hk_ hs_)) (fun k_ hk_ => by first | exact ⟨hk_.1.1, hk_.1.2.1, hk_.1.2.2.1, hk_.1.2.2.2.1, hk_.1.2.2.2.2.1, hk_.1.2.2.2.2.2.1, hk_.1.2.2.2.2.2.2⟩ | exact hkQ hk_))) (hkA (Aside0.mk (Kd.R_mono (ok' := fun k_ => some k_ ≠ (.slice Ao42 t402.length co42 : Value).ownBlock ∧ some k_ ≠ (.slice Ao44 t405.length co44 : Value).ownBlock ∧ some k_ ≠ (.slice Ao51 t411.length co51 : Value).ownBlock ∧ some k_ ≠ (.slice Ao62 t415.length co62 : Value).ownBlock ∧ some k_ ≠ (.slice Ao73 t419.length co73 : Value).ownBlock ∧ some k_ ≠ (.slice Ao82 t422.length co82 : Value).ownBlock ∧ some k_ ≠ (.slice Ao178 t430.length co178 : Value).ownBlock) (Kd.R_keptB (HO436.out) hkp (fun k_ hk_ hs_ => by first | exact (hk_.2.2.2.1) hs_ | exact hkP hk_ hs_)) (fun k_ hk_ => by first | exact ⟨hk_.1.1, hk_.1.2.1, hk_.1.2.2.1, hk_.1.2.2.2.1, hk_.1.2.2.2.2.1, hk_.1.2.2.2.2.2.1, hk_.1.2.2.2.2.2.2⟩ | exact hkQ hk_))) (Aside0.mk (hb))))))))))))))))); clear HO_410000 HO_411000 HO_415000 HO_419000 HO_427000 HO_428000 BK392 BK393 BK409 BK410 BK414 BK418 BK426 BK427 HO432 HO436 HB; obtain ⟨HO_410000, HO_411000, HO_415000, HO_419000, HO_427000, HO_428000, BK392, BK393, BK409, BK410, BK414, BK418, BK426, BK427, HO432, HO436, HB⟩ := n_; (try clear hb); (try clear hkp); (try clear hy0)))
        (try simp only [Act.put, List.setIfInBounds_toArray, List.set_cons_zero, List.set_cons_succ])
        go_cut [99] (fun v99 wc => ∃ (kq : Nat) (x99_174 : Bool), v99 = .bool x99_174 ∧ Aside0 (laws_FnExactNatDiv.j1 kq t408 x99_174 l0_0 l1_0 t402 t405 t419 t422 = some true) ∧ Aside0 (kq ≤ kj24) ∧ Aside0 (Kd.R (Kd.int .i64) 3 wc w.heap.size (fun k_ => some k_ ≠ ((.slice Ao44 t405.length co44) : Value).ownBlock ∧ some k_ ≠ ((.slice Ao51 t411.length co51) : Value).ownBlock ∧ some k_ ≠ ((.slice Ao62 t415.length co62) : Value).ownBlock ∧ some k_ ≠ ((.slice Ao73 t419.length co73) : Value).ownBlock ∧ some k_ ≠ ((.slice Ao82 t422.length co82) : Value).ownBlock) (.slice Ao42 t402.length co42) t402) ∧ Aside0 (Kd.R (Kd.int .i64) 3 wc w.heap.size (fun k_ => some k_ ≠ ((.slice Ao42 t402.length co42) : Value).ownBlock ∧ some k_ ≠ ((.slice Ao51 t411.length co51) : Value).ownBlock ∧ some k_ ≠ ((.slice Ao62 t415.length co62) : Value).ownBlock ∧ some k_ ≠ ((.slice Ao73 t419.length co73) : Value).ownBlock ∧ some k_ ≠ ((.slice Ao82 t422.length co82) : Value).ownBlock) (.slice Ao44 t405.length co44) t405) ∧ Aside0 (Kd.R (Kd.int .i64) 3 wc w.heap.size (fun k_ => some k_ ≠ ((.slice Ao42 t402.length co42) : Value).ownBlock ∧ some k_ ≠ ((.slice Ao44 t405.length co44) : Value).ownBlock ∧ some k_ ≠ ((.slice Ao62 t415.length co62) : Value).ownBlock ∧ some k_ ≠ ((.slice Ao73 t419.length co73) : Value).ownBlock ∧ some k_ ≠ ((.slice Ao82 t422.length co82) : Value).ownBlock) (.slice Ao51 t411.length co51) t439) ∧ Aside0 (Kd.R (Kd.int .i64) 3 wc w.heap.size (fun k_ => some k_ ≠ ((.slice Ao42 t402.length co42) : Value).ownBlock ∧ some k_ ≠ ((.slice Ao44 t405.length co44) : Value).ownBlock ∧ some k_ ≠ ((.slice Ao51 t411.length co51) : Value).ownBlock ∧ some k_ ≠ ((.slice Ao73 t419.length co73) : Value).ownBlock ∧ some k_ ≠ ((.slice Ao82 t422.length co82) : Value).ownBlock) (.slice Ao62 t415.length co62) t441) ∧ Aside0 (Kd.R (Kd.int .i64) 3 wc w.heap.size (fun k_ => some k_ ≠ ((.slice Ao42 t402.length co42) : Value).ownBlock ∧ some k_ ≠ ((.slice Ao44 t405.length co44) : Value).ownBlock ∧ some k_ ≠ ((.slice Ao51 t411.length co51) : Value).ownBlock ∧ some k_ ≠ ((.slice Ao62 t415.length co62) : Value).ownBlock ∧ some k_ ≠ ((.slice Ao82 t422.length co82) : Value).ownBlock) (.slice Ao73 t419.length co73) t419) ∧ Aside0 (Kd.R (Kd.int .i64) 3 wc w.heap.size (fun k_ => some k_ ≠ ((.slice Ao42 t402.length co42) : Value).ownBlock ∧ some k_ ≠ ((.slice Ao44 t405.length co44) : Value).ownBlock ∧ some k_ ≠ ((.slice Ao51 t411.length co51) : Value).ownBlock ∧ some k_ ≠ ((.slice Ao62 t415.length co62) : Value).ownBlock ∧ some k_ ≠ ((.slice Ao73 t419.length co73) : Value).ownBlock) (.slice Ao82 t422.length co82) t422) ∧ Aside0 (wc.heap[gb392]? = some (.cells #[(.slice A0_0 l0_0.length c0_0)] 31 (0, 0))) ∧ Aside0 (wc.heap[gb393]? = some (.cells #[(.slice A1_0 l1_0.length c1_0)] 31 (0, 0))) ∧ Aside0 (wc.heap[gb409]? = some (.cells #[(.slice Ao42 t402.length co42)] 38 (0, 0))) ∧ Aside0 (wc.heap[gb410]? = some (.cells #[(.slice Ao44 t405.length co44)] 38 (0, 0))) ∧ Aside0 (wc.heap[gb414]? = some (.cells #[(.slice Ao51 t411.length co51)] 38 (0, 0))) ∧ Aside0 (wc.heap[gb418]? = some (.cells #[(.slice Ao62 t415.length co62)] 38 (0, 0))) ∧ Aside0 (wc.heap[gb426]? = some (.cells #[(.slice Ao73 t419.length co73)] 38 (0, 0))) ∧ Aside0 (wc.heap[gb427]? = some (.cells #[(.slice Ao82 t422.length co82)] 38 (0, 0))) ∧ Aside0 (Below w.heap.size w wc))
        case first =>
         have H := HC175.out
         clear HC175
         by_cases c201 : t440 < 0
         ·rw [if_pos c201] at H
          have c201b0 : decide (t440 < 0) = true := decide_eq_true c201
          clear c201
          (first | rw [c201b0] | (simp only [i64_w, i32_w]; rw [c201b0]) | skip)
          have H' := Aside0.mk H
          clear H
          go_wp2
          go_meet
          case rel => exact ⟨_, (true), (by first | rfl | (simp; done) | (simp [*]; done)), H', ⟨by have := HJ24.out; first | omega | exact Nat.le_refl _⟩, ⟨by (with_reducible repeat (first | apply Kd.R_alloc | apply Kd.R_drewN | apply Kd.R_drew)); exact Kd.R_mono HO_410000.out (fun _ hk => ⟨hk.1, ⟨hk.2.1, ⟨hk.2.2.1, ⟨hk.2.2.2.1, hk.2.2.2.2.1⟩⟩⟩⟩)⟩, ⟨by (with_reducible repeat (first | apply Kd.R_alloc | apply Kd.R_drewN | apply Kd.R_drew)); exact Kd.R_mono HO_411000.out (fun _ hk => ⟨hk.1, ⟨hk.2.1, ⟨hk.2.2.1, ⟨hk.2.2.2.1, hk.2.2.2.2.1⟩⟩⟩⟩)⟩, ⟨by (with_reducible repeat (first | apply Kd.R_alloc | apply Kd.R_drewN | apply Kd.R_drew)); exact Kd.R_mono HO_415000.out (fun _ hk => ⟨hk.1, ⟨hk.2.1, ⟨hk.2.2.1, ⟨hk.2.2.2.1, hk.2.2.2.2.1⟩⟩⟩⟩)⟩, ⟨by (with_reducible repeat (first | apply Kd.R_alloc | apply Kd.R_drewN | apply Kd.R_drew)); exact Kd.R_mono HO_419000.out (fun _ hk => ⟨hk.1, ⟨hk.2.1, ⟨hk.2.2.1, ⟨hk.2.2.2.1, hk.2.2.2.2.1⟩⟩⟩⟩)⟩, ⟨by (with_reducible repeat (first | apply Kd.R_alloc | apply Kd.R_drewN | apply Kd.R_drew)); exact Kd.R_mono HO_427000.out (fun _ hk => ⟨hk.1, ⟨hk.2.1, ⟨hk.2.2.1, ⟨hk.2.2.2.1, hk.2.2.2.2.1⟩⟩⟩⟩)⟩, ⟨by (with_reducible repeat (first | apply Kd.R_alloc | apply Kd.R_drewN | apply Kd.R_drew)); exact Kd.R_mono HO_428000.out (fun _ hk => ⟨hk.1, ⟨hk.2.1, ⟨hk.2.2.1, ⟨hk.2.2.2.1, hk.2.2.2.2.1⟩⟩⟩⟩)⟩, ⟨by refine hkz ?_; exact BK392.out⟩, ⟨by refine hkz ?_; exact BK393.out⟩, ⟨by refine hkz ?_; exact BK409.out⟩, ⟨by refine hkz ?_; exact BK410.out⟩, ⟨by refine hkz ?_; exact BK414.out⟩, ⟨by refine hkz ?_; exact BK418.out⟩, ⟨by refine hkz ?_; exact BK426.out⟩, ⟨by refine hkz ?_; exact BK427.out⟩, ⟨hkS HB⟩⟩
         ·rw [if_neg c201] at H
          have c201b0 : decide (t440 < 0) = false := decide_eq_false c201
          clear c201
          (first | rw [c201b0] | (simp only [i64_w, i32_w]; rw [c201b0]) | skip)
          replace H := hBi H
          obtain ⟨t442, A2020, H⟩ := H
          replace H : (if t442 = true then ((laws_eqNat.f kj24 t422 t405).bind fun t443 => (if t443 = true then (laws_FnExactNatDiv.j1 kj24 t408 (t425 != t408) l0_0 l1_0 t402 t405 t419 t422) else (laws_FnExactNatDiv.j1 kj24 t408 true l0_0 l1_0 t402 t405 t419 t422))) else (laws_FnExactNatDiv.j1 kj24 t408 true l0_0 l1_0 t402 t405 t419 t422)) = some true := H
          have A202 := Aside0.mk A2020
          clear A2020
          by_cases c203 : t442 = true
          ·subst c203
           have H1 : ((laws_eqNat.f kj24 t422 t405).bind fun t443 => (if t443 = true then (laws_FnExactNatDiv.j1 kj24 t408 (t425 != t408) l0_0 l1_0 t402 t405 t419 t422) else (laws_FnExactNatDiv.j1 kj24 t408 true l0_0 l1_0 t402 t405 t419 t422))) = some true := by rw [if_pos rfl] at H; exact H
           clear H
           have H := H1
           clear H1
           replace H := hBi H
           obtain ⟨t443, A2040, H⟩ := H
           replace H : (if t443 = true then (laws_FnExactNatDiv.j1 kj24 t408 (t425 != t408) l0_0 l1_0 t402 t405 t419 t422) else (laws_FnExactNatDiv.j1 kj24 t408 true l0_0 l1_0 t402 t405 t419 t422)) = some true := H
           have A204 := Aside0.mk A2040
           clear A2040
           by_cases c205 : t443 = true
           ·subst c205
            have H1 : (laws_FnExactNatDiv.j1 kj24 t408 (t425 != t408) l0_0 l1_0 t402 t405 t419 t422) = some true := by rw [if_pos rfl] at H; exact H
            clear H
            have H := H1
            clear H1
            have H' := Aside0.mk H
            clear H
            have hnb206 := NB426_392.out
            have hnc206 := NB392_426.out
            have hnb207 := NB426_393.out
            have hnc207 := NB393_426.out
            have hnb208 := NB426_409.out
            have hnc208 := NB409_426.out
            have hnb209 := NB426_410.out
            have hnc209 := NB410_426.out
            have hnb210 := NB426_414.out
            have hnc210 := NB414_426.out
            have hnb211 := NB426_418.out
            have hnc211 := NB418_426.out
            have hnb212 := NB426_427.out
            have hnc212 := NB427_426.out
            obtain ⟨hcz213_0, hfz213_0⟩ := hkc1 BK426
            have hnb214 := NB409_392.out
            have hnc214 := NB392_409.out
            have hnb215 := NB409_393.out
            have hnc215 := NB393_409.out
            have hnb216 := NB409_410.out
            have hnc216 := NB410_409.out
            have hnb217 := NB409_414.out
            have hnc217 := NB414_409.out
            have hnb218 := NB409_418.out
            have hnc218 := NB418_409.out
            have hnb219 := NB409_427.out
            have hnc219 := NB427_409.out
            obtain ⟨hcz220_0, hfz220_0⟩ := hkc1 BK409
            go_wp2_with (first | (go_at_call 27; (with_reducible refine (laws_eqNat.calls kj24 _ _ t419 _ _ t402 true _ ?side1 ?side2 ?side3 ?side4 A202.out).mono ?_); (case side1 => exact hkC ((Kd.R_reads' HO_427000.out).2.2)); (case side2 => exact (Kd.R_reads' HO_427000.out).2.1); (case side3 => exact hkC ((Kd.R_reads' HO_410000.out).2.2)); (case side4 => exact (Kd.R_reads' HO_410000.out).2.1); rintro e w221 ⟨rfl, hb⟩; have n_ := hkA (hkRb HO_410000 hb) (hkA (hkRb HO_411000 hb) (hkA (hkRb HO_415000 hb) (hkA (hkRb HO_419000 hb) (hkA (hkRb HO_427000 hb) (hkA (hkRb HO_428000 hb) (hkA (hkRb HO432 hb) (hkA (hkRb HO436 hb) (hkA (hkBb BK392 hb) (hkA (hkBb BK393 hb) (hkA (hkBb BK409 hb) (hkA (hkBb BK410 hb) (hkA (hkBb BK414 hb) (hkA (hkBb BK418 hb) (hkA (hkBb BK426 hb) (hkA (hkBb BK427 hb) (hkU HB hb)))))))))))))))); clear HO_410000 HO_411000 HO_415000 HO_419000 HO_427000 HO_428000 HO432 HO436 BK392 BK393 BK409 BK410 BK414 BK418 BK426 BK427 HB; obtain ⟨HO_410000, HO_411000, HO_415000, HO_419000, HO_427000, HO_428000, HO432, HO436, BK392, BK393, BK409, BK410, BK414, BK418, BK426, BK427, HB⟩ := n_; (try clear hb); have hnb222 := NB427_392.out; have hnc222 := NB392_427.out; have hnb223 := NB427_393.out; have hnc223 := NB393_427.out; have hnb224 := NB427_410.out; have hnc224 := NB410_427.out; have hnb225 := NB427_414.out; have hnc225 := NB414_427.out; have hnb226 := NB427_418.out; have hnc226 := NB418_427.out; obtain ⟨hcz227_0, hfz227_0⟩ := hkc1 BK427; have hnb228 := NB410_392.out; have hnc228 := NB392_410.out; have hnb229 := NB410_393.out; have hnc229 := NB393_410.out; have hnb230 := NB410_414.out; have hnc230 := NB414_410.out; have hnb231 := NB410_418.out; have hnc231 := NB418_410.out; obtain ⟨hcz232_0, hfz232_0⟩ := hkc1 BK410) | (go_at_call 27; (with_reducible refine (laws_eqNat.calls kj24 _ _ t422 _ _ t405 true _ ?side1 ?side2 ?side3 ?side4 A204.out).mono ?_); (case side1 => exact hkC ((Kd.R_reads' HO_428000.out).2.2)); (case side2 => exact (Kd.R_reads' HO_428000.out).2.1); (case side3 => exact hkC ((Kd.R_reads' HO_411000.out).2.2)); (case side4 => exact (Kd.R_reads' HO_411000.out).2.1); rintro e w233 ⟨rfl, hb⟩; have n_ := hkA (hkRb HO_410000 hb) (hkA (hkRb HO_411000 hb) (hkA (hkRb HO_415000 hb) (hkA (hkRb HO_419000 hb) (hkA (hkRb HO_427000 hb) (hkA (hkRb HO_428000 hb) (hkA (hkRb HO432 hb) (hkA (hkRb HO436 hb) (hkA (hkBb BK392 hb) (hkA (hkBb BK393 hb) (hkA (hkBb BK409 hb) (hkA (hkBb BK410 hb) (hkA (hkBb BK414 hb) (hkA (hkBb BK418 hb) (hkA (hkBb BK426 hb) (hkA (hkBb BK427 hb) (hkU HB hb)))))))))))))))); clear HO_410000 HO_411000 HO_415000 HO_419000 HO_427000 HO_428000 HO432 HO436 BK392 BK393 BK409 BK410 BK414 BK418 BK426 BK427 HB; obtain ⟨HO_410000, HO_411000, HO_415000, HO_419000, HO_427000, HO_428000, HO432, HO436, BK392, BK393, BK409, BK410, BK414, BK418, BK426, BK427, HB⟩ := n_; (try clear hb)))
            go_meet
            case rel => exact ⟨_, ((t425 != t408)), (by first | rfl | (simp; done) | (simp [*]; done)), H', ⟨by have := HJ24.out; first | omega | exact Nat.le_refl _⟩, ⟨by (with_reducible repeat (first | apply Kd.R_alloc | apply Kd.R_drewN | apply Kd.R_drew)); exact Kd.R_mono HO_410000.out (fun _ hk => ⟨hk.1, ⟨hk.2.1, ⟨hk.2.2.1, ⟨hk.2.2.2.1, hk.2.2.2.2.1⟩⟩⟩⟩)⟩, ⟨by (with_reducible repeat (first | apply Kd.R_alloc | apply Kd.R_drewN | apply Kd.R_drew)); exact Kd.R_mono HO_411000.out (fun _ hk => ⟨hk.1, ⟨hk.2.1, ⟨hk.2.2.1, ⟨hk.2.2.2.1, hk.2.2.2.2.1⟩⟩⟩⟩)⟩, ⟨by (with_reducible repeat (first | apply Kd.R_alloc | apply Kd.R_drewN | apply Kd.R_drew)); exact Kd.R_mono HO_415000.out (fun _ hk => ⟨hk.1, ⟨hk.2.1, ⟨hk.2.2.1, ⟨hk.2.2.2.1, hk.2.2.2.2.1⟩⟩⟩⟩)⟩, ⟨by (with_reducible repeat (first | apply Kd.R_alloc | apply Kd.R_drewN | apply Kd.R_drew)); exact Kd.R_mono HO_419000.out (fun _ hk => ⟨hk.1, ⟨hk.2.1, ⟨hk.2.2.1, ⟨hk.2.2.2.1, hk.2.2.2.2.1⟩⟩⟩⟩)⟩, ⟨by (with_reducible repeat (first | apply Kd.R_alloc | apply Kd.R_drewN | apply Kd.R_drew)); exact Kd.R_mono HO_427000.out (fun _ hk => ⟨hk.1, ⟨hk.2.1, ⟨hk.2.2.1, ⟨hk.2.2.2.1, hk.2.2.2.2.1⟩⟩⟩⟩)⟩, ⟨by (with_reducible repeat (first | apply Kd.R_alloc | apply Kd.R_drewN | apply Kd.R_drew)); exact Kd.R_mono HO_428000.out (fun _ hk => ⟨hk.1, ⟨hk.2.1, ⟨hk.2.2.1, ⟨hk.2.2.2.1, hk.2.2.2.2.1⟩⟩⟩⟩)⟩, ⟨by refine hkz ?_; exact BK392.out⟩, ⟨by refine hkz ?_; exact BK393.out⟩, ⟨by refine hkz ?_; exact BK409.out⟩, ⟨by refine hkz ?_; exact BK410.out⟩, ⟨by refine hkz ?_; exact BK414.out⟩, ⟨by refine hkz ?_; exact BK418.out⟩, ⟨by refine hkz ?_; exact BK426.out⟩, ⟨by refine hkz ?_; exact BK427.out⟩, ⟨hkS HB⟩⟩
           ·replace c205 := Bool.eq_false_iff.mpr c205
            subst c205
            have H1 : (laws_FnExactNatDiv.j1 kj24 t408 true l0_0 l1_0 t402 t405 t419 t422) = some true := by rw [if_neg (show ¬ (false = true) by decide)] at H; exact H
            clear H
            have H := H1
            clear H1
            have H' := Aside0.mk H
            clear H
            have hnb234 := NB426_392.out
            have hnc234 := NB392_426.out
            have hnb235 := NB426_393.out
            have hnc235 := NB393_426.out
            have hnb236 := NB426_409.out
            have hnc236 := NB409_426.out
            have hnb237 := NB426_410.out
            have hnc237 := NB410_426.out
            have hnb238 := NB426_414.out
            have hnc238 := NB414_426.out
            have hnb239 := NB426_418.out
            have hnc239 := NB418_426.out
            have hnb240 := NB426_427.out
            have hnc240 := NB427_426.out
            obtain ⟨hcz241_0, hfz241_0⟩ := hkc1 BK426
            have hnb242 := NB409_392.out
            have hnc242 := NB392_409.out
            have hnb243 := NB409_393.out
            have hnc243 := NB393_409.out
            have hnb244 := NB409_410.out
            have hnc244 := NB410_409.out
            have hnb245 := NB409_414.out
            have hnc245 := NB414_409.out
            have hnb246 := NB409_418.out
            have hnc246 := NB418_409.out
            have hnb247 := NB409_427.out
            have hnc247 := NB427_409.out
            obtain ⟨hcz248_0, hfz248_0⟩ := hkc1 BK409
            go_wp2_with (first | (go_at_call 27; (with_reducible refine (laws_eqNat.calls kj24 _ _ t419 _ _ t402 true _ ?side1 ?side2 ?side3 ?side4 A202.out).mono ?_); (case side1 => exact hkC ((Kd.R_reads' HO_427000.out).2.2)); (case side2 => exact (Kd.R_reads' HO_427000.out).2.1); (case side3 => exact hkC ((Kd.R_reads' HO_410000.out).2.2)); (case side4 => exact (Kd.R_reads' HO_410000.out).2.1); rintro e w249 ⟨rfl, hb⟩; have n_ := hkA (hkRb HO_410000 hb) (hkA (hkRb HO_411000 hb) (hkA (hkRb HO_415000 hb) (hkA (hkRb HO_419000 hb) (hkA (hkRb HO_427000 hb) (hkA (hkRb HO_428000 hb) (hkA (hkRb HO432 hb) (hkA (hkRb HO436 hb) (hkA (hkBb BK392 hb) (hkA (hkBb BK393 hb) (hkA (hkBb BK409 hb) (hkA (hkBb BK410 hb) (hkA (hkBb BK414 hb) (hkA (hkBb BK418 hb) (hkA (hkBb BK426 hb) (hkA (hkBb BK427 hb) (hkU HB hb)))))))))))))))); clear HO_410000 HO_411000 HO_415000 HO_419000 HO_427000 HO_428000 HO432 HO436 BK392 BK393 BK409 BK410 BK414 BK418 BK426 BK427 HB; obtain ⟨HO_410000, HO_411000, HO_415000, HO_419000, HO_427000, HO_428000, HO432, HO436, BK392, BK393, BK409, BK410, BK414, BK418, BK426, BK427, HB⟩ := n_; (try clear hb); have hnb250 := NB427_392.out; have hnc250 := NB392_427.out; have hnb251 := NB427_393.out; have hnc251 := NB393_427.out; have hnb252 := NB427_410.out; have hnc252 := NB410_427.out; have hnb253 := NB427_414.out; have hnc253 := NB414_427.out; have hnb254 := NB427_418.out; have hnc254 := NB418_427.out; obtain ⟨hcz255_0, hfz255_0⟩ := hkc1 BK427; have hnb256 := NB410_392.out; have hnc256 := NB392_410.out; have hnb257 := NB410_393.out; have hnc257 := NB393_410.out; have hnb258 := NB410_414.out; have hnc258 := NB414_410.out; have hnb259 := NB410_418.out; have hnc259 := NB418_410.out; obtain ⟨hcz260_0, hfz260_0⟩ := hkc1 BK410) | (go_at_call 27; (with_reducible refine (laws_eqNat.calls kj24 _ _ t422 _ _ t405 false _ ?side1 ?side2 ?side3 ?side4 A204.out).mono ?_); (case side1 => exact hkC ((Kd.R_reads' HO_428000.out).2.2)); (case side2 => exact (Kd.R_reads' HO_428000.out).2.1); (case side3 => exact hkC ((Kd.R_reads' HO_411000.out).2.2)); (case side4 => exact (Kd.R_reads' HO_411000.out).2.1); rintro e w261 ⟨rfl, hb⟩; have n_ := hkA (hkRb HO_410000 hb) (hkA (hkRb HO_411000 hb) (hkA (hkRb HO_415000 hb) (hkA (hkRb HO_419000 hb) (hkA (hkRb HO_427000 hb) (hkA (hkRb HO_428000 hb) (hkA (hkRb HO432 hb) (hkA (hkRb HO436 hb) (hkA (hkBb BK392 hb) (hkA (hkBb BK393 hb) (hkA (hkBb BK409 hb) (hkA (hkBb BK410 hb) (hkA (hkBb BK414 hb) (hkA (hkBb BK418 hb) (hkA (hkBb BK426 hb) (hkA (hkBb BK427 hb) (hkU HB hb)))))))))))))))); clear HO_410000 HO_411000 HO_415000 HO_419000 HO_427000 HO_428000 HO432 HO436 BK392 BK393 BK409 BK410 BK414 BK418 BK426 BK427 HB; obtain ⟨HO_410000, HO_411000, HO_415000, HO_419000, HO_427000, HO_428000, HO432, HO436, BK392, BK393, BK409, BK410, BK414, BK418, BK426, BK427, HB⟩ := n_; (try clear hb)))
            go_meet
            case rel => exact ⟨_, (true), (by first | rfl | (simp; done) | (simp [*]; done)), H', ⟨by have := HJ24.out; first | omega | exact Nat.le_refl _⟩, ⟨by (with_reducible repeat (first | apply Kd.R_alloc | apply Kd.R_drewN | apply Kd.R_drew)); exact Kd.R_mono HO_410000.out (fun _ hk => ⟨hk.1, ⟨hk.2.1, ⟨hk.2.2.1, ⟨hk.2.2.2.1, hk.2.2.2.2.1⟩⟩⟩⟩)⟩, ⟨by (with_reducible repeat (first | apply Kd.R_alloc | apply Kd.R_drewN | apply Kd.R_drew)); exact Kd.R_mono HO_411000.out (fun _ hk => ⟨hk.1, ⟨hk.2.1, ⟨hk.2.2.1, ⟨hk.2.2.2.1, hk.2.2.2.2.1⟩⟩⟩⟩)⟩, ⟨by (with_reducible repeat (first | apply Kd.R_alloc | apply Kd.R_drewN | apply Kd.R_drew)); exact Kd.R_mono HO_415000.out (fun _ hk => ⟨hk.1, ⟨hk.2.1, ⟨hk.2.2.1, ⟨hk.2.2.2.1, hk.2.2.2.2.1⟩⟩⟩⟩)⟩, ⟨by (with_reducible repeat (first | apply Kd.R_alloc | apply Kd.R_drewN | apply Kd.R_drew)); exact Kd.R_mono HO_419000.out (fun _ hk => ⟨hk.1, ⟨hk.2.1, ⟨hk.2.2.1, ⟨hk.2.2.2.1, hk.2.2.2.2.1⟩⟩⟩⟩)⟩, ⟨by (with_reducible repeat (first | apply Kd.R_alloc | apply Kd.R_drewN | apply Kd.R_drew)); exact Kd.R_mono HO_427000.out (fun _ hk => ⟨hk.1, ⟨hk.2.1, ⟨hk.2.2.1, ⟨hk.2.2.2.1, hk.2.2.2.2.1⟩⟩⟩⟩)⟩, ⟨by (with_reducible repeat (first | apply Kd.R_alloc | apply Kd.R_drewN | apply Kd.R_drew)); exact Kd.R_mono HO_428000.out (fun _ hk => ⟨hk.1, ⟨hk.2.1, ⟨hk.2.2.1, ⟨hk.2.2.2.1, hk.2.2.2.2.1⟩⟩⟩⟩)⟩, ⟨by refine hkz ?_; exact BK392.out⟩, ⟨by refine hkz ?_; exact BK393.out⟩, ⟨by refine hkz ?_; exact BK409.out⟩, ⟨by refine hkz ?_; exact BK410.out⟩, ⟨by refine hkz ?_; exact BK414.out⟩, ⟨by refine hkz ?_; exact BK418.out⟩, ⟨by refine hkz ?_; exact BK426.out⟩, ⟨by refine hkz ?_; exact BK427.out⟩, ⟨hkS HB⟩⟩
          ·replace c203 := Bool.eq_false_iff.mpr c203
           subst c203
           have H1 : (laws_FnExactNatDiv.j1 kj24 t408 true l0_0 l1_0 t402 t405 t419 t422) = some true := by rw [if_neg (show ¬ (false = true) by decide)] at H; exact H
           clear H
           have H := H1
           clear H1
           have H' := Aside0.mk H
           clear H
           have hnb262 := NB426_392.out
           have hnc262 := NB392_426.out
           have hnb263 := NB426_393.out
           have hnc263 := NB393_426.out
           have hnb264 := NB426_409.out
           have hnc264 := NB409_426.out
           have hnb265 := NB426_410.out
           have hnc265 := NB410_426.out
           have hnb266 := NB426_414.out
           have hnc266 := NB414_426.out
           have hnb267 := NB426_418.out
           have hnc267 := NB418_426.out
           have hnb268 := NB426_427.out
           have hnc268 := NB427_426.out
           obtain ⟨hcz269_0, hfz269_0⟩ := hkc1 BK426
           have hnb270 := NB409_392.out
           have hnc270 := NB392_409.out
           have hnb271 := NB409_393.out
           have hnc271 := NB393_409.out
           have hnb272 := NB409_410.out
           have hnc272 := NB410_409.out
           have hnb273 := NB409_414.out
           have hnc273 := NB414_409.out
           have hnb274 := NB409_418.out
           have hnc274 := NB418_409.out
           have hnb275 := NB409_427.out
           have hnc275 := NB427_409.out
           obtain ⟨hcz276_0, hfz276_0⟩ := hkc1 BK409
           go_wp2_with (first | (go_at_call 27; (with_reducible refine (laws_eqNat.calls kj24 _ _ t419 _ _ t402 false _ ?side1 ?side2 ?side3 ?side4 A202.out).mono ?_); (case side1 => exact hkC ((Kd.R_reads' HO_427000.out).2.2)); (case side2 => exact (Kd.R_reads' HO_427000.out).2.1); (case side3 => exact hkC ((Kd.R_reads' HO_410000.out).2.2)); (case side4 => exact (Kd.R_reads' HO_410000.out).2.1); rintro e w277 ⟨rfl, hb⟩; have n_ := hkA (hkRb HO_410000 hb) (hkA (hkRb HO_411000 hb) (hkA (hkRb HO_415000 hb) (hkA (hkRb HO_419000 hb) (hkA (hkRb HO_427000 hb) (hkA (hkRb HO_428000 hb) (hkA (hkRb HO432 hb) (hkA (hkRb HO436 hb) (hkA (hkBb BK392 hb) (hkA (hkBb BK393 hb) (hkA (hkBb BK409 hb) (hkA (hkBb BK410 hb) (hkA (hkBb BK414 hb) (hkA (hkBb BK418 hb) (hkA (hkBb BK426 hb) (hkA (hkBb BK427 hb) (hkU HB hb)))))))))))))))); clear HO_410000 HO_411000 HO_415000 HO_419000 HO_427000 HO_428000 HO432 HO436 BK392 BK393 BK409 BK410 BK414 BK418 BK426 BK427 HB; obtain ⟨HO_410000, HO_411000, HO_415000, HO_419000, HO_427000, HO_428000, HO432, HO436, BK392, BK393, BK409, BK410, BK414, BK418, BK426, BK427, HB⟩ := n_; (try clear hb)))
           go_meet
           case rel => exact ⟨_, (true), (by first | rfl | (simp; done) | (simp [*]; done)), H', ⟨by have := HJ24.out; first | omega | exact Nat.le_refl _⟩, ⟨by (with_reducible repeat (first | apply Kd.R_alloc | apply Kd.R_drewN | apply Kd.R_drew)); exact Kd.R_mono HO_410000.out (fun _ hk => ⟨hk.1, ⟨hk.2.1, ⟨hk.2.2.1, ⟨hk.2.2.2.1, hk.2.2.2.2.1⟩⟩⟩⟩)⟩, ⟨by (with_reducible repeat (first | apply Kd.R_alloc | apply Kd.R_drewN | apply Kd.R_drew)); exact Kd.R_mono HO_411000.out (fun _ hk => ⟨hk.1, ⟨hk.2.1, ⟨hk.2.2.1, ⟨hk.2.2.2.1, hk.2.2.2.2.1⟩⟩⟩⟩)⟩, ⟨by (with_reducible repeat (first | apply Kd.R_alloc | apply Kd.R_drewN | apply Kd.R_drew)); exact Kd.R_mono HO_415000.out (fun _ hk => ⟨hk.1, ⟨hk.2.1, ⟨hk.2.2.1, ⟨hk.2.2.2.1, hk.2.2.2.2.1⟩⟩⟩⟩)⟩, ⟨by (with_reducible repeat (first | apply Kd.R_alloc | apply Kd.R_drewN | apply Kd.R_drew)); exact Kd.R_mono HO_419000.out (fun _ hk => ⟨hk.1, ⟨hk.2.1, ⟨hk.2.2.1, ⟨hk.2.2.2.1, hk.2.2.2.2.1⟩⟩⟩⟩)⟩, ⟨by (with_reducible repeat (first | apply Kd.R_alloc | apply Kd.R_drewN | apply Kd.R_drew)); exact Kd.R_mono HO_427000.out (fun _ hk => ⟨hk.1, ⟨hk.2.1, ⟨hk.2.2.1, ⟨hk.2.2.2.1, hk.2.2.2.2.1⟩⟩⟩⟩)⟩, ⟨by (with_reducible repeat (first | apply Kd.R_alloc | apply Kd.R_drewN | apply Kd.R_drew)); exact Kd.R_mono HO_428000.out (fun _ hk => ⟨hk.1, ⟨hk.2.1, ⟨hk.2.2.1, ⟨hk.2.2.2.1, hk.2.2.2.2.1⟩⟩⟩⟩)⟩, ⟨by refine hkz ?_; exact BK392.out⟩, ⟨by refine hkz ?_; exact BK393.out⟩, ⟨by refine hkz ?_; exact BK409.out⟩, ⟨by refine hkz ?_; exact BK410.out⟩, ⟨by refine hkz ?_; exact BK414.out⟩, ⟨by refine hkz ?_; exact BK418.out⟩, ⟨by refine hkz ?_; exact BK426.out⟩, ⟨by refine hkz ?_; exact BK427.out⟩, ⟨hkS HB⟩⟩
        case rest =>
         clear HC175
         try clear c1
         try clear c2
         try clear p2
         try clear c18
         try clear c19
         try clear c20
         try clear c21
         try clear c22
         try clear c23
         try clear c24
         try clear c25
         try clear c26
         try clear c27
         try clear c28
         try clear c184
         try clear c185
         try clear c186
         try clear c187
         try clear c188
         try clear c189
         try clear c190
         try clear c193
         try clear c194
         try clear c195
         try clear c196
         try clear c197
         try clear c198
         try clear c201
         try clear c201b0
         try clear c203
         try clear c205
         try clear c206
         try clear c207
         try clear c208
         try clear c209
         try clear c210
         try clear c211
         try clear c212
         try clear c214
         try clear c215
         try clear c216
         try clear c217
         try clear c218
         try clear c219
         try clear c222
         try clear c223
         try clear c224
         try clear c225
         try clear c226
         try clear c228
         try clear c229
         try clear c230
         try clear c231
         try clear c234
         try clear c235
         try clear c236
         try clear c237
         try clear c238
         try clear c239
         try clear c240
         try clear c242
         try clear c243
         try clear c244
         try clear c245
         try clear c246
         try clear c247
         try clear c250
         try clear c251
         try clear c252
         try clear c253
         try clear c254
         try clear c256
         try clear c257
         try clear c258
         try clear c259
         try clear c262
         try clear c263
         try clear c264
         try clear c265
         try clear c266
         try clear c267
         try clear c268
         try clear c270
         try clear c271
         try clear c272
         try clear c273
         try clear c274
         try clear c275
         try clear hcz191_0 hcz199_0 hcz213_0 hcz220_0 hcz227_0 hcz232_0 hcz241_0 hcz248_0 hcz255_0 hcz260_0 hcz269_0 hcz276_0 hfz191_0 hfz199_0 hfz213_0 hfz220_0 hfz227_0 hfz232_0 hfz241_0 hfz248_0 hfz255_0 hfz260_0 hfz269_0 hfz276_0
         obtain ⟨kq, x99_174, rfl, HA, HJ174, HO_410000, HO_411000, HO_415000, HO_419000, HO_427000, HO_428000, BK392, BK393, BK409, BK410, BK414, BK418, BK426, BK427, HB⟩ := hcut
         have hl415000_174 := (Kd.R_reads' HO_415000.out).1
         rw [hl415000_174] at HO_415000
         (try simp only [hl415000_174])
         (try simp only [hl415000_174] at BK392)
         (try simp only [hl415000_174] at BK393)
         (try simp only [hl415000_174] at BK409)
         (try simp only [hl415000_174] at BK410)
         (try simp only [hl415000_174] at BK414)
         (try simp only [hl415000_174] at BK418)
         (try simp only [hl415000_174] at BK426)
         (try simp only [hl415000_174] at BK427)
         (try simp only [hl415000_174] at HO_410000)
         (try simp only [hl415000_174] at HO_411000)
         (try simp only [hl415000_174] at HO_419000)
         (try simp only [hl415000_174] at HO_427000)
         (try simp only [hl415000_174] at HO_428000)
         have hl419000_174 := (Kd.R_reads' HO_419000.out).1
         rw [hl419000_174] at HO_419000
         (try simp only [hl419000_174])
         (try simp only [hl419000_174] at BK392)
         (try simp only [hl419000_174] at BK393)
         (try simp only [hl419000_174] at BK409)
         (try simp only [hl419000_174] at BK410)
         (try simp only [hl419000_174] at BK414)
         (try simp only [hl419000_174] at BK418)
         (try simp only [hl419000_174] at BK426)
         (try simp only [hl419000_174] at BK427)
         (try simp only [hl419000_174] at HO_410000)
         (try simp only [hl419000_174] at HO_411000)
         (try simp only [hl419000_174] at HO_415000)
         (try simp only [hl419000_174] at HO_427000)
         (try simp only [hl419000_174] at HO_428000)
         cases kq with
         | zero => exact absurd HA.out (by simp [laws_FnExactNatDiv.j1])
         | succ kj174 =>
          have H := HA.out
          clear HA
          simp only [laws_FnExactNatDiv.j1] at H
          by_cases c278 : x99_174 = true
          ·subst c278
           have H1 : (some false) = some true := by rw [if_pos rfl] at H; exact H
           clear H
           have H := H1
           clear H1
           exact absurd (Option.some.inj H) (by decide)
          ·replace c278 := Bool.eq_false_iff.mpr c278
           subst c278
           have H1 : ((laws_markNat.f kj174 t419 1).bind fun bt444 => ((laws_markNat.f kj174 t422 bt444.1).bind fun bt446 => ((laws_heldNat.f kj174 bt444.2 1).bind fun t448 => (if t448 < 0 then (some false) else ((laws_heldNat.f kj174 bt446.2 t448).bind fun t449 => (if t449 < 0 then (some false) else (if t449 = bt446.1 then ((laws_toNat.f kj174 l0_0).bind fun t450 => ((laws_toNat.f kj174 l1_0).bind fun t453 => ((impl_NatDiv.f kj174 t450 t453).bind fun bt456 => ((laws_eqNat.f kj174 bt456.1 t402).bind fun t465 => (if t465 = true then ((laws_eqNat.f kj174 bt456.2.1 t405).bind fun t466 => (if t466 = true then (laws_FnExactNatDiv.j2 kj174 bt446.1 (bt456.2.2 != t408) bt444.2 bt446.2) else (laws_FnExactNatDiv.j2 kj174 bt446.1 true bt444.2 bt446.2))) else (laws_FnExactNatDiv.j2 kj174 bt446.1 true bt444.2 bt446.2)))))) else (some false)))))))) = some true := by rw [if_neg (show ¬ (false = true) by decide)] at H; exact H
           clear H
           have H := H1
           clear H1
           replace H := hBi H
           obtain ⟨⟨t444, t445⟩, A2790, H⟩ := H
           replace H : ((laws_markNat.f kj174 t422 t444).bind fun bt446 => ((laws_heldNat.f kj174 t445 1).bind fun t448 => (if t448 < 0 then (some false) else ((laws_heldNat.f kj174 bt446.2 t448).bind fun t449 => (if t449 < 0 then (some false) else (if t449 = bt446.1 then ((laws_toNat.f kj174 l0_0).bind fun t450 => ((laws_toNat.f kj174 l1_0).bind fun t453 => ((impl_NatDiv.f kj174 t450 t453).bind fun bt456 => ((laws_eqNat.f kj174 bt456.1 t402).bind fun t465 => (if t465 = true then ((laws_eqNat.f kj174 bt456.2.1 t405).bind fun t466 => (if t466 = true then (laws_FnExactNatDiv.j2 kj174 bt446.1 (bt456.2.2 != t408) t445 bt446.2) else (laws_FnExactNatDiv.j2 kj174 bt446.1 true t445 bt446.2))) else (laws_FnExactNatDiv.j2 kj174 bt446.1 true t445 bt446.2)))))) else (some false))))))) = some true := H
           have A279 := Aside0.mk A2790
           clear A2790
           replace H := hBi H
           obtain ⟨⟨t446, t447⟩, A2800, H⟩ := H
           replace H : ((laws_heldNat.f kj174 t445 1).bind fun t448 => (if t448 < 0 then (some false) else ((laws_heldNat.f kj174 t447 t448).bind fun t449 => (if t449 < 0 then (some false) else (if t449 = t446 then ((laws_toNat.f kj174 l0_0).bind fun t450 => ((laws_toNat.f kj174 l1_0).bind fun t453 => ((impl_NatDiv.f kj174 t450 t453).bind fun bt456 => ((laws_eqNat.f kj174 bt456.1 t402).bind fun t465 => (if t465 = true then ((laws_eqNat.f kj174 bt456.2.1 t405).bind fun t466 => (if t466 = true then (laws_FnExactNatDiv.j2 kj174 t446 (bt456.2.2 != t408) t445 t447) else (laws_FnExactNatDiv.j2 kj174 t446 true t445 t447))) else (laws_FnExactNatDiv.j2 kj174 t446 true t445 t447)))))) else (some false)))))) = some true := H
           have A280 := Aside0.mk A2800
           clear A2800
           replace H := hBi H
           obtain ⟨t448, A2810, H⟩ := H
           replace H : (if t448 < 0 then (some false) else ((laws_heldNat.f kj174 t447 t448).bind fun t449 => (if t449 < 0 then (some false) else (if t449 = t446 then ((laws_toNat.f kj174 l0_0).bind fun t450 => ((laws_toNat.f kj174 l1_0).bind fun t453 => ((impl_NatDiv.f kj174 t450 t453).bind fun bt456 => ((laws_eqNat.f kj174 bt456.1 t402).bind fun t465 => (if t465 = true then ((laws_eqNat.f kj174 bt456.2.1 t405).bind fun t466 => (if t466 = true then (laws_FnExactNatDiv.j2 kj174 t446 (bt456.2.2 != t408) t445 t447) else (laws_FnExactNatDiv.j2 kj174 t446 true t445 t447))) else (laws_FnExactNatDiv.j2 kj174 t446 true t445 t447)))))) else (some false))))) = some true := H
           have A281 := Aside0.mk A2810
           clear A2810
           by_cases c282 : t448 < 0
           ·rw [if_pos c282] at H
            have c282b0 : decide (t448 < 0) = true := decide_eq_true c282
            clear c282
            exact absurd (Option.some.inj H) (by decide)
           ·rw [if_neg c282] at H
            have c282b0 : decide (t448 < 0) = false := decide_eq_false c282
            clear c282
            replace H := hBi H
            obtain ⟨t449, A3020, H⟩ := H
            replace H : (if t449 < 0 then (some false) else (if t449 = t446 then ((laws_toNat.f kj174 l0_0).bind fun t450 => ((laws_toNat.f kj174 l1_0).bind fun t453 => ((impl_NatDiv.f kj174 t450 t453).bind fun bt456 => ((laws_eqNat.f kj174 bt456.1 t402).bind fun t465 => (if t465 = true then ((laws_eqNat.f kj174 bt456.2.1 t405).bind fun t466 => (if t466 = true then (laws_FnExactNatDiv.j2 kj174 t446 (bt456.2.2 != t408) t445 t447) else (laws_FnExactNatDiv.j2 kj174 t446 true t445 t447))) else (laws_FnExactNatDiv.j2 kj174 t446 true t445 t447)))))) else (some false))) = some true := H
            have A302 := Aside0.mk A3020
            clear A3020
            by_cases c303 : t449 < 0
            ·rw [if_pos c303] at H
             have c303b0 : decide (t449 < 0) = true := decide_eq_true c303
             clear c303
             exact absurd (Option.some.inj H) (by decide)
            ·rw [if_neg c303] at H
             have c303b0 : decide (t449 < 0) = false := decide_eq_false c303
             clear c303
             by_cases c325 : t449 = t446
             ·rw [if_pos c325] at H
              have c325b0 : (t449 == t446) = true := beq_iff_eq.mpr c325
              have c325b1 : (t449 != t446) = false := bne_eq_false_iff_eq.mpr c325
              clear c325
              replace H := hBi H
              obtain ⟨t450, A3260, H⟩ := H
              replace H : ((laws_toNat.f kj174 l1_0).bind fun t453 => ((impl_NatDiv.f kj174 t450 t453).bind fun bt456 => ((laws_eqNat.f kj174 bt456.1 t402).bind fun t465 => (if t465 = true then ((laws_eqNat.f kj174 bt456.2.1 t405).bind fun t466 => (if t466 = true then (laws_FnExactNatDiv.j2 kj174 t446 (bt456.2.2 != t408) t445 t447) else (laws_FnExactNatDiv.j2 kj174 t446 true t445 t447))) else (laws_FnExactNatDiv.j2 kj174 t446 true t445 t447))))) = some true := H
              have A326 := Aside0.mk A3260
              clear A3260
              replace H := hBi H
              obtain ⟨t453, A3270, H⟩ := H
              replace H : ((impl_NatDiv.f kj174 t450 t453).bind fun bt456 => ((laws_eqNat.f kj174 bt456.1 t402).bind fun t465 => (if t465 = true then ((laws_eqNat.f kj174 bt456.2.1 t405).bind fun t466 => (if t466 = true then (laws_FnExactNatDiv.j2 kj174 t446 (bt456.2.2 != t408) t445 t447) else (laws_FnExactNatDiv.j2 kj174 t446 true t445 t447))) else (laws_FnExactNatDiv.j2 kj174 t446 true t445 t447)))) = some true := H
              have A327 := Aside0.mk A3270
              clear A3270
              replace H := hBi H
              obtain ⟨⟨t456, t459, t462⟩, A3280, H⟩ := H
              replace H : ((laws_eqNat.f kj174 t456 t402).bind fun t465 => (if t465 = true then ((laws_eqNat.f kj174 t459 t405).bind fun t466 => (if t466 = true then (laws_FnExactNatDiv.j2 kj174 t446 (t462 != t408) t445 t447) else (laws_FnExactNatDiv.j2 kj174 t446 true t445 t447))) else (laws_FnExactNatDiv.j2 kj174 t446 true t445 t447))) = some true := H
              have A328 := Aside0.mk A3280
              clear A3280
              have HC329 := Aside0.mk H
              clear H
              have hnb330 := NB426_392.out
              have hnc330 := NB392_426.out
              have hnb331 := NB426_393.out
              have hnc331 := NB393_426.out
              have hnb332 := NB426_409.out
              have hnc332 := NB409_426.out
              have hnb333 := NB426_410.out
              have hnc333 := NB410_426.out
              have hnb334 := NB426_414.out
              have hnc334 := NB414_426.out
              have hnb335 := NB426_418.out
              have hnc335 := NB418_426.out
              have hnb336 := NB426_427.out
              have hnc336 := NB427_426.out
              obtain ⟨hcz337_0, hfz337_0⟩ := hkc1 BK426
              try go_wp2_with (first | ((with_reducible refine gate_callee (f := 28) rfl ?_); refine hkGo (N := some 102) Try.func28 #[.agg #[.slice Ao73 t419.length co73], .int .i64 1] ?_; (with_reducible refine (laws_markNat.calls kj174 (fun k_ => some k_ = (.slice Ao73 t419.length co73 : Value).ownBlock) (.slice Ao73 t419.length co73) t419 1 t444 t445 w _ ?side1 ?side2 A279.out).mono ?_); (case side1 => exact hkS HB); (case side2 => exact Kd.R_tight rfl HO_427000.out); rintro e w338 ⟨rfl, hy0, hb, hkp⟩; refine ⟨_, rfl, ?_⟩; have n_ := hkA (Aside0.mk (Kd.R_mono (ok' := fun k_ => some k_ ≠ (.slice Ao44 t405.length co44 : Value).ownBlock ∧ some k_ ≠ (.slice Ao51 t439.length co51 : Value).ownBlock ∧ some k_ ≠ (.slice Ao62 t441.length co62 : Value).ownBlock ∧ some k_ ≠ (.slice Ao73 t419.length co73 : Value).ownBlock ∧ some k_ ≠ (.slice Ao82 t422.length co82 : Value).ownBlock) (Kd.R_keptB (HO_410000.out) hkp (fun k_ hk_ hs_ => by first | exact (hk_.2.2.2.1) hs_ | exact hkP hk_ hs_)) (fun k_ hk_ => by first | exact ⟨hk_.1.1, hk_.1.2.1, hk_.1.2.2.1, hk_.1.2.2.2.1, hk_.1.2.2.2.2⟩ | exact hkQ hk_))) (hkA (Aside0.mk (Kd.R_mono (ok' := fun k_ => some k_ ≠ (.slice Ao42 t402.length co42 : Value).ownBlock ∧ some k_ ≠ (.slice Ao51 t439.length co51 : Value).ownBlock ∧ some k_ ≠ (.slice Ao62 t441.length co62 : Value).ownBlock ∧ some k_ ≠ (.slice Ao73 t419.length co73 : Value).ownBlock ∧ some k_ ≠ (.slice Ao82 t422.length co82 : Value).ownBlock) (Kd.R_keptB (HO_411000.out) hkp (fun k_ hk_ hs_ => by first | exact (hk_.2.2.2.1) hs_ | exact hkP hk_ hs_)) (fun k_ hk_ => by first | exact ⟨hk_.1.1, hk_.1.2.1, hk_.1.2.2.1, hk_.1.2.2.2.1, hk_.1.2.2.2.2⟩ | exact hkQ hk_))) (hkA (Aside0.mk (Kd.R_mono (ok' := fun k_ => some k_ ≠ (.slice Ao42 t402.length co42 : Value).ownBlock ∧ some k_ ≠ (.slice Ao44 t405.length co44 : Value).ownBlock ∧ some k_ ≠ (.slice Ao62 t441.length co62 : Value).ownBlock ∧ some k_ ≠ (.slice Ao73 t419.length co73 : Value).ownBlock ∧ some k_ ≠ (.slice Ao82 t422.length co82 : Value).ownBlock) (Kd.R_keptB (HO_415000.out) hkp (fun k_ hk_ hs_ => by first | exact (hk_.2.2.2.1) hs_ | exact hkP hk_ hs_)) (fun k_ hk_ => by first | exact ⟨hk_.1.1, hk_.1.2.1, hk_.1.2.2.1, hk_.1.2.2.2.1, hk_.1.2.2.2.2⟩ | exact hkQ hk_))) (hkA (Aside0.mk (Kd.R_mono (ok' := fun k_ => some k_ ≠ (.slice Ao42 t402.length co42 : Value).ownBlock ∧ some k_ ≠ (.slice Ao44 t405.length co44 : Value).ownBlock ∧ some k_ ≠ (.slice Ao51 t439.length co51 : Value).ownBlock ∧ some k_ ≠ (.slice Ao73 t419.length co73 : Value).ownBlock ∧ some k_ ≠ (.slice Ao82 t422.length co82 : Value).ownBlock) (Kd.R_keptB (HO_419000.out) hkp (fun k_ hk_ hs_ => by first | exact (hk_.2.2.2.1) hs_ | exact hkP hk_ hs_)) (fun k_ hk_ => by first | exact ⟨hk_.1.1, hk_.1.2.1, hk_.1.2.2.1, hk_.1.2.2.2.1, hk_.1.2.2.2.2⟩ | exact hkQ hk_))) (hkA (Aside0.mk (Kd.R_reok rfl hy0 (fun k_ e_ => HO_427000.out.1 k_ e_))) (hkA (Aside0.mk (Kd.R_mono (ok' := fun k_ => some k_ ≠ (.slice Ao42 t402.length co42 : Value).ownBlock ∧ some k_ ≠ (.slice Ao44 t405.length co44 : Value).ownBlock ∧ some k_ ≠ (.slice Ao51 t439.length co51 : Value).ownBlock ∧ some k_ ≠ (.slice Ao62 t441.length co62 : Value).ownBlock ∧ some k_ ≠ (.slice Ao73 t419.length co73 : Value).ownBlock) (Kd.R_keptB (HO_428000.out) hkp (fun k_ hk_ hs_ => by first | exact (hk_.2.2.2.2) hs_ | exact hkP hk_ hs_)) (fun k_ hk_ => by first | exact ⟨hk_.1.1, hk_.1.2.1, hk_.1.2.2.1, hk_.1.2.2.2.1, hk_.1.2.2.2.2⟩ | exact hkQ hk_))) (hkA (Aside0.mk (blk_kept (hkB BK392) hkp (fun hs_ => (fun e_ => (Kd.R_ne HO_427000.out BK392.out (by decide)) e_) hs_))) (hkA (Aside0.mk (blk_kept (hkB BK393) hkp (fun hs_ => (fun e_ => (Kd.R_ne HO_427000.out BK393.out (by decide)) e_) hs_))) (hkA (Aside0.mk (blk_kept (hkB BK409) hkp (fun hs_ => (fun e_ => (Kd.R_ne HO_427000.out BK409.out (by decide)) e_) hs_))) (hkA (Aside0.mk (blk_kept (hkB BK410) hkp (fun hs_ => (fun e_ => (Kd.R_ne HO_427000.out BK410.out (by decide)) e_) hs_))) (hkA (Aside0.mk (blk_kept (hkB BK414) hkp (fun hs_ => (fun e_ => (Kd.R_ne HO_427000.out BK414.out (by decide)) e_) hs_))) (hkA (Aside0.mk (blk_kept (hkB BK418) hkp (fun hs_ => (fun e_ => (Kd.R_ne HO_427000.out BK418.out (by decide)) e_) hs_))) (hkA (Aside0.mk (blk_kept (hkB BK426) hkp (fun hs_ => (fun e_ => (Kd.R_ne HO_427000.out BK426.out (by decide)) e_) hs_))) (hkA (Aside0.mk (blk_kept (hkB BK427) hkp (fun hs_ => (fun e_ => (Kd.R_ne HO_427000.out BK427.out (by decide)) e_) hs_))) (Aside0.mk (hb))))))))))))))); clear HO_410000 HO_411000 HO_415000 HO_419000 HO_427000 HO_428000 BK392 BK393 BK409 BK410 BK414 BK418 BK426 BK427 HB; obtain ⟨HO_410000, HO_411000, HO_415000, HO_419000, HO_427000, HO_428000, BK392, BK393, BK409, BK410, BK414, BK418, BK426, BK427, HB⟩ := n_; (try clear hb); (try clear hkp); (try clear hy0); have hnb339 := NB427_392.out; have hnc339 := NB392_427.out; have hnb340 := NB427_393.out; have hnc340 := NB393_427.out; have hnb341 := NB427_409.out; have hnc341 := NB409_427.out; have hnb342 := NB427_410.out; have hnc342 := NB410_427.out; have hnb343 := NB427_414.out; have hnc343 := NB414_427.out; have hnb344 := NB427_418.out; have hnc344 := NB418_427.out; obtain ⟨hcz345_0, hfz345_0⟩ := hkc1 BK427) | ((with_reducible refine gate_callee (f := 28) rfl ?_); refine hkGo (N := some 105) Try.func28 #[.agg #[.slice Ao82 t422.length co82], .int .i64 t444] ?_; (with_reducible refine (laws_markNat.calls kj174 (fun k_ => some k_ = (.slice Ao82 t422.length co82 : Value).ownBlock) (.slice Ao82 t422.length co82) t422 t444 t446 t447 w _ ?side1 ?side2 A280.out).mono ?_); (case side1 => exact hkS HB); (case side2 => exact Kd.R_tight rfl HO_428000.out); rintro e w346 ⟨rfl, hy0, hb, hkp⟩; refine ⟨_, rfl, ?_⟩; have n_ := hkA (Aside0.mk (Kd.R_mono (ok' := fun k_ => some k_ ≠ (.slice Ao44 t405.length co44 : Value).ownBlock ∧ some k_ ≠ (.slice Ao51 t439.length co51 : Value).ownBlock ∧ some k_ ≠ (.slice Ao62 t441.length co62 : Value).ownBlock ∧ some k_ ≠ (.slice Ao73 t419.length co73 : Value).ownBlock ∧ some k_ ≠ (.slice Ao82 t422.length co82 : Value).ownBlock) (Kd.R_keptB (HO_410000.out) hkp (fun k_ hk_ hs_ => by first | exact (hk_.2.2.2.2) hs_ | exact hkP hk_ hs_)) (fun k_ hk_ => by first | exact ⟨hk_.1.1, hk_.1.2.1, hk_.1.2.2.1, hk_.1.2.2.2.1, hk_.1.2.2.2.2⟩ | exact hkQ hk_))) (hkA (Aside0.mk (Kd.R_mono (ok' := fun k_ => some k_ ≠ (.slice Ao42 t402.length co42 : Value).ownBlock ∧ some k_ ≠ (.slice Ao51 t439.length co51 : Value).ownBlock ∧ some k_ ≠ (.slice Ao62 t441.length co62 : Value).ownBlock ∧ some k_ ≠ (.slice Ao73 t419.length co73 : Value).ownBlock ∧ some k_ ≠ (.slice Ao82 t422.length co82 : Value).ownBlock) (Kd.R_keptB (HO_411000.out) hkp (fun k_ hk_ hs_ => by first | exact (hk_.2.2.2.2) hs_ | exact hkP hk_ hs_)) (fun k_ hk_ => by first | exact ⟨hk_.1.1, hk_.1.2.1, hk_.1.2.2.1, hk_.1.2.2.2.1, hk_.1.2.2.2.2⟩ | exact hkQ hk_))) (hkA (Aside0.mk (Kd.R_mono (ok' := fun k_ => some k_ ≠ (.slice Ao42 t402.length co42 : Value).ownBlock ∧ some k_ ≠ (.slice Ao44 t405.length co44 : Value).ownBlock ∧ some k_ ≠ (.slice Ao62 t441.length co62 : Value).ownBlock ∧ some k_ ≠ (.slice Ao73 t419.length co73 : Value).ownBlock ∧ some k_ ≠ (.slice Ao82 t422.length co82 : Value).ownBlock) (Kd.R_keptB (HO_415000.out) hkp (fun k_ hk_ hs_ => by first | exact (hk_.2.2.2.2) hs_ | exact hkP hk_ hs_)) (fun k_ hk_ => by first | exact ⟨hk_.1.1, hk_.1.2.1, hk_.1.2.2.1, hk_.1.2.2.2.1, hk_.1.2.2.2.2⟩ | exact hkQ hk_))) (hkA (Aside0.mk (Kd.R_mono (ok' := fun k_ => some k_ ≠ (.slice Ao42 t402.length co42 : Value).ownBlock ∧ some k_ ≠ (.slice Ao44 t405.length co44 : Value).ownBlock ∧ some k_ ≠ (.slice Ao51 t439.length co51 : Value).ownBlock ∧ some k_ ≠ (.slice Ao73 t419.length co73 : Value).ownBlock ∧ some k_ ≠ (.slice Ao82 t422.length co82 : Value).ownBlock) (Kd.R_keptB (HO_419000.out) hkp (fun k_ hk_ hs_ => by first | exact (hk_.2.2.2.2) hs_ | exact hkP hk_ hs_)) (fun k_ hk_ => by first | exact ⟨hk_.1.1, hk_.1.2.1, hk_.1.2.2.1, hk_.1.2.2.2.1, hk_.1.2.2.2.2⟩ | exact hkQ hk_))) (hkA (Aside0.mk (Kd.R_mono (ok' := fun k_ => some k_ ≠ (.slice Ao42 t402.length co42 : Value).ownBlock ∧ some k_ ≠ (.slice Ao44 t405.length co44 : Value).ownBlock ∧ some k_ ≠ (.slice Ao51 t439.length co51 : Value).ownBlock ∧ some k_ ≠ (.slice Ao62 t441.length co62 : Value).ownBlock ∧ some k_ ≠ (.slice Ao82 t422.length co82 : Value).ownBlock) (Kd.R_keptB (HO_427000.out) hkp (fun k_ hk_ hs_ => by first | exact (hk_.2.2.2.2) hs_ | exact hkP hk_ hs_)) (fun k_ hk_ => by first | exact ⟨hk_.1.1, hk_.1.2.1, hk_.1.2.2.1, hk_.1.2.2.2.1, hk_.1.2.2.2.2⟩ | exact hkQ hk_))) (hkA (Aside0.mk (Kd.R_reok rfl hy0 (fun k_ e_ => HO_428000.out.1 k_ e_))) (hkA (Aside0.mk (blk_kept (hkB BK392) hkp (fun hs_ => (fun e_ => (Kd.R_ne HO_428000.out BK392.out (by decide)) e_) hs_))) (hkA (Aside0.mk (blk_kept (hkB BK393) hkp (fun hs_ => (fun e_ => (Kd.R_ne HO_428000.out BK393.out (by decide)) e_) hs_))) (hkA (Aside0.mk (blk_kept (hkB BK409) hkp (fun hs_ => (fun e_ => (Kd.R_ne HO_428000.out BK409.out (by decide)) e_) hs_))) (hkA (Aside0.mk (blk_kept (hkB BK410) hkp (fun hs_ => (fun e_ => (Kd.R_ne HO_428000.out BK410.out (by decide)) e_) hs_))) (hkA (Aside0.mk (blk_kept (hkB BK414) hkp (fun hs_ => (fun e_ => (Kd.R_ne HO_428000.out BK414.out (by decide)) e_) hs_))) (hkA (Aside0.mk (blk_kept (hkB BK418) hkp (fun hs_ => (fun e_ => (Kd.R_ne HO_428000.out BK418.out (by decide)) e_) hs_))) (hkA (Aside0.mk (blk_kept (hkB BK426) hkp (fun hs_ => (fun e_ => (Kd.R_ne HO_428000.out BK426.out (by decide)) e_) hs_))) (hkA (Aside0.mk (blk_kept (hkB BK427) hkp (fun hs_ => (fun e_ => (Kd.R_ne HO_428000.out BK427.out (by decide)) e_) hs_))) (Aside0.mk (hb))))))))))))))); clear HO_410000 HO_411000 HO_415000 HO_419000 HO_427000 HO_428000 BK392 BK393 BK409 BK410 BK414 BK418 BK426 BK427 HB; obtain ⟨HO_410000, HO_411000, HO_415000, HO_419000, HO_427000, HO_428000, BK392, BK393, BK409, BK410, BK414, BK418, BK426, BK427, HB⟩ := n_; (try clear hb); (try clear hkp); (try clear hy0); obtain ⟨hcz347_0, hfz347_0⟩ := hkc1 BK426) | ((with_reducible refine gate_callee (f := 29) rfl ?_); refine goesL_ (some 108) rfl rfl Try.func29 (by kernel_rfl) rfl #[.agg #[.slice Ao73 t445.length co73], .int .i64 1] rfl (by (try simp only [List.map_toArray, List.map_cons, List.map_nil]); first | done | (rw [show t445.length = t419.length from (Kd.R_reads' HO_427000.out).1.symm] <;> rfl) | rfl | (simp only [List.length_drop, List.length_take]; rfl)) ?_; (with_reducible refine (laws_heldNat.calls kj174 _ _ t445 1 t448 _ ?side1 ?side2 A281.out).mono ?_); (case side1 => exact hkC ((Kd.R_reads' HO_427000.out).2.2)); (case side2 => rw [show t445.length = t419.length from (Kd.R_reads' HO_427000.out).1.symm]; exact (Kd.R_reads' HO_427000.out).2.1); rintro e w348 ⟨rfl, hb⟩; refine ⟨_, rfl, ?_⟩; have n_ := hkA (hkRb HO_410000 hb) (hkA (hkRb HO_411000 hb) (hkA (hkRb HO_415000 hb) (hkA (hkRb HO_419000 hb) (hkA (hkRb HO_427000 hb) (hkA (hkRb HO_428000 hb) (hkA (hkBb BK392 hb) (hkA (hkBb BK393 hb) (hkA (hkBb BK409 hb) (hkA (hkBb BK410 hb) (hkA (hkBb BK414 hb) (hkA (hkBb BK418 hb) (hkA (hkBb BK426 hb) (hkA (hkBb BK427 hb) (hkU HB hb)))))))))))))); clear HO_410000 HO_411000 HO_415000 HO_419000 HO_427000 HO_428000 BK392 BK393 BK409 BK410 BK414 BK418 BK426 BK427 HB; obtain ⟨HO_410000, HO_411000, HO_415000, HO_419000, HO_427000, HO_428000, BK392, BK393, BK409, BK410, BK414, BK418, BK426, BK427, HB⟩ := n_; (try clear hb); obtain ⟨hcz349_0, hfz349_0⟩ := hkc1 BK427) | ((with_reducible refine gate_callee (f := 29) rfl ?_); refine goesL_ (some 113) rfl rfl Try.func29 (by kernel_rfl) rfl #[.agg #[.slice Ao82 t447.length co82], .int .i64 t448] rfl (by (try simp only [List.map_toArray, List.map_cons, List.map_nil]); first | done | (rw [show t447.length = t422.length from (Kd.R_reads' HO_428000.out).1.symm] <;> rfl) | rfl | (simp only [List.length_drop, List.length_take]; rfl)) ?_; (with_reducible refine (laws_heldNat.calls kj174 _ _ t447 t448 t449 _ ?side1 ?side2 A302.out).mono ?_); (case side1 => exact hkC ((Kd.R_reads' HO_428000.out).2.2)); (case side2 => rw [show t447.length = t422.length from (Kd.R_reads' HO_428000.out).1.symm]; exact (Kd.R_reads' HO_428000.out).2.1); rintro e w350 ⟨rfl, hb⟩; refine ⟨_, rfl, ?_⟩; have n_ := hkA (hkRb HO_410000 hb) (hkA (hkRb HO_411000 hb) (hkA (hkRb HO_415000 hb) (hkA (hkRb HO_419000 hb) (hkA (hkRb HO_427000 hb) (hkA (hkRb HO_428000 hb) (hkA (hkBb BK392 hb) (hkA (hkBb BK393 hb) (hkA (hkBb BK409 hb) (hkA (hkBb BK410 hb) (hkA (hkBb BK414 hb) (hkA (hkBb BK418 hb) (hkA (hkBb BK426 hb) (hkA (hkBb BK427 hb) (hkU HB hb)))))))))))))); clear HO_410000 HO_411000 HO_415000 HO_419000 HO_427000 HO_428000 BK392 BK393 BK409 BK410 BK414 BK418 BK426 BK427 HB; obtain ⟨HO_410000, HO_411000, HO_415000, HO_419000, HO_427000, HO_428000, BK392, BK393, BK409, BK410, BK414, BK418, BK426, BK427, HB⟩ := n_; (try clear hb)))
              have n_ := hkA (Aside0.mk (Kd.R_drew HO_410000.out)) (hkA (Aside0.mk (Kd.R_drew HO_411000.out)) (hkA (Aside0.mk (Kd.R_drew HO_415000.out)) (hkA (Aside0.mk (Kd.R_drew HO_419000.out)) (hkA (Aside0.mk (Kd.R_drew HO_427000.out)) (hkA (Aside0.mk (Kd.R_drew HO_428000.out)) (hkA (Aside0.mk (blk_drew BK392.out)) (hkA (Aside0.mk (blk_drew BK393.out)) (hkA (Aside0.mk (blk_drew BK409.out)) (hkA (Aside0.mk (blk_drew BK410.out)) (hkA (Aside0.mk (blk_drew BK414.out)) (hkA (Aside0.mk (blk_drew BK418.out)) (hkA (Aside0.mk (blk_drew BK426.out)) (hkA (Aside0.mk (blk_drew BK427.out)) (Aside0.mk (below_drew1 HB.out)))))))))))))))
              clear HO_410000 HO_411000 HO_415000 HO_419000 HO_427000 HO_428000 BK392 BK393 BK409 BK410 BK414 BK418 BK426 BK427 HB
              obtain ⟨HO_410000, HO_411000, HO_415000, HO_419000, HO_427000, HO_428000, BK392, BK393, BK409, BK410, BK414, BK418, BK426, BK427, HB⟩ := n_
              refine start_ (n := 14) (S := fun w' => w'.cell? ⟨gb392, 0, none⟩ = some (.slice A0_0 l0_0.length c0_0) ∧ w'.cell? ⟨gb393, 0, none⟩ = some (.slice A1_0 l1_0.length c1_0)) (ds := []) #[false, false, false, false, false, false, false, false, false, false, false, false, false, false] (by kernel_rfl) rfl rfl ⟨(blk_cell BK392.out 0).trans rfl, (blk_cell BK393.out 0).trans rfl⟩ (fun hHeld => ?_); refine with_tabW laws_FnExactNatDiv.tab35 laws_FnExactNatDiv.bits35 (fun HT_ HW_ => ?_)
              generalize w350.drew = w351 at HO_410000 HO_411000 HO_415000 HO_419000 HO_427000 HO_428000 BK392 BK393 BK409 BK410 BK414 BK418 BK426 BK427 HB hHeld ⊢
              refine hkTt (i := 0) (N := some 120) HT_ HW_ hHeld ?_ (hy := by rintro w' ⟨s0, s1⟩; go_simp; with_reducible rfl)
              refine hkTt (i := 2) (N := some 122) HT_ HW_ hHeld ?_ (hy := by rintro w' ⟨s0, s1⟩; go_simp; with_reducible rfl)
              refine join_ (σ := Value × Value × Value × Value × Nat × Nat) 3 #[true, true, true, true, true, true, true, true, true, true, true, false, false, false] (fun s_ => [(121, .agg #[s_.1]), (123, .agg #[s_.2.1]), (124, .tuple #[.agg #[s_.2.2.1], .agg #[s_.2.2.2.1], .bool t462]), (17, .pointer (some ⟨s_.2.2.2.2.1, 0, none⟩)), (18, .pointer (some ⟨s_.2.2.2.2.2, 0, none⟩)), (119, .tuple #[.agg #[s_.2.2.1], .agg #[s_.2.2.2.1], .bool t462]), (125, .agg #[s_.2.2.1]), (126, .agg #[s_.2.2.2.1]), (127, .bool t462)]) (fun s_ w' => (w'.cell? ⟨gb392, 0, none⟩ = some (.slice A0_0 l0_0.length c0_0) ∧ w'.cell? ⟨gb393, 0, none⟩ = some (.slice A1_0 l1_0.length c1_0)) ∧ Aside0 (Kd.R (Kd.int .i64) 3 w' w.heap.size (fun k_ => some k_ ≠ (s_.2.1 : Value).ownBlock ∧ some k_ ≠ (s_.2.2.1 : Value).ownBlock ∧ some k_ ≠ (s_.2.2.2.1 : Value).ownBlock ∧ some k_ ≠ (.slice Ao42 t402.length co42 : Value).ownBlock ∧ some k_ ≠ (.slice Ao44 t405.length co44 : Value).ownBlock ∧ some k_ ≠ (.slice Ao51 t439.length co51 : Value).ownBlock ∧ some k_ ≠ (.slice Ao62 t441.length co62 : Value).ownBlock ∧ some k_ ≠ (.slice Ao73 t419.length co73 : Value).ownBlock ∧ some k_ ≠ (.slice Ao82 t422.length co82 : Value).ownBlock) s_.1 t450) ∧ Aside0 (Kd.R (Kd.int .i64) 3 w' w.heap.size (fun k_ => some k_ ≠ (s_.1 : Value).ownBlock ∧ some k_ ≠ (s_.2.2.1 : Value).ownBlock ∧ some k_ ≠ (s_.2.2.2.1 : Value).ownBlock ∧ some k_ ≠ (.slice Ao42 t402.length co42 : Value).ownBlock ∧ some k_ ≠ (.slice Ao44 t405.length co44 : Value).ownBlock ∧ some k_ ≠ (.slice Ao51 t439.length co51 : Value).ownBlock ∧ some k_ ≠ (.slice Ao62 t441.length co62 : Value).ownBlock ∧ some k_ ≠ (.slice Ao73 t419.length co73 : Value).ownBlock ∧ some k_ ≠ (.slice Ao82 t422.length co82 : Value).ownBlock) s_.2.1 t453) ∧ Aside0 (Kd.R (Kd.int .i64) 3 w' w.heap.size (fun k_ => some k_ ≠ (s_.1 : Value).ownBlock ∧ some k_ ≠ (s_.2.1 : Value).ownBlock ∧ some k_ ≠ (s_.2.2.2.1 : Value).ownBlock ∧ some k_ ≠ (.slice Ao42 t402.length co42 : Value).ownBlock ∧ some k_ ≠ (.slice Ao44 t405.length co44 : Value).ownBlock ∧ some k_ ≠ (.slice Ao51 t439.length co51 : Value).ownBlock ∧ some k_ ≠ (.slice Ao62 t441.length co62 : Value).ownBlock ∧ some k_ ≠ (.slice Ao73 t419.length co73 : Value).ownBlock ∧ some k_ ≠ (.slice Ao82 t422.length co82 : Value).ownBlock) s_.2.2.1 t456) ∧ Aside0 (Kd.R (Kd.int .i64) 3 w' w.heap.size (fun k_ => some k_ ≠ (s_.1 : Value).ownBlock ∧ some k_ ≠ (s_.2.1 : Value).ownBlock ∧ some k_ ≠ (s_.2.2.1 : Value).ownBlock ∧ some k_ ≠ (.slice Ao42 t402.length co42 : Value).ownBlock ∧ some k_ ≠ (.slice Ao44 t405.length co44 : Value).ownBlock ∧ some k_ ≠ (.slice Ao51 t439.length co51 : Value).ownBlock ∧ some k_ ≠ (.slice Ao62 t441.length co62 : Value).ownBlock ∧ some k_ ≠ (.slice Ao73 t419.length co73 : Value).ownBlock ∧ some k_ ≠ (.slice Ao82 t422.length co82 : Value).ownBlock) s_.2.2.2.1 t459) ∧ Aside0 (Kd.R (Kd.int .i64) 3 w' w.heap.size (fun k_ => some k_ ≠ (s_.1 : Value).ownBlock ∧ some k_ ≠ (s_.2.1 : Value).ownBlock ∧ some k_ ≠ (s_.2.2.1 : Value).ownBlock ∧ some k_ ≠ (s_.2.2.2.1 : Value).ownBlock ∧ some k_ ≠ (.slice Ao44 t405.length co44 : Value).ownBlock ∧ some k_ ≠ (.slice Ao51 t439.length co51 : Value).ownBlock ∧ some k_ ≠ (.slice Ao62 t441.length co62 : Value).ownBlock ∧ some k_ ≠ (.slice Ao73 t419.length co73 : Value).ownBlock ∧ some k_ ≠ (.slice Ao82 t422.length co82 : Value).ownBlock) (.slice Ao42 t402.length co42) t402) ∧ Aside0 (Kd.R (Kd.int .i64) 3 w' w.heap.size (fun k_ => some k_ ≠ (s_.1 : Value).ownBlock ∧ some k_ ≠ (s_.2.1 : Value).ownBlock ∧ some k_ ≠ (s_.2.2.1 : Value).ownBlock ∧ some k_ ≠ (s_.2.2.2.1 : Value).ownBlock ∧ some k_ ≠ (.slice Ao42 t402.length co42 : Value).ownBlock ∧ some k_ ≠ (.slice Ao51 t439.length co51 : Value).ownBlock ∧ some k_ ≠ (.slice Ao62 t441.length co62 : Value).ownBlock ∧ some k_ ≠ (.slice Ao73 t419.length co73 : Value).ownBlock ∧ some k_ ≠ (.slice Ao82 t422.length co82 : Value).ownBlock) (.slice Ao44 t405.length co44) t405) ∧ Aside0 (Kd.R (Kd.int .i64) 3 w' w.heap.size (fun k_ => some k_ ≠ (s_.1 : Value).ownBlock ∧ some k_ ≠ (s_.2.1 : Value).ownBlock ∧ some k_ ≠ (s_.2.2.1 : Value).ownBlock ∧ some k_ ≠ (s_.2.2.2.1 : Value).ownBlock ∧ some k_ ≠ (.slice Ao42 t402.length co42 : Value).ownBlock ∧ some k_ ≠ (.slice Ao44 t405.length co44 : Value).ownBlock ∧ some k_ ≠ (.slice Ao62 t441.length co62 : Value).ownBlock ∧ some k_ ≠ (.slice Ao73 t419.length co73 : Value).ownBlock ∧ some k_ ≠ (.slice Ao82 t422.length co82 : Value).ownBlock) (.slice Ao51 t439.length co51) t439) ∧ Aside0 (Kd.R (Kd.int .i64) 3 w' w.heap.size (fun k_ => some k_ ≠ (s_.1 : Value).ownBlock ∧ some k_ ≠ (s_.2.1 : Value).ownBlock ∧ some k_ ≠ (s_.2.2.1 : Value).ownBlock ∧ some k_ ≠ (s_.2.2.2.1 : Value).ownBlock ∧ some k_ ≠ (.slice Ao42 t402.length co42 : Value).ownBlock ∧ some k_ ≠ (.slice Ao44 t405.length co44 : Value).ownBlock ∧ some k_ ≠ (.slice Ao51 t439.length co51 : Value).ownBlock ∧ some k_ ≠ (.slice Ao73 t419.length co73 : Value).ownBlock ∧ some k_ ≠ (.slice Ao82 t422.length co82 : Value).ownBlock) (.slice Ao62 t441.length co62) t441) ∧ Aside0 (Kd.R (Kd.int .i64) 3 w' w.heap.size (fun k_ => some k_ ≠ (s_.1 : Value).ownBlock ∧ some k_ ≠ (s_.2.1 : Value).ownBlock ∧ some k_ ≠ (s_.2.2.1 : Value).ownBlock ∧ some k_ ≠ (s_.2.2.2.1 : Value).ownBlock ∧ some k_ ≠ (.slice Ao42 t402.length co42 : Value).ownBlock ∧ some k_ ≠ (.slice Ao44 t405.length co44 : Value).ownBlock ∧ some k_ ≠ (.slice Ao51 t439.length co51 : Value).ownBlock ∧ some k_ ≠ (.slice Ao62 t441.length co62 : Value).ownBlock ∧ some k_ ≠ (.slice Ao82 t422.length co82 : Value).ownBlock) (.slice Ao73 t419.length co73) t445) ∧ Aside0 (Kd.R (Kd.int .i64) 3 w' w.heap.size (fun k_ => some k_ ≠ (s_.1 : Value).ownBlock ∧ some k_ ≠ (s_.2.1 : Value).ownBlock ∧ some k_ ≠ (s_.2.2.1 : Value).ownBlock ∧ some k_ ≠ (s_.2.2.2.1 : Value).ownBlock ∧ some k_ ≠ (.slice Ao42 t402.length co42 : Value).ownBlock ∧ some k_ ≠ (.slice Ao44 t405.length co44 : Value).ownBlock ∧ some k_ ≠ (.slice Ao51 t439.length co51 : Value).ownBlock ∧ some k_ ≠ (.slice Ao62 t441.length co62 : Value).ownBlock ∧ some k_ ≠ (.slice Ao73 t419.length co73 : Value).ownBlock) (.slice Ao82 t422.length co82) t447) ∧ Aside0 (w'.heap[gb392]? = some (.cells #[.slice A0_0 l0_0.length c0_0] 31 (0, 0))) ∧ Aside0 (w'.heap[gb393]? = some (.cells #[.slice A1_0 l1_0.length c1_0] 31 (0, 0))) ∧ Aside0 (w'.heap[gb409]? = some (.cells #[.slice Ao42 t402.length co42] 38 (0, 0))) ∧ Aside0 (w'.heap[gb410]? = some (.cells #[.slice Ao44 t405.length co44] 38 (0, 0))) ∧ Aside0 (w'.heap[gb414]? = some (.cells #[.slice Ao51 t439.length co51] 38 (0, 0))) ∧ Aside0 (w'.heap[gb418]? = some (.cells #[.slice Ao62 t441.length co62] 38 (0, 0))) ∧ Aside0 (w'.heap[gb426]? = some (.cells #[.slice Ao73 t419.length co73] 38 (0, 0))) ∧ Aside0 (w'.heap[gb427]? = some (.cells #[.slice Ao82 t422.length co82] 38 (0, 0))) ∧ Aside0 (w'.heap[s_.2.2.2.2.1]? = some (.cells #[.slice none 0 0] 38 (0, 0))) ∧ Aside0 (w'.heap[s_.2.2.2.2.2]? = some (.cells #[.slice none 0 0] 38 (0, 0))) ∧ Aside0 (w.heap.size ≤ s_.2.2.2.2.1) ∧ Aside0 (w.heap.size ≤ s_.2.2.2.2.1) ∧ Aside0 (gb392 ≠ s_.2.2.2.2.1) ∧ Aside0 (s_.2.2.2.2.1 ≠ gb392) ∧ Aside0 (gb393 ≠ s_.2.2.2.2.1) ∧ Aside0 (s_.2.2.2.2.1 ≠ gb393) ∧ Aside0 (gb409 ≠ s_.2.2.2.2.1) ∧ Aside0 (s_.2.2.2.2.1 ≠ gb409) ∧ Aside0 (gb410 ≠ s_.2.2.2.2.1) ∧ Aside0 (s_.2.2.2.2.1 ≠ gb410) ∧ Aside0 (gb414 ≠ s_.2.2.2.2.1) ∧ Aside0 (s_.2.2.2.2.1 ≠ gb414) ∧ Aside0 (gb418 ≠ s_.2.2.2.2.1) ∧ Aside0 (s_.2.2.2.2.1 ≠ gb418) ∧ Aside0 (gb426 ≠ s_.2.2.2.2.1) ∧ Aside0 (s_.2.2.2.2.1 ≠ gb426) ∧ Aside0 (gb427 ≠ s_.2.2.2.2.1) ∧ Aside0 (s_.2.2.2.2.1 ≠ gb427) ∧ Aside0 (s_.2.2.2.2.2 ≠ s_.2.2.2.2.1) ∧ Aside0 (s_.2.2.2.2.1 ≠ s_.2.2.2.2.2) ∧ Aside0 (w.heap.size ≤ s_.2.2.2.2.2) ∧ Aside0 (w.heap.size ≤ s_.2.2.2.2.2) ∧ Aside0 (gb392 ≠ s_.2.2.2.2.2) ∧ Aside0 (s_.2.2.2.2.2 ≠ gb392) ∧ Aside0 (gb393 ≠ s_.2.2.2.2.2) ∧ Aside0 (s_.2.2.2.2.2 ≠ gb393) ∧ Aside0 (gb409 ≠ s_.2.2.2.2.2) ∧ Aside0 (s_.2.2.2.2.2 ≠ gb409) ∧ Aside0 (gb410 ≠ s_.2.2.2.2.2) ∧ Aside0 (s_.2.2.2.2.2 ≠ gb410) ∧ Aside0 (gb414 ≠ s_.2.2.2.2.2) ∧ Aside0 (s_.2.2.2.2.2 ≠ gb414) ∧ Aside0 (gb418 ≠ s_.2.2.2.2.2) ∧ Aside0 (s_.2.2.2.2.2 ≠ gb418) ∧ Aside0 (gb426 ≠ s_.2.2.2.2.2) ∧ Aside0 (s_.2.2.2.2.2 ≠ gb426) ∧ Aside0 (gb427 ≠ s_.2.2.2.2.2) ∧ Aside0 (s_.2.2.2.2.2 ≠ gb427) ∧ Aside0 (Below w.heap.size w w')) ?_ ?_
              rotate_left
              ·intro hJ1_3_4_9_10
               refine laws_FnExactNatDiv.nest35 (k := kj174) (fun _ _ _ _ _ h => h) ⟨Kd.C_below HR0_0.out HB.out⟩ HC0_0 ⟨Kd.C_below HR1_0.out HB.out⟩ HC1_0 A326 A327 A328 BK392 BK393 hHeld HT_ HW_ ?_
               rintro ⟨v451, v454, v457, v460, gb463, gb464⟩ W' h_
               dsimp only at h_
               obtain ⟨fhHeld, fHO398, fHO401, fHO404, fHO407, fBK392, fBK393, fBK409, fBK410, fGW409, fGE409, fNB392_409, fNB409_392, fNB393_409, fNB409_393, fNB410_409, fNB409_410, fGW410, fGE410, fNB392_410, fNB410_392, fNB393_410, fNB410_393, fHB⟩ := h_
               have hb := fHB.out
               have hsz : w.heap.size ≤ w351.heap.size := below_size HB.out
               exact hJ1_3_4_9_10 (v451, v454, v457, v460, gb463, gb464) W' ⟨fhHeld, ⟨Kd.R_mono (Kd.R_lower (Kd.R_new' (Kd.R_new' (Kd.R_new' (Kd.R_new' (Kd.R_new' (Kd.R_new' fHO398.out (Kd.R_lt HO_410000.out)) (Kd.R_lt HO_411000.out)) (Kd.R_lt HO_415000.out)) (Kd.R_lt HO_419000.out)) (Kd.R_lt HO_427000.out)) (Kd.R_lt HO_428000.out)) hsz) (fun _ hk => ⟨hk.1.1.1.1.1.1.1, hk.1.1.1.1.1.1.2.1, hk.1.1.1.1.1.1.2.2, hk.1.1.1.1.1.2, hk.1.1.1.1.2, hk.1.1.1.2, hk.1.1.2, hk.1.2, hk.2⟩)⟩, ⟨Kd.R_mono (Kd.R_lower (Kd.R_new' (Kd.R_new' (Kd.R_new' (Kd.R_new' (Kd.R_new' (Kd.R_new' fHO401.out (Kd.R_lt HO_410000.out)) (Kd.R_lt HO_411000.out)) (Kd.R_lt HO_415000.out)) (Kd.R_lt HO_419000.out)) (Kd.R_lt HO_427000.out)) (Kd.R_lt HO_428000.out)) hsz) (fun _ hk => ⟨hk.1.1.1.1.1.1.1, hk.1.1.1.1.1.1.2.1, hk.1.1.1.1.1.1.2.2, hk.1.1.1.1.1.2, hk.1.1.1.1.2, hk.1.1.1.2, hk.1.1.2, hk.1.2, hk.2⟩)⟩, ⟨Kd.R_mono (Kd.R_lower (Kd.R_new' (Kd.R_new' (Kd.R_new' (Kd.R_new' (Kd.R_new' (Kd.R_new' fHO404.out (Kd.R_lt HO_410000.out)) (Kd.R_lt HO_411000.out)) (Kd.R_lt HO_415000.out)) (Kd.R_lt HO_419000.out)) (Kd.R_lt HO_427000.out)) (Kd.R_lt HO_428000.out)) hsz) (fun _ hk => ⟨hk.1.1.1.1.1.1.1, hk.1.1.1.1.1.1.2.1, hk.1.1.1.1.1.1.2.2, hk.1.1.1.1.1.2, hk.1.1.1.1.2, hk.1.1.1.2, hk.1.1.2, hk.1.2, hk.2⟩)⟩, ⟨Kd.R_mono (Kd.R_lower (Kd.R_new' (Kd.R_new' (Kd.R_new' (Kd.R_new' (Kd.R_new' (Kd.R_new' fHO407.out (Kd.R_lt HO_410000.out)) (Kd.R_lt HO_411000.out)) (Kd.R_lt HO_415000.out)) (Kd.R_lt HO_419000.out)) (Kd.R_lt HO_427000.out)) (Kd.R_lt HO_428000.out)) hsz) (fun _ hk => ⟨hk.1.1.1.1.1.1.1, hk.1.1.1.1.1.1.2.1, hk.1.1.1.1.1.1.2.2, hk.1.1.1.1.1.2, hk.1.1.1.1.2, hk.1.1.1.2, hk.1.1.2, hk.1.2, hk.2⟩)⟩, ⟨Kd.R_mono (Kd.R_told (Kd.R_told (Kd.R_told (Kd.R_told (Kd.R_old HO_410000.out hb) (Kd.R_base fHO398.out)) (Kd.R_base fHO401.out)) (Kd.R_base fHO404.out)) (Kd.R_base fHO407.out)) (fun _ hk => ⟨hk.1.1.1.1.2, hk.1.1.1.2, hk.1.1.2, hk.1.2, hk.1.1.1.1.1⟩)⟩, ⟨Kd.R_mono (Kd.R_told (Kd.R_told (Kd.R_told (Kd.R_told (Kd.R_old HO_411000.out hb) (Kd.R_base fHO398.out)) (Kd.R_base fHO401.out)) (Kd.R_base fHO404.out)) (Kd.R_base fHO407.out)) (fun _ hk => ⟨hk.1.1.1.1.2, hk.1.1.1.2, hk.1.1.2, hk.1.2, hk.1.1.1.1.1⟩)⟩, ⟨Kd.R_mono (Kd.R_told (Kd.R_told (Kd.R_told (Kd.R_told (Kd.R_old HO_415000.out hb) (Kd.R_base fHO398.out)) (Kd.R_base fHO401.out)) (Kd.R_base fHO404.out)) (Kd.R_base fHO407.out)) (fun _ hk => ⟨hk.1.1.1.1.2, hk.1.1.1.2, hk.1.1.2, hk.1.2, hk.1.1.1.1.1⟩)⟩, ⟨Kd.R_mono (Kd.R_told (Kd.R_told (Kd.R_told (Kd.R_told (Kd.R_old HO_419000.out hb) (Kd.R_base fHO398.out)) (Kd.R_base fHO401.out)) (Kd.R_base fHO404.out)) (Kd.R_base fHO407.out)) (fun _ hk => ⟨hk.1.1.1.1.2, hk.1.1.1.2, hk.1.1.2, hk.1.2, hk.1.1.1.1.1⟩)⟩, ⟨Kd.R_mono (Kd.R_told (Kd.R_told (Kd.R_told (Kd.R_told (Kd.R_old HO_427000.out hb) (Kd.R_base fHO398.out)) (Kd.R_base fHO401.out)) (Kd.R_base fHO404.out)) (Kd.R_base fHO407.out)) (fun _ hk => ⟨hk.1.1.1.1.2, hk.1.1.1.2, hk.1.1.2, hk.1.2, hk.1.1.1.1.1⟩)⟩, ⟨Kd.R_mono (Kd.R_told (Kd.R_told (Kd.R_told (Kd.R_told (Kd.R_old HO_428000.out hb) (Kd.R_base fHO398.out)) (Kd.R_base fHO401.out)) (Kd.R_base fHO404.out)) (Kd.R_base fHO407.out)) (fun _ hk => ⟨hk.1.1.1.1.2, hk.1.1.1.2, hk.1.1.2, hk.1.2, hk.1.1.1.1.1⟩)⟩, ⟨blk_below BK392.out hb⟩, ⟨blk_below BK393.out hb⟩, ⟨blk_below BK409.out hb⟩, ⟨blk_below BK410.out hb⟩, ⟨blk_below BK414.out hb⟩, ⟨blk_below BK418.out hb⟩, ⟨blk_below BK426.out hb⟩, ⟨blk_below BK427.out hb⟩, fBK409, fBK410, ⟨Nat.le_trans hsz fGW409.out⟩, ⟨Nat.le_trans hsz fGW409.out⟩, ⟨Nat.ne_of_lt (Nat.lt_of_lt_of_le (blk_lt BK392.out) fGW409.out)⟩, ⟨Nat.ne_of_gt (Nat.lt_of_lt_of_le (blk_lt BK392.out) fGW409.out)⟩, ⟨Nat.ne_of_lt (Nat.lt_of_lt_of_le (blk_lt BK393.out) fGW409.out)⟩, ⟨Nat.ne_of_gt (Nat.lt_of_lt_of_le (blk_lt BK393.out) fGW409.out)⟩, ⟨Nat.ne_of_lt (Nat.lt_of_lt_of_le (blk_lt BK409.out) fGW409.out)⟩, ⟨Nat.ne_of_gt (Nat.lt_of_lt_of_le (blk_lt BK409.out) fGW409.out)⟩, ⟨Nat.ne_of_lt (Nat.lt_of_lt_of_le (blk_lt BK410.out) fGW409.out)⟩, ⟨Nat.ne_of_gt (Nat.lt_of_lt_of_le (blk_lt BK410.out) fGW409.out)⟩, ⟨Nat.ne_of_lt (Nat.lt_of_lt_of_le (blk_lt BK414.out) fGW409.out)⟩, ⟨Nat.ne_of_gt (Nat.lt_of_lt_of_le (blk_lt BK414.out) fGW409.out)⟩, ⟨Nat.ne_of_lt (Nat.lt_of_lt_of_le (blk_lt BK418.out) fGW409.out)⟩, ⟨Nat.ne_of_gt (Nat.lt_of_lt_of_le (blk_lt BK418.out) fGW409.out)⟩, ⟨Nat.ne_of_lt (Nat.lt_of_lt_of_le (blk_lt BK426.out) fGW409.out)⟩, ⟨Nat.ne_of_gt (Nat.lt_of_lt_of_le (blk_lt BK426.out) fGW409.out)⟩, ⟨Nat.ne_of_lt (Nat.lt_of_lt_of_le (blk_lt BK427.out) fGW409.out)⟩, ⟨Nat.ne_of_gt (Nat.lt_of_lt_of_le (blk_lt BK427.out) fGW409.out)⟩, fNB410_409, fNB409_410, ⟨Nat.le_trans hsz fGW410.out⟩, ⟨Nat.le_trans hsz fGW410.out⟩, ⟨Nat.ne_of_lt (Nat.lt_of_lt_of_le (blk_lt BK392.out) fGW410.out)⟩, ⟨Nat.ne_of_gt (Nat.lt_of_lt_of_le (blk_lt BK392.out) fGW410.out)⟩, ⟨Nat.ne_of_lt (Nat.lt_of_lt_of_le (blk_lt BK393.out) fGW410.out)⟩, ⟨Nat.ne_of_gt (Nat.lt_of_lt_of_le (blk_lt BK393.out) fGW410.out)⟩, ⟨Nat.ne_of_lt (Nat.lt_of_lt_of_le (blk_lt BK409.out) fGW410.out)⟩, ⟨Nat.ne_of_gt (Nat.lt_of_lt_of_le (blk_lt BK409.out) fGW410.out)⟩, ⟨Nat.ne_of_lt (Nat.lt_of_lt_of_le (blk_lt BK410.out) fGW410.out)⟩, ⟨Nat.ne_of_gt (Nat.lt_of_lt_of_le (blk_lt BK410.out) fGW410.out)⟩, ⟨Nat.ne_of_lt (Nat.lt_of_lt_of_le (blk_lt BK414.out) fGW410.out)⟩, ⟨Nat.ne_of_gt (Nat.lt_of_lt_of_le (blk_lt BK414.out) fGW410.out)⟩, ⟨Nat.ne_of_lt (Nat.lt_of_lt_of_le (blk_lt BK418.out) fGW410.out)⟩, ⟨Nat.ne_of_gt (Nat.lt_of_lt_of_le (blk_lt BK418.out) fGW410.out)⟩, ⟨Nat.ne_of_lt (Nat.lt_of_lt_of_le (blk_lt BK426.out) fGW410.out)⟩, ⟨Nat.ne_of_gt (Nat.lt_of_lt_of_le (blk_lt BK426.out) fGW410.out)⟩, ⟨Nat.ne_of_lt (Nat.lt_of_lt_of_le (blk_lt BK427.out) fGW410.out)⟩, ⟨Nat.ne_of_gt (Nat.lt_of_lt_of_le (blk_lt BK427.out) fGW410.out)⟩, ⟨below_step HB.out hb⟩⟩
              clear HO_410000 HO_411000 HO_415000 HO_419000 HO_427000 HO_428000 BK392 BK393 BK409 BK410 BK414 BK418 BK426 BK427 HB
              rintro ⟨v451, v454, v457, v460, gb463, gb464⟩ w359 h_
              dsimp only at h_
              obtain ⟨hHeld, HO452, HO455, HO458, HO461, HO_410000, HO_411000, HO_415000, HO_419000, HO_427000, HO_428000, BK392, BK393, BK409, BK410, BK414, BK418, BK426, BK427, BK463, BK464, GW463, GE463, NB392_463, NB463_392, NB393_463, NB463_393, NB409_463, NB463_409, NB410_463, NB463_410, NB414_463, NB463_414, NB418_463, NB463_418, NB426_463, NB463_426, NB427_463, NB463_427, NB464_463, NB463_464, GW464, GE464, NB392_464, NB464_392, NB393_464, NB464_393, NB409_464, NB464_409, NB410_464, NB464_410, NB414_464, NB464_414, NB418_464, NB464_418, NB426_464, NB464_426, NB427_464, NB464_427, HB⟩ := h_
              obtain ⟨Ao360, co360, eo360⟩ := Kd.R_slice HO458.out
              (first | subst eo360 | (injection eo360 with f1_ f2_ f3_; have f4_ := f1_.symm; have f5_ := f3_.symm; clear f1_ f2_ f3_; subst f4_; subst f5_))
              obtain ⟨Ao362, co362, eo362⟩ := Kd.R_slice HO461.out
              (first | subst eo362 | (injection eo362 with f1_ f2_ f3_; have f4_ := f1_.symm; have f5_ := f3_.symm; clear f1_ f2_ f3_; subst f4_; subst f5_))
              refine hkNp ?_
              refine one_ (i := 11) (N := none) #[true, true, true, true, true, true, true, true, true, true, true, true, false, false] rfl rfl (one_of HT_.out (by kernel_rfl)) (by decide) (fun K hK => ?_)
              have hs361 : w359.cell? ⟨gb463, 0, none⟩ = some (.slice none 0 0) := (blk_cell BK463.out 0).trans rfl
              have hfs361 := blk_frozen BK463.out 0
              have hns361_0 := NB392_463.out
              have hns361_1 := NB393_463.out
              have hns361_2 := NB409_463.out
              have hns361_3 := NB410_463.out
              have hns361_4 := NB414_463.out
              have hns361_5 := NB418_463.out
              have hns361_6 := NB426_463.out
              have hns361_7 := NB427_463.out
              have hns361_9 := NB464_463.out
              have hms361_0 := NB463_392.out
              have hms361_1 := NB463_393.out
              have hms361_2 := NB463_409.out
              have hms361_3 := NB463_410.out
              have hms361_4 := NB463_414.out
              have hms361_5 := NB463_418.out
              have hms361_6 := NB463_426.out
              have hms361_7 := NB463_427.out
              have hms361_9 := NB463_464.out
              refine skip_ (w1 := ?_) (by rfl) rfl ?_ ?_
              rotate_left
              ·go_simp
               rfl
              refine hK.out _ _ ⟨((cell_far (p := ⟨gb463, _, none⟩) NB392_463.out _).trans (hHeld.1)), ((cell_far (p := ⟨gb463, _, none⟩) NB393_463.out _).trans (hHeld.2))⟩ (fun hHeld => ?_)
              clear hK K
              refine one_ (i := 12) (N := none) #[true, true, true, true, true, true, true, true, true, true, true, true, true, false] rfl rfl (one_of HT_.out (by kernel_rfl)) (by decide) (fun K hK => ?_)
              have hs363 : w359.cell? ⟨gb464, 0, none⟩ = some (.slice none 0 0) := (blk_cell BK464.out 0).trans rfl
              have hfs363 := blk_frozen BK464.out 0
              have hns363_0 := NB392_464.out
              have hns363_1 := NB393_464.out
              have hns363_2 := NB409_464.out
              have hns363_3 := NB410_464.out
              have hns363_4 := NB414_464.out
              have hns363_5 := NB418_464.out
              have hns363_6 := NB426_464.out
              have hns363_7 := NB427_464.out
              have hns363_8 := NB463_464.out
              have hms363_0 := NB464_392.out
              have hms363_1 := NB464_393.out
              have hms363_2 := NB464_409.out
              have hms363_3 := NB464_410.out
              have hms363_4 := NB464_414.out
              have hms363_5 := NB464_418.out
              have hms363_6 := NB464_426.out
              have hms363_7 := NB464_427.out
              have hms363_8 := NB464_463.out
              refine skip_ (w1 := ?_) (by rfl) rfl ?_ ?_
              rotate_left
              ·go_simp
               rfl
              refine hK.out _ _ ⟨((cell_far (p := ⟨gb464, _, none⟩) NB392_464.out _).trans (hHeld.1)), ((cell_far (p := ⟨gb464, _, none⟩) NB393_464.out _).trans (hHeld.2))⟩ (fun hHeld => ?_)
              clear hK K
              refine hkPt (i := 13) (N := some 19) HT_ ?_
              refine done_ (done_of HT_.out (by kernel_rfl)) ?_
              go_upto_region 36 with (fail)
              go_cut [142] (fun v142 wc => ∃ (kq : Nat) (x142_328 : Bool), v142 = .bool x142_328 ∧ Aside0 (laws_FnExactNatDiv.j2 kq t446 x142_328 t445 t447 = some true) ∧ Aside0 (kq ≤ kj174) ∧ Aside0 (Kd.R (Kd.int .i64) 3 wc w.heap.size (fun k_ => some k_ ≠ ((.slice Ao44 t405.length co44) : Value).ownBlock ∧ some k_ ≠ ((.slice Ao51 t439.length co51) : Value).ownBlock ∧ some k_ ≠ ((.slice Ao62 t441.length co62) : Value).ownBlock ∧ some k_ ≠ ((.slice Ao73 t419.length co73) : Value).ownBlock ∧ some k_ ≠ ((.slice Ao82 t422.length co82) : Value).ownBlock ∧ some k_ ≠ ((.slice Ao360 t456.length co360) : Value).ownBlock ∧ some k_ ≠ ((.slice Ao362 t459.length co362) : Value).ownBlock) (.slice Ao42 t402.length co42) t402) ∧ Aside0 (Kd.R (Kd.int .i64) 3 wc w.heap.size (fun k_ => some k_ ≠ ((.slice Ao42 t402.length co42) : Value).ownBlock ∧ some k_ ≠ ((.slice Ao51 t439.length co51) : Value).ownBlock ∧ some k_ ≠ ((.slice Ao62 t441.length co62) : Value).ownBlock ∧ some k_ ≠ ((.slice Ao73 t419.length co73) : Value).ownBlock ∧ some k_ ≠ ((.slice Ao82 t422.length co82) : Value).ownBlock ∧ some k_ ≠ ((.slice Ao360 t456.length co360) : Value).ownBlock ∧ some k_ ≠ ((.slice Ao362 t459.length co362) : Value).ownBlock) (.slice Ao44 t405.length co44) t405) ∧ Aside0 (Kd.R (Kd.int .i64) 3 wc w.heap.size (fun k_ => some k_ ≠ ((.slice Ao42 t402.length co42) : Value).ownBlock ∧ some k_ ≠ ((.slice Ao44 t405.length co44) : Value).ownBlock ∧ some k_ ≠ ((.slice Ao62 t441.length co62) : Value).ownBlock ∧ some k_ ≠ ((.slice Ao73 t419.length co73) : Value).ownBlock ∧ some k_ ≠ ((.slice Ao82 t422.length co82) : Value).ownBlock ∧ some k_ ≠ ((.slice Ao360 t456.length co360) : Value).ownBlock ∧ some k_ ≠ ((.slice Ao362 t459.length co362) : Value).ownBlock) (.slice Ao51 t439.length co51) t439) ∧ Aside0 (Kd.R (Kd.int .i64) 3 wc w.heap.size (fun k_ => some k_ ≠ ((.slice Ao42 t402.length co42) : Value).ownBlock ∧ some k_ ≠ ((.slice Ao44 t405.length co44) : Value).ownBlock ∧ some k_ ≠ ((.slice Ao51 t439.length co51) : Value).ownBlock ∧ some k_ ≠ ((.slice Ao73 t419.length co73) : Value).ownBlock ∧ some k_ ≠ ((.slice Ao82 t422.length co82) : Value).ownBlock ∧ some k_ ≠ ((.slice Ao360 t456.length co360) : Value).ownBlock ∧ some k_ ≠ ((.slice Ao362 t459.length co362) : Value).ownBlock) (.slice Ao62 t441.length co62) t441) ∧ Aside0 (Kd.R (Kd.int .i64) 3 wc w.heap.size (fun k_ => some k_ ≠ ((.slice Ao42 t402.length co42) : Value).ownBlock ∧ some k_ ≠ ((.slice Ao44 t405.length co44) : Value).ownBlock ∧ some k_ ≠ ((.slice Ao51 t439.length co51) : Value).ownBlock ∧ some k_ ≠ ((.slice Ao62 t441.length co62) : Value).ownBlock ∧ some k_ ≠ ((.slice Ao82 t422.length co82) : Value).ownBlock ∧ some k_ ≠ ((.slice Ao360 t456.length co360) : Value).ownBlock ∧ some k_ ≠ ((.slice Ao362 t459.length co362) : Value).ownBlock) (.slice Ao73 t419.length co73) t445) ∧ Aside0 (Kd.R (Kd.int .i64) 3 wc w.heap.size (fun k_ => some k_ ≠ ((.slice Ao42 t402.length co42) : Value).ownBlock ∧ some k_ ≠ ((.slice Ao44 t405.length co44) : Value).ownBlock ∧ some k_ ≠ ((.slice Ao51 t439.length co51) : Value).ownBlock ∧ some k_ ≠ ((.slice Ao62 t441.length co62) : Value).ownBlock ∧ some k_ ≠ ((.slice Ao73 t419.length co73) : Value).ownBlock ∧ some k_ ≠ ((.slice Ao360 t456.length co360) : Value).ownBlock ∧ some k_ ≠ ((.slice Ao362 t459.length co362) : Value).ownBlock) (.slice Ao82 t422.length co82) t447) ∧ Aside0 (Kd.R (Kd.int .i64) 3 wc w.heap.size (fun k_ => some k_ ≠ ((.slice Ao42 t402.length co42) : Value).ownBlock ∧ some k_ ≠ ((.slice Ao44 t405.length co44) : Value).ownBlock ∧ some k_ ≠ ((.slice Ao51 t439.length co51) : Value).ownBlock ∧ some k_ ≠ ((.slice Ao62 t441.length co62) : Value).ownBlock ∧ some k_ ≠ ((.slice Ao73 t419.length co73) : Value).ownBlock ∧ some k_ ≠ ((.slice Ao82 t422.length co82) : Value).ownBlock ∧ some k_ ≠ ((.slice Ao362 t459.length co362) : Value).ownBlock) (.slice Ao360 t456.length co360) t456) ∧ Aside0 (Kd.R (Kd.int .i64) 3 wc w.heap.size (fun k_ => some k_ ≠ ((.slice Ao42 t402.length co42) : Value).ownBlock ∧ some k_ ≠ ((.slice Ao44 t405.length co44) : Value).ownBlock ∧ some k_ ≠ ((.slice Ao51 t439.length co51) : Value).ownBlock ∧ some k_ ≠ ((.slice Ao62 t441.length co62) : Value).ownBlock ∧ some k_ ≠ ((.slice Ao73 t419.length co73) : Value).ownBlock ∧ some k_ ≠ ((.slice Ao82 t422.length co82) : Value).ownBlock ∧ some k_ ≠ ((.slice Ao360 t456.length co360) : Value).ownBlock) (.slice Ao362 t459.length co362) t459) ∧ Aside0 (wc.heap[gb392]? = some (.cells #[(.slice A0_0 l0_0.length c0_0)] 31 (0, 0))) ∧ Aside0 (wc.heap[gb393]? = some (.cells #[(.slice A1_0 l1_0.length c1_0)] 31 (0, 0))) ∧ Aside0 (wc.heap[gb409]? = some (.cells #[(.slice Ao42 t402.length co42)] 38 (0, 0))) ∧ Aside0 (wc.heap[gb410]? = some (.cells #[(.slice Ao44 t405.length co44)] 38 (0, 0))) ∧ Aside0 (wc.heap[gb414]? = some (.cells #[(.slice Ao51 t439.length co51)] 38 (0, 0))) ∧ Aside0 (wc.heap[gb418]? = some (.cells #[(.slice Ao62 t441.length co62)] 38 (0, 0))) ∧ Aside0 (wc.heap[gb426]? = some (.cells #[(.slice Ao73 t419.length co73)] 38 (0, 0))) ∧ Aside0 (wc.heap[gb427]? = some (.cells #[(.slice Ao82 t422.length co82)] 38 (0, 0))) ∧ Aside0 (wc.heap[gb463]? = some (.cells #[(.slice Ao360 t456.length co360)] 38 (0, 0))) ∧ Aside0 (wc.heap[gb464]? = some (.cells #[(.slice Ao362 t459.length co362)] 38 (0, 0))) ∧ Aside0 (Below w.heap.size w wc))
              case first =>
               have H := HC329.out
               clear HC329
               replace H := hBi H
               obtain ⟨t465, A3640, H⟩ := H
               replace H : (if t465 = true then ((laws_eqNat.f kj174 t459 t405).bind fun t466 => (if t466 = true then (laws_FnExactNatDiv.j2 kj174 t446 (t462 != t408) t445 t447) else (laws_FnExactNatDiv.j2 kj174 t446 true t445 t447))) else (laws_FnExactNatDiv.j2 kj174 t446 true t445 t447)) = some true := H
               have A364 := Aside0.mk A3640
               clear A3640
               by_cases c365 : t465 = true
               ·subst c365
                have H1 : ((laws_eqNat.f kj174 t459 t405).bind fun t466 => (if t466 = true then (laws_FnExactNatDiv.j2 kj174 t446 (t462 != t408) t445 t447) else (laws_FnExactNatDiv.j2 kj174 t446 true t445 t447))) = some true := by rw [if_pos rfl] at H; exact H
                clear H
                have H := H1
                clear H1
                replace H := hBi H
                obtain ⟨t466, A3660, H⟩ := H
                replace H : (if t466 = true then (laws_FnExactNatDiv.j2 kj174 t446 (t462 != t408) t445 t447) else (laws_FnExactNatDiv.j2 kj174 t446 true t445 t447)) = some true := H
                have A366 := Aside0.mk A3660
                clear A3660
                by_cases c367 : t466 = true
                ·subst c367
                 have H1 : (laws_FnExactNatDiv.j2 kj174 t446 (t462 != t408) t445 t447) = some true := by rw [if_pos rfl] at H; exact H
                 clear H
                 have H := H1
                 clear H1
                 have H' := Aside0.mk H
                 clear H
                 have hnb368 := NB463_392.out
                 have hnc368 := NB392_463.out
                 have hnb369 := NB463_393.out
                 have hnc369 := NB393_463.out
                 have hnb370 := NB463_409.out
                 have hnc370 := NB409_463.out
                 have hnb371 := NB463_410.out
                 have hnc371 := NB410_463.out
                 have hnb372 := NB463_414.out
                 have hnc372 := NB414_463.out
                 have hnb373 := NB463_418.out
                 have hnc373 := NB418_463.out
                 have hnb374 := NB463_426.out
                 have hnc374 := NB426_463.out
                 have hnb375 := NB463_427.out
                 have hnc375 := NB427_463.out
                 have hnb376 := NB463_464.out
                 have hnc376 := NB464_463.out
                 obtain ⟨hcz377_0, hfz377_0⟩ := hkc1 BK463
                 have hnb378 := NB409_392.out
                 have hnc378 := NB392_409.out
                 have hnb379 := NB409_393.out
                 have hnc379 := NB393_409.out
                 have hnb380 := NB409_410.out
                 have hnc380 := NB410_409.out
                 have hnb381 := NB409_414.out
                 have hnc381 := NB414_409.out
                 have hnb382 := NB409_418.out
                 have hnc382 := NB418_409.out
                 have hnb383 := NB409_426.out
                 have hnc383 := NB426_409.out
                 have hnb384 := NB409_427.out
                 have hnc384 := NB427_409.out
                 have hnb385 := NB409_464.out
                 have hnc385 := NB464_409.out
                 obtain ⟨hcz386_0, hfz386_0⟩ := hkc1 BK409
                 go_wp2_with (first | ((with_reducible refine gate_callee (f := 27) rfl ?_); refine hkGo (N := some 130) Try.func27 #[.agg #[.slice Ao360 t456.length co360], .agg #[.slice Ao42 t402.length co42]] ?_; (with_reducible refine (laws_eqNat.calls kj174 _ _ t456 _ _ t402 true _ ?side1 ?side2 ?side3 ?side4 A364.out).mono ?_); (case side1 => refine (Kd.R_reads' (e := 3) (base := w.heap.size) (ok := fun k_ => (some k_ ≠ (v451 : Value).ownBlock ∧ (some k_ ≠ (v454 : Value).ownBlock ∧ (some k_ ≠ (.slice Ao362 t459.length co362 : Value).ownBlock ∧ (some k_ ≠ (.slice Ao42 t402.length co42 : Value).ownBlock ∧ (some k_ ≠ (.slice Ao44 t405.length co44 : Value).ownBlock ∧ (some k_ ≠ (.slice Ao51 t439.length co51 : Value).ownBlock ∧ (some k_ ≠ (.slice Ao62 t441.length co62 : Value).ownBlock ∧ (some k_ ≠ (.slice Ao73 t419.length co73 : Value).ownBlock ∧ some k_ ≠ (.slice Ao82 t422.length co82 : Value).ownBlock))))))))) (n := t456.length) (c := co360) ?_).2.2; exact (by (with_reducible repeat (first | apply Kd.R_alloc | apply Kd.R_drewN | apply Kd.R_drew)); exact (Kd.R_mono (Kd.R_mono (Kd.R_far (p := ⟨gb464, 0, none⟩) (Kd.R_far (p := ⟨gb463, 0, none⟩) (Kd.R_types (Kd.R_types HO458.out BK463.out (by decide)) BK464.out (by decide)) (fun _ hk => hk.1.2) (.slice Ao360 t456.length co360)) (fun _ hk => hk.2) (.slice Ao362 t459.length co362)) (fun _ h_ => h_.1)) (fun _ h_ => h_.1)))); (case side2 => exact (Kd.R_reads' HO458.out).2.1); (case side3 => refine (Kd.R_reads' (e := 3) (base := w.heap.size) (ok := fun k_ => (some k_ ≠ (v451 : Value).ownBlock ∧ (some k_ ≠ (v454 : Value).ownBlock ∧ (some k_ ≠ (.slice Ao360 t456.length co360 : Value).ownBlock ∧ (some k_ ≠ (.slice Ao362 t459.length co362 : Value).ownBlock ∧ (some k_ ≠ (.slice Ao44 t405.length co44 : Value).ownBlock ∧ (some k_ ≠ (.slice Ao51 t439.length co51 : Value).ownBlock ∧ (some k_ ≠ (.slice Ao62 t441.length co62 : Value).ownBlock ∧ (some k_ ≠ (.slice Ao73 t419.length co73 : Value).ownBlock ∧ some k_ ≠ (.slice Ao82 t422.length co82 : Value).ownBlock))))))))) (n := t402.length) (c := co42) ?_).2.2; exact (by (with_reducible repeat (first | apply Kd.R_alloc | apply Kd.R_drewN | apply Kd.R_drew)); exact (Kd.R_mono (Kd.R_mono (Kd.R_far (p := ⟨gb464, 0, none⟩) (Kd.R_far (p := ⟨gb463, 0, none⟩) (Kd.R_types (Kd.R_types HO_410000.out BK463.out (by decide)) BK464.out (by decide)) (fun _ hk => hk.1.2) (.slice Ao360 t456.length co360)) (fun _ hk => hk.2) (.slice Ao362 t459.length co362)) (fun _ h_ => h_.1)) (fun _ h_ => h_.1)))); (case side4 => exact (Kd.R_reads' HO_410000.out).2.1); rintro e w387 ⟨rfl, hb⟩; refine ⟨_, rfl, ?_⟩; have n_ := hkA (Aside0.mk (Kd.R_below (by (with_reducible repeat (first | apply Kd.R_alloc | apply Kd.R_drewN | apply Kd.R_drew)); exact (Kd.R_mono (Kd.R_mono (Kd.R_far (p := ⟨gb464, 0, none⟩) (Kd.R_far (p := ⟨gb463, 0, none⟩) (Kd.R_types (Kd.R_types HO_410000.out BK463.out (by decide)) BK464.out (by decide)) (fun _ hk => hk.1.2) (.slice Ao360 t456.length co360)) (fun _ hk => hk.2) (.slice Ao362 t459.length co362)) (fun _ h_ => h_.1)) (fun _ h_ => h_.1))) hb)) (hkA (Aside0.mk (Kd.R_below (by (with_reducible repeat (first | apply Kd.R_alloc | apply Kd.R_drewN | apply Kd.R_drew)); exact (Kd.R_mono (Kd.R_mono (Kd.R_far (p := ⟨gb464, 0, none⟩) (Kd.R_far (p := ⟨gb463, 0, none⟩) (Kd.R_types (Kd.R_types HO_411000.out BK463.out (by decide)) BK464.out (by decide)) (fun _ hk => hk.1.2) (.slice Ao360 t456.length co360)) (fun _ hk => hk.2) (.slice Ao362 t459.length co362)) (fun _ h_ => h_.1)) (fun _ h_ => h_.1))) hb)) (hkA (Aside0.mk (Kd.R_below (by (with_reducible repeat (first | apply Kd.R_alloc | apply Kd.R_drewN | apply Kd.R_drew)); exact (Kd.R_mono (Kd.R_mono (Kd.R_far (p := ⟨gb464, 0, none⟩) (Kd.R_far (p := ⟨gb463, 0, none⟩) (Kd.R_types (Kd.R_types HO_415000.out BK463.out (by decide)) BK464.out (by decide)) (fun _ hk => hk.1.2) (.slice Ao360 t456.length co360)) (fun _ hk => hk.2) (.slice Ao362 t459.length co362)) (fun _ h_ => h_.1)) (fun _ h_ => h_.1))) hb)) (hkA (Aside0.mk (Kd.R_below (by (with_reducible repeat (first | apply Kd.R_alloc | apply Kd.R_drewN | apply Kd.R_drew)); exact (Kd.R_mono (Kd.R_mono (Kd.R_far (p := ⟨gb464, 0, none⟩) (Kd.R_far (p := ⟨gb463, 0, none⟩) (Kd.R_types (Kd.R_types HO_419000.out BK463.out (by decide)) BK464.out (by decide)) (fun _ hk => hk.1.2) (.slice Ao360 t456.length co360)) (fun _ hk => hk.2) (.slice Ao362 t459.length co362)) (fun _ h_ => h_.1)) (fun _ h_ => h_.1))) hb)) (hkA (Aside0.mk (Kd.R_below (by (with_reducible repeat (first | apply Kd.R_alloc | apply Kd.R_drewN | apply Kd.R_drew)); exact (Kd.R_mono (Kd.R_mono (Kd.R_far (p := ⟨gb464, 0, none⟩) (Kd.R_far (p := ⟨gb463, 0, none⟩) (Kd.R_types (Kd.R_types HO_427000.out BK463.out (by decide)) BK464.out (by decide)) (fun _ hk => hk.1.2) (.slice Ao360 t456.length co360)) (fun _ hk => hk.2) (.slice Ao362 t459.length co362)) (fun _ h_ => h_.1)) (fun _ h_ => h_.1))) hb)) (hkA (Aside0.mk (Kd.R_below (by (with_reducible repeat (first | apply Kd.R_alloc | apply Kd.R_drewN | apply Kd.R_drew)); exact (Kd.R_mono (Kd.R_mono (Kd.R_far (p := ⟨gb464, 0, none⟩) (Kd.R_far (p := ⟨gb463, 0, none⟩) (Kd.R_types (Kd.R_types HO_428000.out BK463.out (by decide)) BK464.out (by decide)) (fun _ hk => hk.1.2) (.slice Ao360 t456.length co360)) (fun _ hk => hk.2) (.slice Ao362 t459.length co362)) (fun _ h_ => h_.1)) (fun _ h_ => h_.1))) hb)) (hkA (Aside0.mk (Kd.R_below (by (with_reducible repeat (first | apply Kd.R_alloc | apply Kd.R_drewN | apply Kd.R_drew)); exact (Kd.R_mono (Kd.R_mono (Kd.R_far (p := ⟨gb464, 0, none⟩) (Kd.R_far (p := ⟨gb463, 0, none⟩) (Kd.R_types (Kd.R_types HO452.out BK463.out (by decide)) BK464.out (by decide)) (fun _ hk => hk.1.2) (.slice Ao360 t456.length co360)) (fun _ hk => hk.2) (.slice Ao362 t459.length co362)) (fun _ h_ => h_.1)) (fun _ h_ => h_.1))) hb)) (hkA (Aside0.mk (Kd.R_below (by (with_reducible repeat (first | apply Kd.R_alloc | apply Kd.R_drewN | apply Kd.R_drew)); exact (Kd.R_mono (Kd.R_mono (Kd.R_far (p := ⟨gb464, 0, none⟩) (Kd.R_far (p := ⟨gb463, 0, none⟩) (Kd.R_types (Kd.R_types HO455.out BK463.out (by decide)) BK464.out (by decide)) (fun _ hk => hk.1.2) (.slice Ao360 t456.length co360)) (fun _ hk => hk.2) (.slice Ao362 t459.length co362)) (fun _ h_ => h_.1)) (fun _ h_ => h_.1))) hb)) (hkA (Aside0.mk (Kd.R_below (by (with_reducible repeat (first | apply Kd.R_alloc | apply Kd.R_drewN | apply Kd.R_drew)); exact (Kd.R_mono (Kd.R_mono (Kd.R_far (p := ⟨gb464, 0, none⟩) (Kd.R_far (p := ⟨gb463, 0, none⟩) (Kd.R_types (Kd.R_types HO458.out BK463.out (by decide)) BK464.out (by decide)) (fun _ hk => hk.1.2) (.slice Ao360 t456.length co360)) (fun _ hk => hk.2) (.slice Ao362 t459.length co362)) (fun _ h_ => h_.1)) (fun _ h_ => h_.1))) hb)) (hkA (Aside0.mk (Kd.R_below (by (with_reducible repeat (first | apply Kd.R_alloc | apply Kd.R_drewN | apply Kd.R_drew)); exact (Kd.R_mono (Kd.R_mono (Kd.R_far (p := ⟨gb464, 0, none⟩) (Kd.R_far (p := ⟨gb463, 0, none⟩) (Kd.R_types (Kd.R_types HO461.out BK463.out (by decide)) BK464.out (by decide)) (fun _ hk => hk.1.2) (.slice Ao360 t456.length co360)) (fun _ hk => hk.2) (.slice Ao362 t459.length co362)) (fun _ h_ => h_.1)) (fun _ h_ => h_.1))) hb)) (hkA (Aside0.mk (blk_below (g := gb392) (o := .cells #[.slice A0_0 l0_0.length c0_0] 31 (0, 0)) hkPp hb)) (hkA (Aside0.mk (blk_below (g := gb393) (o := .cells #[.slice A1_0 l1_0.length c1_0] 31 (0, 0)) hkPp hb)) (hkA (Aside0.mk (blk_below (g := gb409) (o := .cells #[.slice Ao42 t402.length co42] 38 (0, 0)) hkPp hb)) (hkA (Aside0.mk (blk_below (g := gb410) (o := .cells #[.slice Ao44 t405.length co44] 38 (0, 0)) hkPp hb)) (hkA (Aside0.mk (blk_below (g := gb414) (o := .cells #[.slice Ao51 t439.length co51] 38 (0, 0)) hkPp hb)) (hkA (Aside0.mk (blk_below (g := gb418) (o := .cells #[.slice Ao62 t441.length co62] 38 (0, 0)) hkPp hb)) (hkA (Aside0.mk (blk_below (g := gb426) (o := .cells #[.slice Ao73 t419.length co73] 38 (0, 0)) hkPp hb)) (hkA (Aside0.mk (blk_below (g := gb427) (o := .cells #[.slice Ao82 t422.length co82] 38 (0, 0)) hkPp hb)) (hkA (Aside0.mk (blk_below (g := gb463) (o := .cells #[.slice Ao360 t456.length co360] 38 (0, 0)) hkPp hb)) (hkA (Aside0.mk (blk_below (g := gb464) (o := .cells #[.slice Ao362 t459.length co362] 38 (0, 0)) hkPp hb)) (hkU HB hb)))))))))))))))))))); clear HO_410000 HO_411000 HO_415000 HO_419000 HO_427000 HO_428000 HO452 HO455 HO458 HO461 BK392 BK393 BK409 BK410 BK414 BK418 BK426 BK427 BK463 BK464 HB; obtain ⟨HO_410000, HO_411000, HO_415000, HO_419000, HO_427000, HO_428000, HO452, HO455, HO458, HO461, BK392, BK393, BK409, BK410, BK414, BK418, BK426, BK427, BK463, BK464, HB⟩ := n_; (try clear hb); (try clear hk); have hnb388 := NB464_392.out; have hnc388 := NB392_464.out; have hnb389 := NB464_393.out; have hnc389 := NB393_464.out; have hnb390 := NB464_410.out; have hnc390 := NB410_464.out; have hnb391 := NB464_414.out; have hnc391 := NB414_464.out; have hnb392 := NB464_418.out; have hnc392 := NB418_464.out; have hnb393 := NB464_426.out; have hnc393 := NB426_464.out; have hnb394 := NB464_427.out; have hnc394 := NB427_464.out; obtain ⟨hcz395_0, hfz395_0⟩ := hkc1 BK464; have hnb396 := NB410_392.out; have hnc396 := NB392_410.out; have hnb397 := NB410_393.out; have hnc397 := NB393_410.out; have hnb398 := NB410_414.out; have hnc398 := NB414_410.out; have hnb399 := NB410_418.out; have hnc399 := NB418_410.out; have hnb400 := NB410_426.out; have hnc400 := NB426_410.out; have hnb401 := NB410_427.out; have hnc401 := NB427_410.out; obtain ⟨hcz402_0, hfz402_0⟩ := hkc1 BK410) | (go_at_call 27; (with_reducible refine (laws_eqNat.calls kj174 _ _ t459 _ _ t405 true _ ?side1 ?side2 ?side3 ?side4 A366.out).mono ?_); (case side1 => exact hkC ((Kd.R_reads' HO461.out).2.2)); (case side2 => exact (Kd.R_reads' HO461.out).2.1); (case side3 => exact hkC ((Kd.R_reads' HO_411000.out).2.2)); (case side4 => exact (Kd.R_reads' HO_411000.out).2.1); rintro e w403 ⟨rfl, hb⟩; have n_ := hkA (hkRb HO_410000 hb) (hkA (hkRb HO_411000 hb) (hkA (hkRb HO_415000 hb) (hkA (hkRb HO_419000 hb) (hkA (hkRb HO_427000 hb) (hkA (hkRb HO_428000 hb) (hkA (hkRb HO452 hb) (hkA (hkRb HO455 hb) (hkA (hkRb HO458 hb) (hkA (hkRb HO461 hb) (hkA (hkBb BK392 hb) (hkA (hkBb BK393 hb) (hkA (hkBb BK409 hb) (hkA (hkBb BK410 hb) (hkA (hkBb BK414 hb) (hkA (hkBb BK418 hb) (hkA (hkBb BK426 hb) (hkA (hkBb BK427 hb) (hkA (hkBb BK463 hb) (hkA (hkBb BK464 hb) (hkU HB hb)))))))))))))))))))); clear HO_410000 HO_411000 HO_415000 HO_419000 HO_427000 HO_428000 HO452 HO455 HO458 HO461 BK392 BK393 BK409 BK410 BK414 BK418 BK426 BK427 BK463 BK464 HB; obtain ⟨HO_410000, HO_411000, HO_415000, HO_419000, HO_427000, HO_428000, HO452, HO455, HO458, HO461, BK392, BK393, BK409, BK410, BK414, BK418, BK426, BK427, BK463, BK464, HB⟩ := n_; (try clear hb); (try clear hk)))
                 go_meet
                 case rel => exact ⟨_, ((t462 != t408)), (by first | rfl | (simp; done) | (simp [*]; done)), H', ⟨by have := HJ24.out; have := HJ174.out; first | omega | exact Nat.le_refl _⟩, ⟨by (try simp only [hl415000_174]); (try simp only [hl419000_174]); (with_reducible repeat (first | apply Kd.R_alloc | apply Kd.R_drewN | apply Kd.R_drew)); exact Kd.R_mono HO_410000.out (fun _ hk => ⟨hk.2.2.2.2.1, ⟨hk.2.2.2.2.2.1, ⟨hk.2.2.2.2.2.2.1, ⟨hk.2.2.2.2.2.2.2.1, ⟨hk.2.2.2.2.2.2.2.2, ⟨hk.2.2.1, hk.2.2.2.1⟩⟩⟩⟩⟩⟩)⟩, ⟨by (try simp only [hl415000_174]); (try simp only [hl419000_174]); (with_reducible repeat (first | apply Kd.R_alloc | apply Kd.R_drewN | apply Kd.R_drew)); exact Kd.R_mono HO_411000.out (fun _ hk => ⟨hk.2.2.2.2.1, ⟨hk.2.2.2.2.2.1, ⟨hk.2.2.2.2.2.2.1, ⟨hk.2.2.2.2.2.2.2.1, ⟨hk.2.2.2.2.2.2.2.2, ⟨hk.2.2.1, hk.2.2.2.1⟩⟩⟩⟩⟩⟩)⟩, ⟨by (try simp only [hl415000_174]); (try simp only [hl419000_174]); (with_reducible repeat (first | apply Kd.R_alloc | apply Kd.R_drewN | apply Kd.R_drew)); exact Kd.R_mono HO_415000.out (fun _ hk => ⟨hk.2.2.2.2.1, ⟨hk.2.2.2.2.2.1, ⟨hk.2.2.2.2.2.2.1, ⟨hk.2.2.2.2.2.2.2.1, ⟨hk.2.2.2.2.2.2.2.2, ⟨hk.2.2.1, hk.2.2.2.1⟩⟩⟩⟩⟩⟩)⟩, ⟨by (try simp only [hl415000_174]); (try simp only [hl419000_174]); (with_reducible repeat (first | apply Kd.R_alloc | apply Kd.R_drewN | apply Kd.R_drew)); exact Kd.R_mono HO_419000.out (fun _ hk => ⟨hk.2.2.2.2.1, ⟨hk.2.2.2.2.2.1, ⟨hk.2.2.2.2.2.2.1, ⟨hk.2.2.2.2.2.2.2.1, ⟨hk.2.2.2.2.2.2.2.2, ⟨hk.2.2.1, hk.2.2.2.1⟩⟩⟩⟩⟩⟩)⟩, ⟨by (try simp only [hl415000_174]); (try simp only [hl419000_174]); (with_reducible repeat (first | apply Kd.R_alloc | apply Kd.R_drewN | apply Kd.R_drew)); exact Kd.R_mono HO_427000.out (fun _ hk => ⟨hk.2.2.2.2.1, ⟨hk.2.2.2.2.2.1, ⟨hk.2.2.2.2.2.2.1, ⟨hk.2.2.2.2.2.2.2.1, ⟨hk.2.2.2.2.2.2.2.2, ⟨hk.2.2.1, hk.2.2.2.1⟩⟩⟩⟩⟩⟩)⟩, ⟨by (try simp only [hl415000_174]); (try simp only [hl419000_174]); (with_reducible repeat (first | apply Kd.R_alloc | apply Kd.R_drewN | apply Kd.R_drew)); exact Kd.R_mono HO_428000.out (fun _ hk => ⟨hk.2.2.2.2.1, ⟨hk.2.2.2.2.2.1, ⟨hk.2.2.2.2.2.2.1, ⟨hk.2.2.2.2.2.2.2.1, ⟨hk.2.2.2.2.2.2.2.2, ⟨hk.2.2.1, hk.2.2.2.1⟩⟩⟩⟩⟩⟩)⟩, ⟨by (try simp only [hl415000_174]); (try simp only [hl419000_174]); (with_reducible repeat (first | apply Kd.R_alloc | apply Kd.R_drewN | apply Kd.R_drew)); exact Kd.R_mono HO458.out (fun _ hk => ⟨hk.2.2.2.1, ⟨hk.2.2.2.2.1, ⟨hk.2.2.2.2.2.1, ⟨hk.2.2.2.2.2.2.1, ⟨hk.2.2.2.2.2.2.2.1, ⟨hk.2.2.2.2.2.2.2.2, hk.2.2.1⟩⟩⟩⟩⟩⟩)⟩, ⟨by (try simp only [hl415000_174]); (try simp only [hl419000_174]); (with_reducible repeat (first | apply Kd.R_alloc | apply Kd.R_drewN | apply Kd.R_drew)); exact Kd.R_mono HO461.out (fun _ hk => ⟨hk.2.2.2.1, ⟨hk.2.2.2.2.1, ⟨hk.2.2.2.2.2.1, ⟨hk.2.2.2.2.2.2.1, ⟨hk.2.2.2.2.2.2.2.1, ⟨hk.2.2.2.2.2.2.2.2, hk.2.2.1⟩⟩⟩⟩⟩⟩)⟩, ⟨by (try simp only [hl415000_174]); (try simp only [hl419000_174]); refine hkz ?_; exact BK392.out⟩, ⟨by (try simp only [hl415000_174]); (try simp only [hl419000_174]); refine hkz ?_; exact BK393.out⟩, ⟨by (try simp only [hl415000_174]); (try simp only [hl419000_174]); refine hkz ?_; exact BK409.out⟩, ⟨by (try simp only [hl415000_174]); (try simp only [hl419000_174]); refine hkz ?_; exact BK410.out⟩, ⟨by (try simp only [hl415000_174]); (try simp only [hl419000_174]); refine hkz ?_; exact BK414.out⟩, ⟨by (try simp only [hl415000_174]); (try simp only [hl419000_174]); refine hkz ?_; exact BK418.out⟩, ⟨by (try simp only [hl415000_174]); (try simp only [hl419000_174]); refine hkz ?_; exact BK426.out⟩, ⟨by (try simp only [hl415000_174]); (try simp only [hl419000_174]); refine hkz ?_; exact BK427.out⟩, ⟨by (try simp only [hl415000_174]); (try simp only [hl419000_174]); refine hkz ?_; exact BK463.out⟩, ⟨by (try simp only [hl415000_174]); (try simp only [hl419000_174]); refine hkz ?_; exact BK464.out⟩, ⟨hkS HB⟩⟩
                ·replace c367 := Bool.eq_false_iff.mpr c367
                 subst c367
                 have H1 : (laws_FnExactNatDiv.j2 kj174 t446 true t445 t447) = some true := by rw [if_neg (show ¬ (false = true) by decide)] at H; exact H
                 clear H
                 have H := H1
                 clear H1
                 have H' := Aside0.mk H
                 clear H
                 have hnb404 := NB463_392.out
                 have hnc404 := NB392_463.out
                 have hnb405 := NB463_393.out
                 have hnc405 := NB393_463.out
                 have hnb406 := NB463_409.out
                 have hnc406 := NB409_463.out
                 have hnb407 := NB463_410.out
                 have hnc407 := NB410_463.out
                 have hnb408 := NB463_414.out
                 have hnc408 := NB414_463.out
                 have hnb409 := NB463_418.out
                 have hnc409 := NB418_463.out
                 have hnb410 := NB463_426.out
                 have hnc410 := NB426_463.out
                 have hnb411 := NB463_427.out
                 have hnc411 := NB427_463.out
                 have hnb412 := NB463_464.out
                 have hnc412 := NB464_463.out
                 obtain ⟨hcz413_0, hfz413_0⟩ := hkc1 BK463
                 have hnb414 := NB409_392.out
                 have hnc414 := NB392_409.out
                 have hnb415 := NB409_393.out
                 have hnc415 := NB393_409.out
                 have hnb416 := NB409_410.out
                 have hnc416 := NB410_409.out
                 have hnb417 := NB409_414.out
                 have hnc417 := NB414_409.out
                 have hnb418 := NB409_418.out
                 have hnc418 := NB418_409.out
                 have hnb419 := NB409_426.out
                 have hnc419 := NB426_409.out
                 have hnb420 := NB409_427.out
                 have hnc420 := NB427_409.out
                 have hnb421 := NB409_464.out
                 have hnc421 := NB464_409.out
                 obtain ⟨hcz422_0, hfz422_0⟩ := hkc1 BK409
                 go_wp2_with (first | ((with_reducible refine gate_callee (f := 27) rfl ?_); refine hkGo (N := some 130) Try.func27 #[.agg #[.slice Ao360 t456.length co360], .agg #[.slice Ao42 t402.length co42]] ?_; (with_reducible refine (laws_eqNat.calls kj174 _ _ t456 _ _ t402 true _ ?side1 ?side2 ?side3 ?side4 A364.out).mono ?_); (case side1 => refine (Kd.R_reads' (e := 3) (base := w.heap.size) (ok := fun k_ => (some k_ ≠ (v451 : Value).ownBlock ∧ (some k_ ≠ (v454 : Value).ownBlock ∧ (some k_ ≠ (.slice Ao362 t459.length co362 : Value).ownBlock ∧ (some k_ ≠ (.slice Ao42 t402.length co42 : Value).ownBlock ∧ (some k_ ≠ (.slice Ao44 t405.length co44 : Value).ownBlock ∧ (some k_ ≠ (.slice Ao51 t439.length co51 : Value).ownBlock ∧ (some k_ ≠ (.slice Ao62 t441.length co62 : Value).ownBlock ∧ (some k_ ≠ (.slice Ao73 t419.length co73 : Value).ownBlock ∧ some k_ ≠ (.slice Ao82 t422.length co82 : Value).ownBlock))))))))) (n := t456.length) (c := co360) ?_).2.2; exact (by (with_reducible repeat (first | apply Kd.R_alloc | apply Kd.R_drewN | apply Kd.R_drew)); exact (Kd.R_mono (Kd.R_mono (Kd.R_far (p := ⟨gb464, 0, none⟩) (Kd.R_far (p := ⟨gb463, 0, none⟩) (Kd.R_types (Kd.R_types HO458.out BK463.out (by decide)) BK464.out (by decide)) (fun _ hk => hk.1.2) (.slice Ao360 t456.length co360)) (fun _ hk => hk.2) (.slice Ao362 t459.length co362)) (fun _ h_ => h_.1)) (fun _ h_ => h_.1)))); (case side2 => exact (Kd.R_reads' HO458.out).2.1); (case side3 => refine (Kd.R_reads' (e := 3) (base := w.heap.size) (ok := fun k_ => (some k_ ≠ (v451 : Value).ownBlock ∧ (some k_ ≠ (v454 : Value).ownBlock ∧ (some k_ ≠ (.slice Ao360 t456.length co360 : Value).ownBlock ∧ (some k_ ≠ (.slice Ao362 t459.length co362 : Value).ownBlock ∧ (some k_ ≠ (.slice Ao44 t405.length co44 : Value).ownBlock ∧ (some k_ ≠ (.slice Ao51 t439.length co51 : Value).ownBlock ∧ (some k_ ≠ (.slice Ao62 t441.length co62 : Value).ownBlock ∧ (some k_ ≠ (.slice Ao73 t419.length co73 : Value).ownBlock ∧ some k_ ≠ (.slice Ao82 t422.length co82 : Value).ownBlock))))))))) (n := t402.length) (c := co42) ?_).2.2; exact (by (with_reducible repeat (first | apply Kd.R_alloc | apply Kd.R_drewN | apply Kd.R_drew)); exact (Kd.R_mono (Kd.R_mono (Kd.R_far (p := ⟨gb464, 0, none⟩) (Kd.R_far (p := ⟨gb463, 0, none⟩) (Kd.R_types (Kd.R_types HO_410000.out BK463.out (by decide)) BK464.out (by decide)) (fun _ hk => hk.1.2) (.slice Ao360 t456.length co360)) (fun _ hk => hk.2) (.slice Ao362 t459.length co362)) (fun _ h_ => h_.1)) (fun _ h_ => h_.1)))); (case side4 => exact (Kd.R_reads' HO_410000.out).2.1); rintro e w423 ⟨rfl, hb⟩; refine ⟨_, rfl, ?_⟩; have n_ := hkA (Aside0.mk (Kd.R_below (by (with_reducible repeat (first | apply Kd.R_alloc | apply Kd.R_drewN | apply Kd.R_drew)); exact (Kd.R_mono (Kd.R_mono (Kd.R_far (p := ⟨gb464, 0, none⟩) (Kd.R_far (p := ⟨gb463, 0, none⟩) (Kd.R_types (Kd.R_types HO_410000.out BK463.out (by decide)) BK464.out (by decide)) (fun _ hk => hk.1.2) (.slice Ao360 t456.length co360)) (fun _ hk => hk.2) (.slice Ao362 t459.length co362)) (fun _ h_ => h_.1)) (fun _ h_ => h_.1))) hb)) (hkA (Aside0.mk (Kd.R_below (by (with_reducible repeat (first | apply Kd.R_alloc | apply Kd.R_drewN | apply Kd.R_drew)); exact (Kd.R_mono (Kd.R_mono (Kd.R_far (p := ⟨gb464, 0, none⟩) (Kd.R_far (p := ⟨gb463, 0, none⟩) (Kd.R_types (Kd.R_types HO_411000.out BK463.out (by decide)) BK464.out (by decide)) (fun _ hk => hk.1.2) (.slice Ao360 t456.length co360)) (fun _ hk => hk.2) (.slice Ao362 t459.length co362)) (fun _ h_ => h_.1)) (fun _ h_ => h_.1))) hb)) (hkA (Aside0.mk (Kd.R_below (by (with_reducible repeat (first | apply Kd.R_alloc | apply Kd.R_drewN | apply Kd.R_drew)); exact (Kd.R_mono (Kd.R_mono (Kd.R_far (p := ⟨gb464, 0, none⟩) (Kd.R_far (p := ⟨gb463, 0, none⟩) (Kd.R_types (Kd.R_types HO_415000.out BK463.out (by decide)) BK464.out (by decide)) (fun _ hk => hk.1.2) (.slice Ao360 t456.length co360)) (fun _ hk => hk.2) (.slice Ao362 t459.length co362)) (fun _ h_ => h_.1)) (fun _ h_ => h_.1))) hb)) (hkA (Aside0.mk (Kd.R_below (by (with_reducible repeat (first | apply Kd.R_alloc | apply Kd.R_drewN | apply Kd.R_drew)); exact (Kd.R_mono (Kd.R_mono (Kd.R_far (p := ⟨gb464, 0, none⟩) (Kd.R_far (p := ⟨gb463, 0, none⟩) (Kd.R_types (Kd.R_types HO_419000.out BK463.out (by decide)) BK464.out (by decide)) (fun _ hk => hk.1.2) (.slice Ao360 t456.length co360)) (fun _ hk => hk.2) (.slice Ao362 t459.length co362)) (fun _ h_ => h_.1)) (fun _ h_ => h_.1))) hb)) (hkA (Aside0.mk (Kd.R_below (by (with_reducible repeat (first | apply Kd.R_alloc | apply Kd.R_drewN | apply Kd.R_drew)); exact (Kd.R_mono (Kd.R_mono (Kd.R_far (p := ⟨gb464, 0, none⟩) (Kd.R_far (p := ⟨gb463, 0, none⟩) (Kd.R_types (Kd.R_types HO_427000.out BK463.out (by decide)) BK464.out (by decide)) (fun _ hk => hk.1.2) (.slice Ao360 t456.length co360)) (fun _ hk => hk.2) (.slice Ao362 t459.length co362)) (fun _ h_ => h_.1)) (fun _ h_ => h_.1))) hb)) (hkA (Aside0.mk (Kd.R_below (by (with_reducible repeat (first | apply Kd.R_alloc | apply Kd.R_drewN | apply Kd.R_drew)); exact (Kd.R_mono (Kd.R_mono (Kd.R_far (p := ⟨gb464, 0, none⟩) (Kd.R_far (p := ⟨gb463, 0, none⟩) (Kd.R_types (Kd.R_types HO_428000.out BK463.out (by decide)) BK464.out (by decide)) (fun _ hk => hk.1.2) (.slice Ao360 t456.length co360)) (fun _ hk => hk.2) (.slice Ao362 t459.length co362)) (fun _ h_ => h_.1)) (fun _ h_ => h_.1))) hb)) (hkA (Aside0.mk (Kd.R_below (by (with_reducible repeat (first | apply Kd.R_alloc | apply Kd.R_drewN | apply Kd.R_drew)); exact (Kd.R_mono (Kd.R_mono (Kd.R_far (p := ⟨gb464, 0, none⟩) (Kd.R_far (p := ⟨gb463, 0, none⟩) (Kd.R_types (Kd.R_types HO452.out BK463.out (by decide)) BK464.out (by decide)) (fun _ hk => hk.1.2) (.slice Ao360 t456.length co360)) (fun _ hk => hk.2) (.slice Ao362 t459.length co362)) (fun _ h_ => h_.1)) (fun _ h_ => h_.1))) hb)) (hkA (Aside0.mk (Kd.R_below (by (with_reducible repeat (first | apply Kd.R_alloc | apply Kd.R_drewN | apply Kd.R_drew)); exact (Kd.R_mono (Kd.R_mono (Kd.R_far (p := ⟨gb464, 0, none⟩) (Kd.R_far (p := ⟨gb463, 0, none⟩) (Kd.R_types (Kd.R_types HO455.out BK463.out (by decide)) BK464.out (by decide)) (fun _ hk => hk.1.2) (.slice Ao360 t456.length co360)) (fun _ hk => hk.2) (.slice Ao362 t459.length co362)) (fun _ h_ => h_.1)) (fun _ h_ => h_.1))) hb)) (hkA (Aside0.mk (Kd.R_below (by (with_reducible repeat (first | apply Kd.R_alloc | apply Kd.R_drewN | apply Kd.R_drew)); exact (Kd.R_mono (Kd.R_mono (Kd.R_far (p := ⟨gb464, 0, none⟩) (Kd.R_far (p := ⟨gb463, 0, none⟩) (Kd.R_types (Kd.R_types HO458.out BK463.out (by decide)) BK464.out (by decide)) (fun _ hk => hk.1.2) (.slice Ao360 t456.length co360)) (fun _ hk => hk.2) (.slice Ao362 t459.length co362)) (fun _ h_ => h_.1)) (fun _ h_ => h_.1))) hb)) (hkA (Aside0.mk (Kd.R_below (by (with_reducible repeat (first | apply Kd.R_alloc | apply Kd.R_drewN | apply Kd.R_drew)); exact (Kd.R_mono (Kd.R_mono (Kd.R_far (p := ⟨gb464, 0, none⟩) (Kd.R_far (p := ⟨gb463, 0, none⟩) (Kd.R_types (Kd.R_types HO461.out BK463.out (by decide)) BK464.out (by decide)) (fun _ hk => hk.1.2) (.slice Ao360 t456.length co360)) (fun _ hk => hk.2) (.slice Ao362 t459.length co362)) (fun _ h_ => h_.1)) (fun _ h_ => h_.1))) hb)) (hkA (Aside0.mk (blk_below (g := gb392) (o := .cells #[.slice A0_0 l0_0.length c0_0] 31 (0, 0)) hkPp hb)) (hkA (Aside0.mk (blk_below (g := gb393) (o := .cells #[.slice A1_0 l1_0.length c1_0] 31 (0, 0)) hkPp hb)) (hkA (Aside0.mk (blk_below (g := gb409) (o := .cells #[.slice Ao42 t402.length co42] 38 (0, 0)) hkPp hb)) (hkA (Aside0.mk (blk_below (g := gb410) (o := .cells #[.slice Ao44 t405.length co44] 38 (0, 0)) hkPp hb)) (hkA (Aside0.mk (blk_below (g := gb414) (o := .cells #[.slice Ao51 t439.length co51] 38 (0, 0)) hkPp hb)) (hkA (Aside0.mk (blk_below (g := gb418) (o := .cells #[.slice Ao62 t441.length co62] 38 (0, 0)) hkPp hb)) (hkA (Aside0.mk (blk_below (g := gb426) (o := .cells #[.slice Ao73 t419.length co73] 38 (0, 0)) hkPp hb)) (hkA (Aside0.mk (blk_below (g := gb427) (o := .cells #[.slice Ao82 t422.length co82] 38 (0, 0)) hkPp hb)) (hkA (Aside0.mk (blk_below (g := gb463) (o := .cells #[.slice Ao360 t456.length co360] 38 (0, 0)) hkPp hb)) (hkA (Aside0.mk (blk_below (g := gb464) (o := .cells #[.slice Ao362 t459.length co362] 38 (0, 0)) hkPp hb)) (hkU HB hb)))))))))))))))))))); clear HO_410000 HO_411000 HO_415000 HO_419000 HO_427000 HO_428000 HO452 HO455 HO458 HO461 BK392 BK393 BK409 BK410 BK414 BK418 BK426 BK427 BK463 BK464 HB; obtain ⟨HO_410000, HO_411000, HO_415000, HO_419000, HO_427000, HO_428000, HO452, HO455, HO458, HO461, BK392, BK393, BK409, BK410, BK414, BK418, BK426, BK427, BK463, BK464, HB⟩ := n_; (try clear hb); (try clear hk); have hnb424 := NB464_392.out; have hnc424 := NB392_464.out; have hnb425 := NB464_393.out; have hnc425 := NB393_464.out; have hnb426 := NB464_410.out; have hnc426 := NB410_464.out; have hnb427 := NB464_414.out; have hnc427 := NB414_464.out; have hnb428 := NB464_418.out; have hnc428 := NB418_464.out; have hnb429 := NB464_426.out; have hnc429 := NB426_464.out; have hnb430 := NB464_427.out; have hnc430 := NB427_464.out; obtain ⟨hcz431_0, hfz431_0⟩ := hkc1 BK464; have hnb432 := NB410_392.out; have hnc432 := NB392_410.out; have hnb433 := NB410_393.out; have hnc433 := NB393_410.out; have hnb434 := NB410_414.out; have hnc434 := NB414_410.out; have hnb435 := NB410_418.out; have hnc435 := NB418_410.out; have hnb436 := NB410_426.out; have hnc436 := NB426_410.out; have hnb437 := NB410_427.out; have hnc437 := NB427_410.out; obtain ⟨hcz438_0, hfz438_0⟩ := hkc1 BK410) | (go_at_call 27; (with_reducible refine (laws_eqNat.calls kj174 _ _ t459 _ _ t405 false _ ?side1 ?side2 ?side3 ?side4 A366.out).mono ?_); (case side1 => exact hkC ((Kd.R_reads' HO461.out).2.2)); (case side2 => exact (Kd.R_reads' HO461.out).2.1); (case side3 => exact hkC ((Kd.R_reads' HO_411000.out).2.2)); (case side4 => exact (Kd.R_reads' HO_411000.out).2.1); rintro e w439 ⟨rfl, hb⟩; have n_ := hkA (hkRb HO_410000 hb) (hkA (hkRb HO_411000 hb) (hkA (hkRb HO_415000 hb) (hkA (hkRb HO_419000 hb) (hkA (hkRb HO_427000 hb) (hkA (hkRb HO_428000 hb) (hkA (hkRb HO452 hb) (hkA (hkRb HO455 hb) (hkA (hkRb HO458 hb) (hkA (hkRb HO461 hb) (hkA (hkBb BK392 hb) (hkA (hkBb BK393 hb) (hkA (hkBb BK409 hb) (hkA (hkBb BK410 hb) (hkA (hkBb BK414 hb) (hkA (hkBb BK418 hb) (hkA (hkBb BK426 hb) (hkA (hkBb BK427 hb) (hkA (hkBb BK463 hb) (hkA (hkBb BK464 hb) (hkU HB hb)))))))))))))))))))); clear HO_410000 HO_411000 HO_415000 HO_419000 HO_427000 HO_428000 HO452 HO455 HO458 HO461 BK392 BK393 BK409 BK410 BK414 BK418 BK426 BK427 BK463 BK464 HB; obtain ⟨HO_410000, HO_411000, HO_415000, HO_419000, HO_427000, HO_428000, HO452, HO455, HO458, HO461, BK392, BK393, BK409, BK410, BK414, BK418, BK426, BK427, BK463, BK464, HB⟩ := n_; (try clear hb); (try clear hk)))
                 go_meet
                 case rel => exact ⟨_, (true), (by first | rfl | (simp; done) | (simp [*]; done)), H', ⟨by have := HJ24.out; have := HJ174.out; first | omega | exact Nat.le_refl _⟩, ⟨by (try simp only [hl415000_174]); (try simp only [hl419000_174]); (with_reducible repeat (first | apply Kd.R_alloc | apply Kd.R_drewN | apply Kd.R_drew)); exact Kd.R_mono HO_410000.out (fun _ hk => ⟨hk.2.2.2.2.1, ⟨hk.2.2.2.2.2.1, ⟨hk.2.2.2.2.2.2.1, ⟨hk.2.2.2.2.2.2.2.1, ⟨hk.2.2.2.2.2.2.2.2, ⟨hk.2.2.1, hk.2.2.2.1⟩⟩⟩⟩⟩⟩)⟩, ⟨by (try simp only [hl415000_174]); (try simp only [hl419000_174]); (with_reducible repeat (first | apply Kd.R_alloc | apply Kd.R_drewN | apply Kd.R_drew)); exact Kd.R_mono HO_411000.out (fun _ hk => ⟨hk.2.2.2.2.1, ⟨hk.2.2.2.2.2.1, ⟨hk.2.2.2.2.2.2.1, ⟨hk.2.2.2.2.2.2.2.1, ⟨hk.2.2.2.2.2.2.2.2, ⟨hk.2.2.1, hk.2.2.2.1⟩⟩⟩⟩⟩⟩)⟩, ⟨by (try simp only [hl415000_174]); (try simp only [hl419000_174]); (with_reducible repeat (first | apply Kd.R_alloc | apply Kd.R_drewN | apply Kd.R_drew)); exact Kd.R_mono HO_415000.out (fun _ hk => ⟨hk.2.2.2.2.1, ⟨hk.2.2.2.2.2.1, ⟨hk.2.2.2.2.2.2.1, ⟨hk.2.2.2.2.2.2.2.1, ⟨hk.2.2.2.2.2.2.2.2, ⟨hk.2.2.1, hk.2.2.2.1⟩⟩⟩⟩⟩⟩)⟩, ⟨by (try simp only [hl415000_174]); (try simp only [hl419000_174]); (with_reducible repeat (first | apply Kd.R_alloc | apply Kd.R_drewN | apply Kd.R_drew)); exact Kd.R_mono HO_419000.out (fun _ hk => ⟨hk.2.2.2.2.1, ⟨hk.2.2.2.2.2.1, ⟨hk.2.2.2.2.2.2.1, ⟨hk.2.2.2.2.2.2.2.1, ⟨hk.2.2.2.2.2.2.2.2, ⟨hk.2.2.1, hk.2.2.2.1⟩⟩⟩⟩⟩⟩)⟩, ⟨by (try simp only [hl415000_174]); (try simp only [hl419000_174]); (with_reducible repeat (first | apply Kd.R_alloc | apply Kd.R_drewN | apply Kd.R_drew)); exact Kd.R_mono HO_427000.out (fun _ hk => ⟨hk.2.2.2.2.1, ⟨hk.2.2.2.2.2.1, ⟨hk.2.2.2.2.2.2.1, ⟨hk.2.2.2.2.2.2.2.1, ⟨hk.2.2.2.2.2.2.2.2, ⟨hk.2.2.1, hk.2.2.2.1⟩⟩⟩⟩⟩⟩)⟩, ⟨by (try simp only [hl415000_174]); (try simp only [hl419000_174]); (with_reducible repeat (first | apply Kd.R_alloc | apply Kd.R_drewN | apply Kd.R_drew)); exact Kd.R_mono HO_428000.out (fun _ hk => ⟨hk.2.2.2.2.1, ⟨hk.2.2.2.2.2.1, ⟨hk.2.2.2.2.2.2.1, ⟨hk.2.2.2.2.2.2.2.1, ⟨hk.2.2.2.2.2.2.2.2, ⟨hk.2.2.1, hk.2.2.2.1⟩⟩⟩⟩⟩⟩)⟩, ⟨by (try simp only [hl415000_174]); (try simp only [hl419000_174]); (with_reducible repeat (first | apply Kd.R_alloc | apply Kd.R_drewN | apply Kd.R_drew)); exact Kd.R_mono HO458.out (fun _ hk => ⟨hk.2.2.2.1, ⟨hk.2.2.2.2.1, ⟨hk.2.2.2.2.2.1, ⟨hk.2.2.2.2.2.2.1, ⟨hk.2.2.2.2.2.2.2.1, ⟨hk.2.2.2.2.2.2.2.2, hk.2.2.1⟩⟩⟩⟩⟩⟩)⟩, ⟨by (try simp only [hl415000_174]); (try simp only [hl419000_174]); (with_reducible repeat (first | apply Kd.R_alloc | apply Kd.R_drewN | apply Kd.R_drew)); exact Kd.R_mono HO461.out (fun _ hk => ⟨hk.2.2.2.1, ⟨hk.2.2.2.2.1, ⟨hk.2.2.2.2.2.1, ⟨hk.2.2.2.2.2.2.1, ⟨hk.2.2.2.2.2.2.2.1, ⟨hk.2.2.2.2.2.2.2.2, hk.2.2.1⟩⟩⟩⟩⟩⟩)⟩, ⟨by (try simp only [hl415000_174]); (try simp only [hl419000_174]); refine hkz ?_; exact BK392.out⟩, ⟨by (try simp only [hl415000_174]); (try simp only [hl419000_174]); refine hkz ?_; exact BK393.out⟩, ⟨by (try simp only [hl415000_174]); (try simp only [hl419000_174]); refine hkz ?_; exact BK409.out⟩, ⟨by (try simp only [hl415000_174]); (try simp only [hl419000_174]); refine hkz ?_; exact BK410.out⟩, ⟨by (try simp only [hl415000_174]); (try simp only [hl419000_174]); refine hkz ?_; exact BK414.out⟩, ⟨by (try simp only [hl415000_174]); (try simp only [hl419000_174]); refine hkz ?_; exact BK418.out⟩, ⟨by (try simp only [hl415000_174]); (try simp only [hl419000_174]); refine hkz ?_; exact BK426.out⟩, ⟨by (try simp only [hl415000_174]); (try simp only [hl419000_174]); refine hkz ?_; exact BK427.out⟩, ⟨by (try simp only [hl415000_174]); (try simp only [hl419000_174]); refine hkz ?_; exact BK463.out⟩, ⟨by (try simp only [hl415000_174]); (try simp only [hl419000_174]); refine hkz ?_; exact BK464.out⟩, ⟨hkS HB⟩⟩
               ·replace c365 := Bool.eq_false_iff.mpr c365
                subst c365
                have H1 : (laws_FnExactNatDiv.j2 kj174 t446 true t445 t447) = some true := by rw [if_neg (show ¬ (false = true) by decide)] at H; exact H
                clear H
                have H := H1
                clear H1
                have H' := Aside0.mk H
                clear H
                have hnb440 := NB463_392.out
                have hnc440 := NB392_463.out
                have hnb441 := NB463_393.out
                have hnc441 := NB393_463.out
                have hnb442 := NB463_409.out
                have hnc442 := NB409_463.out
                have hnb443 := NB463_410.out
                have hnc443 := NB410_463.out
                have hnb444 := NB463_414.out
                have hnc444 := NB414_463.out
                have hnb445 := NB463_418.out
                have hnc445 := NB418_463.out
                have hnb446 := NB463_426.out
                have hnc446 := NB426_463.out
                have hnb447 := NB463_427.out
                have hnc447 := NB427_463.out
                have hnb448 := NB463_464.out
                have hnc448 := NB464_463.out
                obtain ⟨hcz449_0, hfz449_0⟩ := hkc1 BK463
                have hnb450 := NB409_392.out
                have hnc450 := NB392_409.out
                have hnb451 := NB409_393.out
                have hnc451 := NB393_409.out
                have hnb452 := NB409_410.out
                have hnc452 := NB410_409.out
                have hnb453 := NB409_414.out
                have hnc453 := NB414_409.out
                have hnb454 := NB409_418.out
                have hnc454 := NB418_409.out
                have hnb455 := NB409_426.out
                have hnc455 := NB426_409.out
                have hnb456 := NB409_427.out
                have hnc456 := NB427_409.out
                have hnb457 := NB409_464.out
                have hnc457 := NB464_409.out
                obtain ⟨hcz458_0, hfz458_0⟩ := hkc1 BK409
                go_wp2_with (first | ((with_reducible refine gate_callee (f := 27) rfl ?_); refine hkGo (N := some 130) Try.func27 #[.agg #[.slice Ao360 t456.length co360], .agg #[.slice Ao42 t402.length co42]] ?_; (with_reducible refine (laws_eqNat.calls kj174 _ _ t456 _ _ t402 false _ ?side1 ?side2 ?side3 ?side4 A364.out).mono ?_); (case side1 => refine (Kd.R_reads' (e := 3) (base := w.heap.size) (ok := fun k_ => (some k_ ≠ (v451 : Value).ownBlock ∧ (some k_ ≠ (v454 : Value).ownBlock ∧ (some k_ ≠ (.slice Ao362 t459.length co362 : Value).ownBlock ∧ (some k_ ≠ (.slice Ao42 t402.length co42 : Value).ownBlock ∧ (some k_ ≠ (.slice Ao44 t405.length co44 : Value).ownBlock ∧ (some k_ ≠ (.slice Ao51 t439.length co51 : Value).ownBlock ∧ (some k_ ≠ (.slice Ao62 t441.length co62 : Value).ownBlock ∧ (some k_ ≠ (.slice Ao73 t419.length co73 : Value).ownBlock ∧ some k_ ≠ (.slice Ao82 t422.length co82 : Value).ownBlock))))))))) (n := t456.length) (c := co360) ?_).2.2; exact (by (with_reducible repeat (first | apply Kd.R_alloc | apply Kd.R_drewN | apply Kd.R_drew)); exact (Kd.R_mono (Kd.R_mono (Kd.R_far (p := ⟨gb464, 0, none⟩) (Kd.R_far (p := ⟨gb463, 0, none⟩) (Kd.R_types (Kd.R_types HO458.out BK463.out (by decide)) BK464.out (by decide)) (fun _ hk => hk.1.2) (.slice Ao360 t456.length co360)) (fun _ hk => hk.2) (.slice Ao362 t459.length co362)) (fun _ h_ => h_.1)) (fun _ h_ => h_.1)))); (case side2 => exact (Kd.R_reads' HO458.out).2.1); (case side3 => refine (Kd.R_reads' (e := 3) (base := w.heap.size) (ok := fun k_ => (some k_ ≠ (v451 : Value).ownBlock ∧ (some k_ ≠ (v454 : Value).ownBlock ∧ (some k_ ≠ (.slice Ao360 t456.length co360 : Value).ownBlock ∧ (some k_ ≠ (.slice Ao362 t459.length co362 : Value).ownBlock ∧ (some k_ ≠ (.slice Ao44 t405.length co44 : Value).ownBlock ∧ (some k_ ≠ (.slice Ao51 t439.length co51 : Value).ownBlock ∧ (some k_ ≠ (.slice Ao62 t441.length co62 : Value).ownBlock ∧ (some k_ ≠ (.slice Ao73 t419.length co73 : Value).ownBlock ∧ some k_ ≠ (.slice Ao82 t422.length co82 : Value).ownBlock))))))))) (n := t402.length) (c := co42) ?_).2.2; exact (by (with_reducible repeat (first | apply Kd.R_alloc | apply Kd.R_drewN | apply Kd.R_drew)); exact (Kd.R_mono (Kd.R_mono (Kd.R_far (p := ⟨gb464, 0, none⟩) (Kd.R_far (p := ⟨gb463, 0, none⟩) (Kd.R_types (Kd.R_types HO_410000.out BK463.out (by decide)) BK464.out (by decide)) (fun _ hk => hk.1.2) (.slice Ao360 t456.length co360)) (fun _ hk => hk.2) (.slice Ao362 t459.length co362)) (fun _ h_ => h_.1)) (fun _ h_ => h_.1)))); (case side4 => exact (Kd.R_reads' HO_410000.out).2.1); rintro e w459 ⟨rfl, hb⟩; refine ⟨_, rfl, ?_⟩; have n_ := hkA (Aside0.mk (Kd.R_below (by (with_reducible repeat (first | apply Kd.R_alloc | apply Kd.R_drewN | apply Kd.R_drew)); exact (Kd.R_mono (Kd.R_mono (Kd.R_far (p := ⟨gb464, 0, none⟩) (Kd.R_far (p := ⟨gb463, 0, none⟩) (Kd.R_types (Kd.R_types HO_410000.out BK463.out (by decide)) BK464.out (by decide)) (fun _ hk => hk.1.2) (.slice Ao360 t456.length co360)) (fun _ hk => hk.2) (.slice Ao362 t459.length co362)) (fun _ h_ => h_.1)) (fun _ h_ => h_.1))) hb)) (hkA (Aside0.mk (Kd.R_below (by (with_reducible repeat (first | apply Kd.R_alloc | apply Kd.R_drewN | apply Kd.R_drew)); exact (Kd.R_mono (Kd.R_mono (Kd.R_far (p := ⟨gb464, 0, none⟩) (Kd.R_far (p := ⟨gb463, 0, none⟩) (Kd.R_types (Kd.R_types HO_411000.out BK463.out (by decide)) BK464.out (by decide)) (fun _ hk => hk.1.2) (.slice Ao360 t456.length co360)) (fun _ hk => hk.2) (.slice Ao362 t459.length co362)) (fun _ h_ => h_.1)) (fun _ h_ => h_.1))) hb)) (hkA (Aside0.mk (Kd.R_below (by (with_reducible repeat (first | apply Kd.R_alloc | apply Kd.R_drewN | apply Kd.R_drew)); exact (Kd.R_mono (Kd.R_mono (Kd.R_far (p := ⟨gb464, 0, none⟩) (Kd.R_far (p := ⟨gb463, 0, none⟩) (Kd.R_types (Kd.R_types HO_415000.out BK463.out (by decide)) BK464.out (by decide)) (fun _ hk => hk.1.2) (.slice Ao360 t456.length co360)) (fun _ hk => hk.2) (.slice Ao362 t459.length co362)) (fun _ h_ => h_.1)) (fun _ h_ => h_.1))) hb)) (hkA (Aside0.mk (Kd.R_below (by (with_reducible repeat (first | apply Kd.R_alloc | apply Kd.R_drewN | apply Kd.R_drew)); exact (Kd.R_mono (Kd.R_mono (Kd.R_far (p := ⟨gb464, 0, none⟩) (Kd.R_far (p := ⟨gb463, 0, none⟩) (Kd.R_types (Kd.R_types HO_419000.out BK463.out (by decide)) BK464.out (by decide)) (fun _ hk => hk.1.2) (.slice Ao360 t456.length co360)) (fun _ hk => hk.2) (.slice Ao362 t459.length co362)) (fun _ h_ => h_.1)) (fun _ h_ => h_.1))) hb)) (hkA (Aside0.mk (Kd.R_below (by (with_reducible repeat (first | apply Kd.R_alloc | apply Kd.R_drewN | apply Kd.R_drew)); exact (Kd.R_mono (Kd.R_mono (Kd.R_far (p := ⟨gb464, 0, none⟩) (Kd.R_far (p := ⟨gb463, 0, none⟩) (Kd.R_types (Kd.R_types HO_427000.out BK463.out (by decide)) BK464.out (by decide)) (fun _ hk => hk.1.2) (.slice Ao360 t456.length co360)) (fun _ hk => hk.2) (.slice Ao362 t459.length co362)) (fun _ h_ => h_.1)) (fun _ h_ => h_.1))) hb)) (hkA (Aside0.mk (Kd.R_below (by (with_reducible repeat (first | apply Kd.R_alloc | apply Kd.R_drewN | apply Kd.R_drew)); exact (Kd.R_mono (Kd.R_mono (Kd.R_far (p := ⟨gb464, 0, none⟩) (Kd.R_far (p := ⟨gb463, 0, none⟩) (Kd.R_types (Kd.R_types HO_428000.out BK463.out (by decide)) BK464.out (by decide)) (fun _ hk => hk.1.2) (.slice Ao360 t456.length co360)) (fun _ hk => hk.2) (.slice Ao362 t459.length co362)) (fun _ h_ => h_.1)) (fun _ h_ => h_.1))) hb)) (hkA (Aside0.mk (Kd.R_below (by (with_reducible repeat (first | apply Kd.R_alloc | apply Kd.R_drewN | apply Kd.R_drew)); exact (Kd.R_mono (Kd.R_mono (Kd.R_far (p := ⟨gb464, 0, none⟩) (Kd.R_far (p := ⟨gb463, 0, none⟩) (Kd.R_types (Kd.R_types HO452.out BK463.out (by decide)) BK464.out (by decide)) (fun _ hk => hk.1.2) (.slice Ao360 t456.length co360)) (fun _ hk => hk.2) (.slice Ao362 t459.length co362)) (fun _ h_ => h_.1)) (fun _ h_ => h_.1))) hb)) (hkA (Aside0.mk (Kd.R_below (by (with_reducible repeat (first | apply Kd.R_alloc | apply Kd.R_drewN | apply Kd.R_drew)); exact (Kd.R_mono (Kd.R_mono (Kd.R_far (p := ⟨gb464, 0, none⟩) (Kd.R_far (p := ⟨gb463, 0, none⟩) (Kd.R_types (Kd.R_types HO455.out BK463.out (by decide)) BK464.out (by decide)) (fun _ hk => hk.1.2) (.slice Ao360 t456.length co360)) (fun _ hk => hk.2) (.slice Ao362 t459.length co362)) (fun _ h_ => h_.1)) (fun _ h_ => h_.1))) hb)) (hkA (Aside0.mk (Kd.R_below (by (with_reducible repeat (first | apply Kd.R_alloc | apply Kd.R_drewN | apply Kd.R_drew)); exact (Kd.R_mono (Kd.R_mono (Kd.R_far (p := ⟨gb464, 0, none⟩) (Kd.R_far (p := ⟨gb463, 0, none⟩) (Kd.R_types (Kd.R_types HO458.out BK463.out (by decide)) BK464.out (by decide)) (fun _ hk => hk.1.2) (.slice Ao360 t456.length co360)) (fun _ hk => hk.2) (.slice Ao362 t459.length co362)) (fun _ h_ => h_.1)) (fun _ h_ => h_.1))) hb)) (hkA (Aside0.mk (Kd.R_below (by (with_reducible repeat (first | apply Kd.R_alloc | apply Kd.R_drewN | apply Kd.R_drew)); exact (Kd.R_mono (Kd.R_mono (Kd.R_far (p := ⟨gb464, 0, none⟩) (Kd.R_far (p := ⟨gb463, 0, none⟩) (Kd.R_types (Kd.R_types HO461.out BK463.out (by decide)) BK464.out (by decide)) (fun _ hk => hk.1.2) (.slice Ao360 t456.length co360)) (fun _ hk => hk.2) (.slice Ao362 t459.length co362)) (fun _ h_ => h_.1)) (fun _ h_ => h_.1))) hb)) (hkA (Aside0.mk (blk_below (g := gb392) (o := .cells #[.slice A0_0 l0_0.length c0_0] 31 (0, 0)) hkPp hb)) (hkA (Aside0.mk (blk_below (g := gb393) (o := .cells #[.slice A1_0 l1_0.length c1_0] 31 (0, 0)) hkPp hb)) (hkA (Aside0.mk (blk_below (g := gb409) (o := .cells #[.slice Ao42 t402.length co42] 38 (0, 0)) hkPp hb)) (hkA (Aside0.mk (blk_below (g := gb410) (o := .cells #[.slice Ao44 t405.length co44] 38 (0, 0)) hkPp hb)) (hkA (Aside0.mk (blk_below (g := gb414) (o := .cells #[.slice Ao51 t439.length co51] 38 (0, 0)) hkPp hb)) (hkA (Aside0.mk (blk_below (g := gb418) (o := .cells #[.slice Ao62 t441.length co62] 38 (0, 0)) hkPp hb)) (hkA (Aside0.mk (blk_below (g := gb426) (o := .cells #[.slice Ao73 t419.length co73] 38 (0, 0)) hkPp hb)) (hkA (Aside0.mk (blk_below (g := gb427) (o := .cells #[.slice Ao82 t422.length co82] 38 (0, 0)) hkPp hb)) (hkA (Aside0.mk (blk_below (g := gb463) (o := .cells #[.slice Ao360 t456.length co360] 38 (0, 0)) hkPp hb)) (hkA (Aside0.mk (blk_below (g := gb464) (o := .cells #[.slice Ao362 t459.length co362] 38 (0, 0)) hkPp hb)) (hkU HB hb)))))))))))))))))))); clear HO_410000 HO_411000 HO_415000 HO_419000 HO_427000 HO_428000 HO452 HO455 HO458 HO461 BK392 BK393 BK409 BK410 BK414 BK418 BK426 BK427 BK463 BK464 HB; obtain ⟨HO_410000, HO_411000, HO_415000, HO_419000, HO_427000, HO_428000, HO452, HO455, HO458, HO461, BK392, BK393, BK409, BK410, BK414, BK418, BK426, BK427, BK463, BK464, HB⟩ := n_; (try clear hb); (try clear hk)))
                go_meet
                case rel => exact ⟨_, (true), (by first | rfl | (simp; done) | (simp [*]; done)), H', ⟨by have := HJ24.out; have := HJ174.out; first | omega | exact Nat.le_refl _⟩, ⟨by (try simp only [hl415000_174]); (try simp only [hl419000_174]); (with_reducible repeat (first | apply Kd.R_alloc | apply Kd.R_drewN | apply Kd.R_drew)); exact Kd.R_mono HO_410000.out (fun _ hk => ⟨hk.2.2.2.2.1, ⟨hk.2.2.2.2.2.1, ⟨hk.2.2.2.2.2.2.1, ⟨hk.2.2.2.2.2.2.2.1, ⟨hk.2.2.2.2.2.2.2.2, ⟨hk.2.2.1, hk.2.2.2.1⟩⟩⟩⟩⟩⟩)⟩, ⟨by (try simp only [hl415000_174]); (try simp only [hl419000_174]); (with_reducible repeat (first | apply Kd.R_alloc | apply Kd.R_drewN | apply Kd.R_drew)); exact Kd.R_mono HO_411000.out (fun _ hk => ⟨hk.2.2.2.2.1, ⟨hk.2.2.2.2.2.1, ⟨hk.2.2.2.2.2.2.1, ⟨hk.2.2.2.2.2.2.2.1, ⟨hk.2.2.2.2.2.2.2.2, ⟨hk.2.2.1, hk.2.2.2.1⟩⟩⟩⟩⟩⟩)⟩, ⟨by (try simp only [hl415000_174]); (try simp only [hl419000_174]); (with_reducible repeat (first | apply Kd.R_alloc | apply Kd.R_drewN | apply Kd.R_drew)); exact Kd.R_mono HO_415000.out (fun _ hk => ⟨hk.2.2.2.2.1, ⟨hk.2.2.2.2.2.1, ⟨hk.2.2.2.2.2.2.1, ⟨hk.2.2.2.2.2.2.2.1, ⟨hk.2.2.2.2.2.2.2.2, ⟨hk.2.2.1, hk.2.2.2.1⟩⟩⟩⟩⟩⟩)⟩, ⟨by (try simp only [hl415000_174]); (try simp only [hl419000_174]); (with_reducible repeat (first | apply Kd.R_alloc | apply Kd.R_drewN | apply Kd.R_drew)); exact Kd.R_mono HO_419000.out (fun _ hk => ⟨hk.2.2.2.2.1, ⟨hk.2.2.2.2.2.1, ⟨hk.2.2.2.2.2.2.1, ⟨hk.2.2.2.2.2.2.2.1, ⟨hk.2.2.2.2.2.2.2.2, ⟨hk.2.2.1, hk.2.2.2.1⟩⟩⟩⟩⟩⟩)⟩, ⟨by (try simp only [hl415000_174]); (try simp only [hl419000_174]); (with_reducible repeat (first | apply Kd.R_alloc | apply Kd.R_drewN | apply Kd.R_drew)); exact Kd.R_mono HO_427000.out (fun _ hk => ⟨hk.2.2.2.2.1, ⟨hk.2.2.2.2.2.1, ⟨hk.2.2.2.2.2.2.1, ⟨hk.2.2.2.2.2.2.2.1, ⟨hk.2.2.2.2.2.2.2.2, ⟨hk.2.2.1, hk.2.2.2.1⟩⟩⟩⟩⟩⟩)⟩, ⟨by (try simp only [hl415000_174]); (try simp only [hl419000_174]); (with_reducible repeat (first | apply Kd.R_alloc | apply Kd.R_drewN | apply Kd.R_drew)); exact Kd.R_mono HO_428000.out (fun _ hk => ⟨hk.2.2.2.2.1, ⟨hk.2.2.2.2.2.1, ⟨hk.2.2.2.2.2.2.1, ⟨hk.2.2.2.2.2.2.2.1, ⟨hk.2.2.2.2.2.2.2.2, ⟨hk.2.2.1, hk.2.2.2.1⟩⟩⟩⟩⟩⟩)⟩, ⟨by (try simp only [hl415000_174]); (try simp only [hl419000_174]); (with_reducible repeat (first | apply Kd.R_alloc | apply Kd.R_drewN | apply Kd.R_drew)); exact Kd.R_mono HO458.out (fun _ hk => ⟨hk.2.2.2.1, ⟨hk.2.2.2.2.1, ⟨hk.2.2.2.2.2.1, ⟨hk.2.2.2.2.2.2.1, ⟨hk.2.2.2.2.2.2.2.1, ⟨hk.2.2.2.2.2.2.2.2, hk.2.2.1⟩⟩⟩⟩⟩⟩)⟩, ⟨by (try simp only [hl415000_174]); (try simp only [hl419000_174]); (with_reducible repeat (first | apply Kd.R_alloc | apply Kd.R_drewN | apply Kd.R_drew)); exact Kd.R_mono HO461.out (fun _ hk => ⟨hk.2.2.2.1, ⟨hk.2.2.2.2.1, ⟨hk.2.2.2.2.2.1, ⟨hk.2.2.2.2.2.2.1, ⟨hk.2.2.2.2.2.2.2.1, ⟨hk.2.2.2.2.2.2.2.2, hk.2.2.1⟩⟩⟩⟩⟩⟩)⟩, ⟨by (try simp only [hl415000_174]); (try simp only [hl419000_174]); refine hkz ?_; exact BK392.out⟩, ⟨by (try simp only [hl415000_174]); (try simp only [hl419000_174]); refine hkz ?_; exact BK393.out⟩, ⟨by (try simp only [hl415000_174]); (try simp only [hl419000_174]); refine hkz ?_; exact BK409.out⟩, ⟨by (try simp only [hl415000_174]); (try simp only [hl419000_174]); refine hkz ?_; exact BK410.out⟩, ⟨by (try simp only [hl415000_174]); (try simp only [hl419000_174]); refine hkz ?_; exact BK414.out⟩, ⟨by (try simp only [hl415000_174]); (try simp only [hl419000_174]); refine hkz ?_; exact BK418.out⟩, ⟨by (try simp only [hl415000_174]); (try simp only [hl419000_174]); refine hkz ?_; exact BK426.out⟩, ⟨by (try simp only [hl415000_174]); (try simp only [hl419000_174]); refine hkz ?_; exact BK427.out⟩, ⟨by (try simp only [hl415000_174]); (try simp only [hl419000_174]); refine hkz ?_; exact BK463.out⟩, ⟨by (try simp only [hl415000_174]); (try simp only [hl419000_174]); refine hkz ?_; exact BK464.out⟩, ⟨hkS HB⟩⟩
              case rest =>
               clear HC329
               try clear c1
               try clear c2
               try clear p2
               try clear c3
               try clear c4
               try clear c27
               try clear c36
               try clear c37
               try clear c38
               try clear c39
               try clear c40
               try clear c41
               try clear c42
               try clear c43
               try clear c44
               try clear c45
               try clear c365
               try clear c367
               try clear c368
               try clear c369
               try clear c370
               try clear c371
               try clear c372
               try clear c373
               try clear c374
               try clear c375
               try clear c376
               try clear c378
               try clear c379
               try clear c380
               try clear c381
               try clear c382
               try clear c383
               try clear c384
               try clear c385
               try clear c388
               try clear c389
               try clear c390
               try clear c391
               try clear c392
               try clear c393
               try clear c394
               try clear c396
               try clear c397
               try clear c398
               try clear c399
               try clear c400
               try clear c401
               try clear c404
               try clear c405
               try clear c406
               try clear c407
               try clear c408
               try clear c409
               try clear c410
               try clear c411
               try clear c412
               try clear c414
               try clear c415
               try clear c416
               try clear c417
               try clear c418
               try clear c419
               try clear c420
               try clear c421
               try clear c424
               try clear c425
               try clear c426
               try clear c427
               try clear c428
               try clear c429
               try clear c430
               try clear c432
               try clear c433
               try clear c434
               try clear c435
               try clear c436
               try clear c437
               try clear c440
               try clear c441
               try clear c442
               try clear c443
               try clear c444
               try clear c445
               try clear c446
               try clear c447
               try clear c448
               try clear c450
               try clear c451
               try clear c452
               try clear c453
               try clear c454
               try clear c455
               try clear c456
               try clear c457
               try clear hcz377_0 hcz386_0 hcz395_0 hcz402_0 hcz413_0 hcz422_0 hcz431_0 hcz438_0 hcz449_0 hcz458_0 hfz377_0 hfz386_0 hfz395_0 hfz402_0 hfz413_0 hfz422_0 hfz431_0 hfz438_0 hfz449_0 hfz458_0
               obtain ⟨kq, x142_328, rfl, HA, HJ328, HO_410000, HO_411000, HO_415000, HO_419000, HO_427000, HO_428000, HO_464000, HO_465000, BK392, BK393, BK409, BK410, BK414, BK418, BK426, BK427, BK463, BK464, HB⟩ := hcut
               have hl427000_328 := (Kd.R_reads' HO_427000.out).1
               rw [hl427000_328] at HO_427000
               (try simp only [hl427000_328])
               (try simp only [hl427000_328] at BK392)
               (try simp only [hl427000_328] at BK393)
               (try simp only [hl427000_328] at BK409)
               (try simp only [hl427000_328] at BK410)
               (try simp only [hl427000_328] at BK414)
               (try simp only [hl427000_328] at BK418)
               (try simp only [hl427000_328] at BK426)
               (try simp only [hl427000_328] at BK427)
               (try simp only [hl427000_328] at BK463)
               (try simp only [hl427000_328] at BK464)
               (try simp only [hl427000_328] at HO_410000)
               (try simp only [hl427000_328] at HO_411000)
               (try simp only [hl427000_328] at HO_415000)
               (try simp only [hl427000_328] at HO_419000)
               (try simp only [hl427000_328] at HO_428000)
               (try simp only [hl427000_328] at HO_464000)
               (try simp only [hl427000_328] at HO_465000)
               have hl428000_328 := (Kd.R_reads' HO_428000.out).1
               rw [hl428000_328] at HO_428000
               (try simp only [hl428000_328])
               (try simp only [hl428000_328] at BK392)
               (try simp only [hl428000_328] at BK393)
               (try simp only [hl428000_328] at BK409)
               (try simp only [hl428000_328] at BK410)
               (try simp only [hl428000_328] at BK414)
               (try simp only [hl428000_328] at BK418)
               (try simp only [hl428000_328] at BK426)
               (try simp only [hl428000_328] at BK427)
               (try simp only [hl428000_328] at BK463)
               (try simp only [hl428000_328] at BK464)
               (try simp only [hl428000_328] at HO_410000)
               (try simp only [hl428000_328] at HO_411000)
               (try simp only [hl428000_328] at HO_415000)
               (try simp only [hl428000_328] at HO_419000)
               (try simp only [hl428000_328] at HO_427000)
               (try simp only [hl428000_328] at HO_464000)
               (try simp only [hl428000_328] at HO_465000)
               cases kq with
               | zero => exact absurd HA.out (by simp [laws_FnExactNatDiv.j2])
               | succ kj328 =>
                have H := HA.out
                clear HA
                simp only [laws_FnExactNatDiv.j2] at H
                by_cases c460 : x142_328 = true
                ·subst c460
                 have H1 : (some false) = some true := by rw [if_pos rfl] at H; exact H
                 clear H
                 have H := H1
                 clear H1
                 exact absurd (Option.some.inj H) (by decide)
                ·replace c460 := Bool.eq_false_iff.mpr c460
                 subst c460
                 have H1 : ((laws_heldNat.f kj328 t445 1).bind fun t467 => (if t467 < 0 then (some false) else ((laws_heldNat.f kj328 t447 t467).bind fun t468 => (if t468 < 0 then (some false) else (if t468 = t446 then (some true) else (some false)))))) = some true := by rw [if_neg (show ¬ (false = true) by decide)] at H; exact H
                 clear H
                 have H := H1
                 clear H1
                 replace H := hBi H
                 obtain ⟨t467, A4610, H⟩ := H
                 replace H : (if t467 < 0 then (some false) else ((laws_heldNat.f kj328 t447 t467).bind fun t468 => (if t468 < 0 then (some false) else (if t468 = t446 then (some true) else (some false))))) = some true := H
                 have A461 := Aside0.mk A4610
                 clear A4610
                 by_cases c462 : t467 < 0
                 ·rw [if_pos c462] at H
                  have c462b0 : decide (t467 < 0) = true := decide_eq_true c462
                  clear c462
                  exact absurd (Option.some.inj H) (by decide)
                 ·rw [if_neg c462] at H
                  have c462b0 : decide (t467 < 0) = false := decide_eq_false c462
                  clear c462
                  replace H := hBi H
                  obtain ⟨t468, A4740, H⟩ := H
                  replace H : (if t468 < 0 then (some false) else (if t468 = t446 then (some true) else (some false))) = some true := H
                  have A474 := Aside0.mk A4740
                  clear A4740
                  by_cases c475 : t468 < 0
                  ·rw [if_pos c475] at H
                   have c475b0 : decide (t468 < 0) = true := decide_eq_true c475
                   clear c475
                   exact absurd (Option.some.inj H) (by decide)
                  ·rw [if_neg c475] at H
                   have c475b0 : decide (t468 < 0) = false := decide_eq_false c475
                   clear c475
                   by_cases c497 : t468 = t446
                   ·rw [if_pos c497] at H
                    have c497b0 : (t468 == t446) = true := beq_iff_eq.mpr c497
                    have c497b1 : (t468 != t446) = false := bne_eq_false_iff_eq.mpr c497
                    clear c497
                    clear H
                    have hnb498 := NB426_392.out
                    have hnc498 := NB392_426.out
                    have hnb499 := NB426_393.out
                    have hnc499 := NB393_426.out
                    have hnb500 := NB426_409.out
                    have hnc500 := NB409_426.out
                    have hnb501 := NB426_410.out
                    have hnc501 := NB410_426.out
                    have hnb502 := NB426_414.out
                    have hnc502 := NB414_426.out
                    have hnb503 := NB426_418.out
                    have hnc503 := NB418_426.out
                    have hnb504 := NB426_427.out
                    have hnc504 := NB427_426.out
                    have hnb505 := NB426_463.out
                    have hnc505 := NB463_426.out
                    have hnb506 := NB426_464.out
                    have hnc506 := NB464_426.out
                    obtain ⟨hcz507_0, hfz507_0⟩ := hkc1 BK426
                    go_wp2_with (first | ((with_reducible refine gate_callee (f := 29) rfl ?_); refine hkGo (N := some 145) Try.func29 #[.agg #[.slice Ao73 t445.length co73], .int .i64 1] ?_; (with_reducible refine (laws_heldNat.calls kj328 _ _ t445 1 t467 _ ?side1 ?side2 A461.out).mono ?_); (case side1 => exact hkC ((Kd.R_reads' HO_427000.out).2.2)); (case side2 => exact (Kd.R_reads' HO_427000.out).2.1); rintro e w508 ⟨rfl, hb⟩; refine ⟨_, rfl, ?_⟩; have n_ := hkA (hkRb HO_410000 hb) (hkA (hkRb HO_411000 hb) (hkA (hkRb HO_415000 hb) (hkA (hkRb HO_419000 hb) (hkA (hkRb HO_427000 hb) (hkA (hkRb HO_428000 hb) (hkA (hkRb HO_464000 hb) (hkA (hkRb HO_465000 hb) (hkA (hkBb BK392 hb) (hkA (hkBb BK393 hb) (hkA (hkBb BK409 hb) (hkA (hkBb BK410 hb) (hkA (hkBb BK414 hb) (hkA (hkBb BK418 hb) (hkA (hkBb BK426 hb) (hkA (hkBb BK427 hb) (hkA (hkBb BK463 hb) (hkA (hkBb BK464 hb) (hkU HB hb)))))))))))))))))); clear HO_410000 HO_411000 HO_415000 HO_419000 HO_427000 HO_428000 HO_464000 HO_465000 BK392 BK393 BK409 BK410 BK414 BK418 BK426 BK427 BK463 BK464 HB; obtain ⟨HO_410000, HO_411000, HO_415000, HO_419000, HO_427000, HO_428000, HO_464000, HO_465000, BK392, BK393, BK409, BK410, BK414, BK418, BK426, BK427, BK463, BK464, HB⟩ := n_; (try clear hb); have hnb509 := NB427_392.out; have hnc509 := NB392_427.out; have hnb510 := NB427_393.out; have hnc510 := NB393_427.out; have hnb511 := NB427_409.out; have hnc511 := NB409_427.out; have hnb512 := NB427_410.out; have hnc512 := NB410_427.out; have hnb513 := NB427_414.out; have hnc513 := NB414_427.out; have hnb514 := NB427_418.out; have hnc514 := NB418_427.out; have hnb515 := NB427_463.out; have hnc515 := NB463_427.out; have hnb516 := NB427_464.out; have hnc516 := NB464_427.out; obtain ⟨hcz517_0, hfz517_0⟩ := hkc1 BK427) | ((with_reducible refine gate_callee (f := 29) rfl ?_); refine hkGo (N := some 150) Try.func29 #[.agg #[.slice Ao82 t447.length co82], .int .i64 t467] ?_; (with_reducible refine (laws_heldNat.calls kj328 _ _ t447 t467 t468 _ ?side1 ?side2 A474.out).mono ?_); (case side1 => exact hkC ((Kd.R_reads' HO_428000.out).2.2)); (case side2 => exact (Kd.R_reads' HO_428000.out).2.1); rintro e w518 ⟨rfl, hb⟩; refine ⟨_, rfl, ?_⟩; have n_ := hkA (hkRb HO_410000 hb) (hkA (hkRb HO_411000 hb) (hkA (hkRb HO_415000 hb) (hkA (hkRb HO_419000 hb) (hkA (hkRb HO_427000 hb) (hkA (hkRb HO_428000 hb) (hkA (hkRb HO_464000 hb) (hkA (hkRb HO_465000 hb) (hkA (hkBb BK392 hb) (hkA (hkBb BK393 hb) (hkA (hkBb BK409 hb) (hkA (hkBb BK410 hb) (hkA (hkBb BK414 hb) (hkA (hkBb BK418 hb) (hkA (hkBb BK426 hb) (hkA (hkBb BK427 hb) (hkA (hkBb BK463 hb) (hkA (hkBb BK464 hb) (hkU HB hb)))))))))))))))))); clear HO_410000 HO_411000 HO_415000 HO_419000 HO_427000 HO_428000 HO_464000 HO_465000 BK392 BK393 BK409 BK410 BK414 BK418 BK426 BK427 BK463 BK464 HB; obtain ⟨HO_410000, HO_411000, HO_415000, HO_419000, HO_427000, HO_428000, HO_464000, HO_465000, BK392, BK393, BK409, BK410, BK414, BK418, BK426, BK427, BK463, BK464, HB⟩ := n_; (try clear hb)))
                    go_ret
                    exact ⟨hkE, hkS HB⟩
                   ·rw [if_neg c497] at H
                    have c497b0 : (t468 == t446) = false := beq_eq_false_iff_ne.mpr c497
                    have c497b1 : (t468 != t446) = true := bne_iff_ne.mpr c497
                    exact absurd (Option.some.inj H) (by decide)
             ·rw [if_neg c325] at H
              have c325b0 : (t449 == t446) = false := beq_eq_false_iff_ne.mpr c325
              have c325b1 : (t449 != t446) = true := bne_iff_ne.mpr c325
              exact absurd (Option.some.inj H) (by decide)
       ·replace c172 := Bool.eq_false_iff.mpr c172
        subst c172
        have H1 : (some false) = some true := by rw [if_neg (show ¬ (false = true) by decide)] at H; exact H
        clear H
        have H := H1
        clear H1
        exact absurd (Option.some.inj H) (by decide)
      ·replace c169 := Bool.eq_false_iff.mpr c169
       subst c169
       have H1 : (some false) = some true := by rw [if_neg (show ¬ (false = true) by decide)] at H; exact H
       clear H
       have H := H1
       clear H1
       exact absurd (Option.some.inj H) (by decide)
/-- THE ONE PURE STATEMENT of laws_FnExactNatDiv. -/
def laws_FnExactNatDiv.Pure : Prop := ∀ (l0_0 : List Int) (l1_0 : List Int), l0_0.length ≤ maxLen → (∀ x ∈ l0_0, (Lit.int .i64 x).wf = true) → l1_0.length ≤ maxLen → (∀ x ∈ l1_0, (Lit.int .i64 x).wf = true) → ∃ k, laws_FnExactNatDiv.f k l0_0 l1_0 = some true
theorem laws_FnExactNatDiv.walk (P : laws_FnExactNatDiv.Pure) (a0_0 : Option Addr) (len0_0 cap0_0 : Nat) (z0_0 : List Int) (a1_0 : Option Addr) (len1_0 cap1_0 : Nat) (z1_0 : List Int) (w : World) (w0_0 : ((a0_0 = none ∧ len0_0 = 0 ∧ cap0_0 = 0 ∧ z0_0 = []) ∨ ∃ x, a0_0 = some x ∧ len0_0 ≤ cap0_0 ∧ cap0_0 ≤ maxLen ∧ z0_0.length = cap0_0 ∧ (∀ i, i < z0_0.length → w.cell? (x.add i) = some (.int .i64 (z0_0.getD i 0))) ∧ ∀ n ∈ z0_0, (Lit.int .i64 n).wf = true)) (w1_0 : ((a1_0 = none ∧ len1_0 = 0 ∧ cap1_0 = 0 ∧ z1_0 = []) ∨ ∃ x, a1_0 = some x ∧ len1_0 ≤ cap1_0 ∧ cap1_0 ≤ maxLen ∧ z1_0.length = cap1_0 ∧ (∀ i, i < z1_0.length → w.cell? (x.add i) = some (.int .i64 (z1_0.getD i 0))) ∧ ∀ n ∈ z1_0, (Lit.int .i64 n).wf = true)) :
  Calls Try.prog 6 #[.agg #[.slice a0_0 len0_0 cap0_0], .agg #[.slice a1_0 len1_0 cap1_0]] w fun e w' => e = .returned (.bool true) ∧ Below w.heap.size w w' := by
 obtain ⟨l0_0, rfl, hr0_0, hm0_0, hw0_0, hc0_0⟩ := ReadsInt.ofRowC w0_0
 obtain ⟨l1_0, rfl, hr1_0, hm1_0, hw1_0, hc1_0⟩ := ReadsInt.ofRowC w1_0
 obtain ⟨k, h⟩ := P l0_0 l1_0 hm0_0 hw0_0 hm1_0 hw1_0
 refine (laws_FnExactNatDiv.calls k _ _ l0_0 _ _ l1_0 w (Kd.C_of_reads (d := (0 : Int)) (h1 := fun _ => rfl) hr0_0) hc0_0 (Kd.C_of_reads (d := (0 : Int)) (h1 := fun _ => rfl) hr1_0) hc1_0 h).mono ?_
 rintro e w' ⟨rfl, hd⟩
 exact ⟨rfl, hd⟩

end Go.Proofs.Ytgjpahofopoflaa.PFnExactNatDiv
