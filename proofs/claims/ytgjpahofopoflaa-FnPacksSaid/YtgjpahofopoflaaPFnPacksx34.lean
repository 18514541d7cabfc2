-- Written by our own driver (wip/hand/hprint.py) over the seat's translation.
import Derived.Test.YtgjpahofopoflaaPFnPacksx0
import Derived.Test.YtgjpahofopoflaaPFnPacksx1
import Derived.Test.YtgjpahofopoflaaPFnPacksx2
import Derived.Test.YtgjpahofopoflaaPFnPacksx10
import Derived.Test.YtgjpahofopoflaaPFnPacksx26
import Derived.Test.YtgjpahofopoflaaPFnPacksx27
import Derived.Test.YtgjpahofopoflaaPFnPacksx28
import Derived.Test.YtgjpahofopoflaaPFnPacksx29
import Derived.Test.YtgjpahofopoflaaPFnPacksx32
import Derived.Test.YtgjpahofopoflaaPFnPacksx33
namespace Go.Proofs.Ytgjpahofopoflaa.PFnPacks
open Go.RowKit Go.Proofs.YtgjpahofopoflaaW.PrintWords Go.Proofs.YtgjpahofopoflaaW.PrintLast Go.Proofs.YtgjpahofopoflaaW.PrintMore
attribute [local go_sem] max2_int min2_int max_two min_two max_three min_three max_four min_four   -- for this text's walks alone
set_option linter.unusedVariables false
set_option linter.unusedSimpArgs false

attribute [local go_sem high] eqA26
/-! ### laws_FnPacks: function 9 -/
mutual
def laws_FnPacks.j0 : Nat → List Int → Int → Int → Bool → Bool → Int → Bool → Int → Int → Option (Bool)
 | 0, _, _, _, _, _, _, _, _, _ => none
 | k + 1, x0, x4, x5, x6, x40, x671000, x671001, x671002, x671003 => if x40 = true then (some false) else (if x6 = true then ((impl_FlUnpack.f k x4 x5).bind fun bt676 => (if bt676.2.2.2.2 = true then (if (!(bt676.1 == x671000) || (!(bt676.2.1 == x671001) || (!(bt676.2.2.1 == x671002) || (!(bt676.2.2.2.1 == x671003))))) = true then (some false) else (laws_FnPacks.j1 k x0)) else (some false))) else (laws_FnPacks.j1 k x0))
def laws_FnPacks.j1 : Nat → List Int → Option (Bool)
 | 0, _ => none
 | k + 1, x0 => (spec_DrawFlCmp.f k x0).bind fun bt682 => ((impl_FlCmp.f k bt682.1 bt682.2.1 bt682.2.2.1 bt682.2.2.2.1 bt682.2.2.2.2.1 bt682.2.2.2.2.2.1 bt682.2.2.2.2.2.2.1 bt682.2.2.2.2.2.2.2).bind fun bt692 => (if bt692.2 = true then (if bt682.2.1 = true then (laws_FnPacks.j2 k x0 bt692.1 false bt682.1 bt682.2.1 bt682.2.2.1 bt682.2.2.2.1 bt682.2.2.2.2.1 bt682.2.2.2.2.2.1 bt682.2.2.2.2.2.2.1 bt682.2.2.2.2.2.2.2) else (laws_FnPacks.j2 k x0 bt692.1 (!bt682.2.2.2.2.2.1) bt682.1 bt682.2.1 bt682.2.2.1 bt682.2.2.2.1 bt682.2.2.2.2.1 bt682.2.2.2.2.2.1 bt682.2.2.2.2.2.2.1 bt682.2.2.2.2.2.2.2)) else (laws_FnPacks.j2 k x0 bt692.1 false bt682.1 bt682.2.1 bt682.2.2.1 bt682.2.2.2.1 bt682.2.2.2.2.1 bt682.2.2.2.2.2.1 bt682.2.2.2.2.2.2.1 bt682.2.2.2.2.2.2.2)))
def laws_FnPacks.j2 : Nat → List Int → Int → Bool → Int → Bool → Int → Int → Int → Bool → Int → Int → Option (Bool)
 | 0, _, _, _, _, _, _, _, _, _, _, _ => none
 | k + 1, x0, x11, x76, x691000, x691001, x691002, x691003, x692000, x692001, x692002, x692003 => if x76 = true then ((impl_FlPack.f k x691000 x691001 x691002 x691003).bind fun bt694 => ((impl_FlPack.f k x692000 x692001 x692002 x692003).bind fun bt697 => (if bt694.1 < bt697.1 then (laws_FnPacks.j3 k x0 ((decide (x11 < 0)) != true)) else (if bt694.1 = bt697.1 then (laws_FnPacks.j3 k x0 ((decide (x11 < 0)) != (decide (bt694.2.1 < bt697.2.1)))) else (laws_FnPacks.j3 k x0 ((decide (x11 < 0)) != false)))))) else ((spec_DrawFlUnpack.f k x0).bind fun bt712 => ((impl_FlUnpack.f k bt712.1 bt712.2).bind fun bt714 => (if bt712.1 ≥ 0 then (if bt712.2 ≥ 0 then (if bt712.1 < 4294967296 then (if (bt714.2.2.2.2 == (decide (bt712.2 < 4294967296))) = true then (if bt714.2.2.2.2 = true then ((spec_FlOk.f k bt714.1 bt714.2.1 bt714.2.2.1 bt714.2.2.2.1).bind fun t720 => (some t720)) else (some true)) else (some false)) else (if (bt714.2.2.2.2 == false) = true then (if bt714.2.2.2.2 = true then ((spec_FlOk.f k bt714.1 bt714.2.1 bt714.2.2.1 bt714.2.2.2.1).bind fun t721 => (some t721)) else (some true)) else (some false))) else (if (bt714.2.2.2.2 == false) = true then (if bt714.2.2.2.2 = true then ((spec_FlOk.f k bt714.1 bt714.2.1 bt714.2.2.1 bt714.2.2.2.1).bind fun t722 => (some t722)) else (some true)) else (some false))) else (if (bt714.2.2.2.2 == false) = true then (if bt714.2.2.2.2 = true then ((spec_FlOk.f k bt714.1 bt714.2.1 bt714.2.2.1 bt714.2.2.2.1).bind fun t723 => (some t723)) else (some true)) else (some false)))))
def laws_FnPacks.j3 : Nat → List Int → Bool → Option (Bool)
 | 0, _, _ => none
 | k + 1, x0, x104 => if x104 = true then (some false) else ((spec_DrawFlUnpack.f k x0).bind fun bt700 => ((impl_FlUnpack.f k bt700.1 bt700.2).bind fun bt702 => (if bt700.1 ≥ 0 then (if bt700.2 ≥ 0 then (if bt700.1 < 4294967296 then (if (bt702.2.2.2.2 == (decide (bt700.2 < 4294967296))) = true then (if bt702.2.2.2.2 = true then ((spec_FlOk.f k bt702.1 bt702.2.1 bt702.2.2.1 bt702.2.2.2.1).bind fun t708 => (some t708)) else (some true)) else (some false)) else (if (bt702.2.2.2.2 == false) = true then (if bt702.2.2.2.2 = true then ((spec_FlOk.f k bt702.1 bt702.2.1 bt702.2.2.1 bt702.2.2.2.1).bind fun t709 => (some t709)) else (some true)) else (some false))) else (if (bt702.2.2.2.2 == false) = true then (if bt702.2.2.2.2 = true then ((spec_FlOk.f k bt702.1 bt702.2.1 bt702.2.2.1 bt702.2.2.2.1).bind fun t710 => (some t710)) else (some true)) else (some false))) else (if (bt702.2.2.2.2 == false) = true then (if bt702.2.2.2.2 = true then ((spec_FlOk.f k bt702.1 bt702.2.1 bt702.2.2.1 bt702.2.2.2.1).bind fun t711 => (some t711)) else (some true)) else (some false)))))
end
def laws_FnPacks.f (k : Nat) (l0 : List Int) : Option (Bool) := (spec_DrawFlPack.f k l0).bind fun bt666 => ((impl_FlPack.f k bt666.1 bt666.2.1 bt666.2.2.1 bt666.2.2.2).bind fun bt671 => ((spec_FlOk.f k bt666.1 bt666.2.1 bt666.2.2.1 bt666.2.2.2).bind fun t674 => (if (bt671.2.2 != t674) = true then (laws_FnPacks.j0 k l0 bt671.1 bt671.2.1 bt671.2.2 true bt666.1 bt666.2.1 bt666.2.2.1 bt666.2.2.2) else ((impl_FlOk.f bt666.1 bt666.2.1 bt666.2.2.1 bt666.2.2.2).bind fun t675 => (laws_FnPacks.j0 k l0 bt671.1 bt671.2.1 bt671.2.2 (bt671.2.2 != t675) bt666.1 bt666.2.1 bt666.2.2.1 bt666.2.2.2)))))
theorem laws_FnPacks.mono_l : ∀ k, (∀ y0 y1 y2 y3 y4 y5 y6 y7 y8, LeO (laws_FnPacks.j0 k y0 y1 y2 y3 y4 y5 y6 y7 y8) (laws_FnPacks.j0 (k + 1) y0 y1 y2 y3 y4 y5 y6 y7 y8)) ∧ (∀ y0, LeO (laws_FnPacks.j1 k y0) (laws_FnPacks.j1 (k + 1) y0)) ∧ (∀ y0 y1 y2 y3 y4 y5 y6 y7 y8 y9 y10, LeO (laws_FnPacks.j2 k y0 y1 y2 y3 y4 y5 y6 y7 y8 y9 y10) (laws_FnPacks.j2 (k + 1) y0 y1 y2 y3 y4 y5 y6 y7 y8 y9 y10)) ∧ (∀ y0 y1, LeO (laws_FnPacks.j3 k y0 y1) (laws_FnPacks.j3 (k + 1) y0 y1))
 | 0 => ⟨fun _ _ _ _ _ _ _ _ _ r h => by simp [laws_FnPacks.j0] at h, fun _ r h => by simp [laws_FnPacks.j1] at h, fun _ _ _ _ _ _ _ _ _ _ _ r h => by simp [laws_FnPacks.j2] at h, fun _ _ r h => by simp [laws_FnPacks.j3] at h⟩
 | k + 1 => by
  obtain ⟨ih0, ih1, ih2, ih3⟩ := laws_FnPacks.mono_l k
  refine ⟨?_, ?_, ?_, ?_⟩
  ·intro y0 y1 y2 y3 y4 y5 y6 y7 y8
   unfold laws_FnPacks.j0
   repeat' first
   | (with_reducible exact ih0 _ _ _ _ _ _ _ _ _)
   | (with_reducible exact ih1 _)
   | (with_reducible exact ih2 _ _ _ _ _ _ _ _ _ _ _)
   | (with_reducible exact ih3 _ _)
   | (with_reducible exact impl_FlCmp.mono _ _ _ _ _ _ _ _ _)
   | (with_reducible exact impl_FlPack.mono _ _ _ _ _)
   | (with_reducible exact impl_FlUnpack.mono _ _ _)
   | (with_reducible exact spec_DrawFlCmp.mono _ _)
   | (with_reducible exact spec_DrawFlPack.mono _ _)
   | (with_reducible exact spec_DrawFlUnpack.mono _ _)
   | (with_reducible exact spec_FlOk.mono _ _ _ _ _)
   | (with_reducible exact LeO.refl _)
   | (with_reducible exact LeO.none _)
   | (with_reducible refine LeO.ite ?_ ?_)
   | (with_reducible refine LeO.bind ?_ (fun _ => ?_))
   | exact ih0 _ _ _ _ _ _ _ _ _
   | exact ih1 _
   | exact ih2 _ _ _ _ _ _ _ _ _ _ _
   | exact ih3 _ _
   | exact impl_FlCmp.mono _ _ _ _ _ _ _ _ _
   | exact impl_FlPack.mono _ _ _ _ _
   | exact impl_FlUnpack.mono _ _ _
   | exact spec_DrawFlCmp.mono _ _
   | exact spec_DrawFlPack.mono _ _
   | exact spec_DrawFlUnpack.mono _ _
   | exact spec_FlOk.mono _ _ _ _ _
   | exact LeO.none _
   | refine LeO.ite ?_ ?_
   | refine LeO.bind ?_ (fun _ => ?_)
  ·intro y0
   unfold laws_FnPacks.j1
   repeat' first
   | (with_reducible exact ih0 _ _ _ _ _ _ _ _ _)
   | (with_reducible exact ih1 _)
   | (with_reducible exact ih2 _ _ _ _ _ _ _ _ _ _ _)
   | (with_reducible exact ih3 _ _)
   | (with_reducible exact impl_FlCmp.mono _ _ _ _ _ _ _ _ _)
   | (with_reducible exact impl_FlPack.mono _ _ _ _ _)
   | (with_reducible exact impl_FlUnpack.mono _ _ _)
   | (with_reducible exact spec_DrawFlCmp.mono _ _)
   | (with_reducible exact spec_DrawFlPack.mono _ _)
   | (with_reducible exact spec_DrawFlUnpack.mono _ _)
   | (with_reducible exact spec_FlOk.mono _ _ _ _ _)
   | (with_reducible exact LeO.refl _)
   | (with_reducible exact LeO.none _)
   | (with_reducible refine LeO.ite ?_ ?_)
   | (with_reducible refine LeO.bind ?_ (fun _ => ?_))
   | exact ih0 _ _ _ _ _ _ _ _ _
   | exact ih1 _
   | exact ih2 _ _ _ _ _ _ _ _ _ _ _
   | exact ih3 _ _
   | exact impl_FlCmp.mono _ _ _ _ _ _ _ _ _
   | exact impl_FlPack.mono _ _ _ _ _
   | exact impl_FlUnpack.mono _ _ _
   | exact spec_DrawFlCmp.mono _ _
   | exact spec_DrawFlPack.mono _ _
   | exact spec_DrawFlUnpack.mono _ _
   | exact spec_FlOk.mono _ _ _ _ _
   | exact LeO.none _
   | refine LeO.ite ?_ ?_
   | refine LeO.bind ?_ (fun _ => ?_)
  ·intro y0 y1 y2 y3 y4 y5 y6 y7 y8 y9 y10
   unfold laws_FnPacks.j2
   repeat' first
   | (with_reducible exact ih0 _ _ _ _ _ _ _ _ _)
   | (with_reducible exact ih1 _)
   | (with_reducible exact ih2 _ _ _ _ _ _ _ _ _ _ _)
   | (with_reducible exact ih3 _ _)
   | (with_reducible exact impl_FlCmp.mono _ _ _ _ _ _ _ _ _)
   | (with_reducible exact impl_FlPack.mono _ _ _ _ _)
   | (with_reducible exact impl_FlUnpack.mono _ _ _)
   | (with_reducible exact spec_DrawFlCmp.mono _ _)
   | (with_reducible exact spec_DrawFlPack.mono _ _)
   | (with_reducible exact spec_DrawFlUnpack.mono _ _)
   | (with_reducible exact spec_FlOk.mono _ _ _ _ _)
   | (with_reducible exact LeO.refl _)
   | (with_reducible exact LeO.none _)
   | (with_reducible refine LeO.ite ?_ ?_)
   | (with_reducible refine LeO.bind ?_ (fun _ => ?_))
   | exact ih0 _ _ _ _ _ _ _ _ _
   | exact ih1 _
   | exact ih2 _ _ _ _ _ _ _ _ _ _ _
   | exact ih3 _ _
   | exact impl_FlCmp.mono _ _ _ _ _ _ _ _ _
   | exact impl_FlPack.mono _ _ _ _ _
   | exact impl_FlUnpack.mono _ _ _
   | exact spec_DrawFlCmp.mono _ _
   | exact spec_DrawFlPack.mono _ _
   | exact spec_DrawFlUnpack.mono _ _
   | exact spec_FlOk.mono _ _ _ _ _
   | exact LeO.none _
   | refine LeO.ite ?_ ?_
   | refine LeO.bind ?_ (fun _ => ?_)
  ·intro y0 y1
   unfold laws_FnPacks.j3
   repeat' first
   | (with_reducible exact ih0 _ _ _ _ _ _ _ _ _)
   | (with_reducible exact ih1 _)
   | (with_reducible exact ih2 _ _ _ _ _ _ _ _ _ _ _)
   | (with_reducible exact ih3 _ _)
   | (with_reducible exact impl_FlCmp.mono _ _ _ _ _ _ _ _ _)
   | (with_reducible exact impl_FlPack.mono _ _ _ _ _)
   | (with_reducible exact impl_FlUnpack.mono _ _ _)
   | (with_reducible exact spec_DrawFlCmp.mono _ _)
   | (with_reducible exact spec_DrawFlPack.mono _ _)
   | (with_reducible exact spec_DrawFlUnpack.mono _ _)
   | (with_reducible exact spec_FlOk.mono _ _ _ _ _)
   | (with_reducible exact LeO.refl _)
   | (with_reducible exact LeO.none _)
   | (with_reducible refine LeO.ite ?_ ?_)
   | (with_reducible refine LeO.bind ?_ (fun _ => ?_))
   | exact ih0 _ _ _ _ _ _ _ _ _
   | exact ih1 _
   | exact ih2 _ _ _ _ _ _ _ _ _ _ _
   | exact ih3 _ _
   | exact impl_FlCmp.mono _ _ _ _ _ _ _ _ _
   | exact impl_FlPack.mono _ _ _ _ _
   | exact impl_FlUnpack.mono _ _ _
   | exact spec_DrawFlCmp.mono _ _
   | exact spec_DrawFlPack.mono _ _
   | exact spec_DrawFlUnpack.mono _ _
   | exact spec_FlOk.mono _ _ _ _ _
   | exact LeO.none _
   | refine LeO.ite ?_ ?_
   | refine LeO.bind ?_ (fun _ => ?_)
theorem laws_FnPacks.mono : ∀ a0 k, LeO (laws_FnPacks.f k a0) (laws_FnPacks.f (k + 1) a0) := by
 intro a0 k
 obtain ⟨ih0, ih1, ih2, ih3⟩ := laws_FnPacks.mono_l k
 unfold laws_FnPacks.f
 repeat' first
   | (with_reducible exact ih0 _ _ _ _ _ _ _ _ _)
   | (with_reducible exact ih1 _)
   | (with_reducible exact ih2 _ _ _ _ _ _ _ _ _ _ _)
   | (with_reducible exact ih3 _ _)
   | (with_reducible exact impl_FlCmp.mono _ _ _ _ _ _ _ _ _)
   | (with_reducible exact impl_FlPack.mono _ _ _ _ _)
   | (with_reducible exact impl_FlUnpack.mono _ _ _)
   | (with_reducible exact spec_DrawFlCmp.mono _ _)
   | (with_reducible exact spec_DrawFlPack.mono _ _)
   | (with_reducible exact spec_DrawFlUnpack.mono _ _)
   | (with_reducible exact spec_FlOk.mono _ _ _ _ _)
   | (with_reducible exact LeO.refl _)
   | (with_reducible exact LeO.none _)
   | (with_reducible refine LeO.ite ?_ ?_)
   | (with_reducible refine LeO.bind ?_ (fun _ => ?_))
   | exact ih0 _ _ _ _ _ _ _ _ _
   | exact ih1 _
   | exact ih2 _ _ _ _ _ _ _ _ _ _ _
   | exact ih3 _ _
   | exact impl_FlCmp.mono _ _ _ _ _ _ _ _ _
   | exact impl_FlPack.mono _ _ _ _ _
   | exact impl_FlUnpack.mono _ _ _
   | exact spec_DrawFlCmp.mono _ _
   | exact spec_DrawFlPack.mono _ _
   | exact spec_DrawFlUnpack.mono _ _
   | exact spec_FlOk.mono _ _ _ _ _
   | exact LeO.none _
   | refine LeO.ite ?_ ?_
   | refine LeO.bind ?_ (fun _ => ?_)
set_option maxHeartbeats 8000000 in
set_option maxRecDepth 100000 in
theorem laws_FnPacks.calls (k : Nat) (A0 : Option Addr) (c0 : Nat) (l0 : List Int) (w : World) (hr0 : Kd.C (Kd.int .u8) w A0 l0.length l0) (hc0 : l0.length ≤ c0) (h : laws_FnPacks.f k l0 = some true) :
  Calls Try.prog 9 #[.slice A0 l0.length c0] w fun e w' => e = .returned (.bool true) ∧ Below w.heap.size w w' := by
 have hu26 := Try.underlying26
 have HR0 := Aside0.mk hr0
 have HC0 := Aside0.mk hc0
 clear hr0 hc0
 have HB := Aside0.mk (Below.refl w.heap.size w)
 have H : ((spec_DrawFlPack.f k l0).bind fun bt666 => ((impl_FlPack.f k bt666.1 bt666.2.1 bt666.2.2.1 bt666.2.2.2).bind fun bt671 => ((spec_FlOk.f k bt666.1 bt666.2.1 bt666.2.2.1 bt666.2.2.2).bind fun t674 => (if (bt671.2.2 != t674) = true then (laws_FnPacks.j0 k l0 bt671.1 bt671.2.1 bt671.2.2 true bt666.1 bt666.2.1 bt666.2.2.1 bt666.2.2.2) else ((impl_FlOk.f bt666.1 bt666.2.1 bt666.2.2.1 bt666.2.2.2).bind fun t675 => (laws_FnPacks.j0 k l0 bt671.1 bt671.2.1 bt671.2.2 (bt671.2.2 != t675) bt666.1 bt666.2.1 bt666.2.2.1 bt666.2.2.2)))))) = some true := h
 clear h
 replace H := hBi H
 obtain ⟨⟨t666, t667, t668, t669⟩, A20, H⟩ := H
 replace H : ((impl_FlPack.f k t666 t667 t668 t669).bind fun bt671 => ((spec_FlOk.f k t666 t667 t668 t669).bind fun t674 => (if (bt671.2.2 != t674) = true then (laws_FnPacks.j0 k l0 bt671.1 bt671.2.1 bt671.2.2 true t666 t667 t668 t669) else ((impl_FlOk.f t666 t667 t668 t669).bind fun t675 => (laws_FnPacks.j0 k l0 bt671.1 bt671.2.1 bt671.2.2 (bt671.2.2 != t675) t666 t667 t668 t669))))) = some true := H
 have A2 := Aside0.mk A20
 clear A20
 replace H := hBi H
 obtain ⟨⟨t671, t672, t673⟩, A30, H⟩ := H
 replace H : ((spec_FlOk.f k t666 t667 t668 t669).bind fun t674 => (if (t673 != t674) = true then (laws_FnPacks.j0 k l0 t671 t672 t673 true t666 t667 t668 t669) else ((impl_FlOk.f t666 t667 t668 t669).bind fun t675 => (laws_FnPacks.j0 k l0 t671 t672 t673 (t673 != t675) t666 t667 t668 t669)))) = some true := H
 have A3 := Aside0.mk A30
 clear A30
 have HC4 := Aside0.mk H
 clear H
 go_enter Try.func9, Try.ntmps9
 go_upto_region 3 with (first | ((with_reducible refine gate_callee (f := 36) rfl ?_); refine hkGo (N := some 24) Try.func36 #[.slice A0 l0.length c0] ?_; (with_reducible refine (spec_DrawFlPack.calls k _ _ l0 t666 t667 t668 t669 _ ?side1 ?side2 A2.out).mono ?_); (case side1 => exact hkC (HR0.out)); (case side2 => exact HC0.out); rintro e w5 ⟨rfl, hb⟩; refine ⟨_, rfl, ?_⟩; have n0_ := hkU HB hb; clear HB; have HB := n0_; clear n0_; (try clear hb)) | ((with_reducible refine gate_dst (N := 3) rfl ?_); refine hkBox (N := 3) (cs := #[.int .i64 0, .bool false, .int .i64 0, .int .i64 0]) (t := 26) ?_; intro gb670 hg w6 hbox hb; have n_ := hkA (hkU HB hb) (hkA (Aside0.mk (hbox)) (hkA (hkG hg (hkS HB)) (hkG hg (hkS HB)))); clear HB; obtain ⟨HB, BK670, GW670, GE670⟩ := n_; clear hb hbox hg; obtain ⟨hcz7_0, hfz7_0, hcz7_1, hfz7_1, hcz7_2, hfz7_2, hcz7_3, hfz7_3⟩ := hkc4 BK670) | ((with_reducible refine gate_callee (f := 37) rfl ?_); refine hkGo (N := some 27) Try.func37 #[.agg #[.int .i64 t666, .bool t667, .int .i64 t668, .int .i64 t669]] ?_; (with_reducible refine (impl_FlPack.calls k t666 t667 t668 t669 t671 t672 t673 _ A3.out).mono ?_); rintro e w8 ⟨rfl, hb⟩; refine ⟨_, rfl, ?_⟩; have n_ := hkA (Aside0.mk (blk_below (g := gb670) (o := .cells #[.int .i64 t666, .bool t667, .int .i64 t668, .int .i64 t669] 26 (0, 0)) hkPp hb)) (hkU HB hb); clear BK670 HB; obtain ⟨BK670, HB⟩ := n_; (try clear hb)))
 (try simp only [Act.put, List.setIfInBounds_toArray, List.set_cons_zero, List.set_cons_succ])
 go_cut [40] (fun v40 wc => ∃ (kq : Nat) (x40_3 : Bool), v40 = .bool x40_3 ∧ Aside0 (laws_FnPacks.j0 kq l0 t671 t672 t673 x40_3 t666 t667 t668 t669 = some true) ∧ Aside0 (kq ≤ k) ∧ Aside0 (wc.heap[gb670]? = some (.cells #[.int .i64 t666, .bool t667, .int .i64 t668, .int .i64 t669] 26 (0, 0))) ∧ Aside0 (Below w.heap.size w wc))
 case first =>
  have H := HC4.out
  clear HC4
  replace H := hBi H
  obtain ⟨t674, A90, H⟩ := H
  replace H : (if (t673 != t674) = true then (laws_FnPacks.j0 k l0 t671 t672 t673 true t666 t667 t668 t669) else ((impl_FlOk.f t666 t667 t668 t669).bind fun t675 => (laws_FnPacks.j0 k l0 t671 t672 t673 (t673 != t675) t666 t667 t668 t669))) = some true := H
  have A9 := Aside0.mk A90
  clear A90
  by_cases c10 : (t673 != t674) = true
  ·rw [if_pos c10] at H
   have c10b0 : (t673 != t674) = true := c10
   (try (have c10b1 : decide (t673 = t674) = false := by simpa using c10))
   (try (have c10b2 : (t673 == t674) = false := by simpa using c10))
   (try (have c10b3 : ¬ (t673 = t674) := by simpa using c10))
   clear c10
   (first | rw [c10b0] | (simp only [i64_w, i32_w]; rw [c10b0]) | skip)
   have H' := Aside0.mk H
   clear H
   obtain ⟨hcz11_0, hfz11_0, hcz11_1, hfz11_1, hcz11_2, hfz11_2, hcz11_3, hfz11_3⟩ := hkc4 BK670
   go_wp2_with (first | ((with_reducible refine gate_callee (f := 38) rfl ?_); refine hkGo (N := some 33) Try.func38 #[.agg #[.int .i64 t666, .bool t667, .int .i64 t668, .int .i64 t669]] ?_; (with_reducible refine (spec_FlOk.calls k t666 t667 t668 t669 t674 _ A9.out).mono ?_); rintro e w12 ⟨rfl, hb⟩; refine ⟨_, rfl, ?_⟩; have n_ := hkA (hkBb BK670 hb) (hkU HB hb); clear BK670 HB; obtain ⟨BK670, HB⟩ := n_; (try clear hb)))
   go_meet
   case rel => exact ⟨_, (true), (by first | rfl | (simp; done) | (simp [*]; done)), H', ⟨by first | omega | exact Nat.le_refl _⟩, ⟨by refine hkz ?_; exact BK670.out⟩, ⟨hkS HB⟩⟩
  ·rw [if_neg c10] at H
   have c10b0 : (t673 != t674) = false := by simpa using c10
   (try (have c10b1 : decide (t673 = t674) = true := by simpa using c10))
   (try (have c10b2 : (t673 == t674) = true := by simpa using c10))
   clear c10
   (first | rw [c10b0] | (simp only [i64_w, i32_w]; rw [c10b0]) | skip)
   replace H := hBi H
   obtain ⟨t675, A130, H⟩ := H
   replace H : (laws_FnPacks.j0 k l0 t671 t672 t673 (t673 != t675) t666 t667 t668 t669) = some true := H
   have A13 := Aside0.mk A130
   clear A130
   have H' := Aside0.mk H
   clear H
   obtain ⟨hcz14_0, hfz14_0, hcz14_1, hfz14_1, hcz14_2, hfz14_2, hcz14_3, hfz14_3⟩ := hkc4 BK670
   go_wp2_with (first | ((with_reducible refine gate_callee (f := 38) rfl ?_); refine hkGo (N := some 33) Try.func38 #[.agg #[.int .i64 t666, .bool t667, .int .i64 t668, .int .i64 t669]] ?_; (with_reducible refine (spec_FlOk.calls k t666 t667 t668 t669 t674 _ A9.out).mono ?_); rintro e w15 ⟨rfl, hb⟩; refine ⟨_, rfl, ?_⟩; have n_ := hkA (hkBb BK670 hb) (hkU HB hb); clear BK670 HB; obtain ⟨BK670, HB⟩ := n_; (try clear hb); obtain ⟨hcz16_0, hfz16_0, hcz16_1, hfz16_1, hcz16_2, hfz16_2, hcz16_3, hfz16_3⟩ := hkc4 BK670) | (go_at_call 39; (with_reducible refine (impl_FlOk.calls t666 t667 t668 t669 t675 _ A13.out).mono ?_); rintro e w17 ⟨rfl, hb⟩; have n_ := hkA (hkBb BK670 hb) (hkU HB hb); clear BK670 HB; obtain ⟨BK670, HB⟩ := n_; (try clear hb)))
   go_meet
   case rel => exact ⟨_, ((t673 != t675)), (by first | rfl | (simp; done) | (simp [*]; done)), H', ⟨by first | omega | exact Nat.le_refl _⟩, ⟨by refine hkz ?_; exact BK670.out⟩, ⟨hkS HB⟩⟩
 case rest =>
  clear HC4
  try clear c1
  try clear p2
  try clear c3
  try clear c9
  try clear c10
  try clear c10b0
  try clear c10b1
  try clear c10b2
  try clear hcz11_0 hcz11_1 hcz11_2 hcz11_3 hcz14_0 hcz14_1 hcz14_2 hcz14_3 hcz16_0 hcz16_1 hcz16_2 hcz16_3 hcz7_0 hcz7_1 hcz7_2 hcz7_3 hfz11_0 hfz11_1 hfz11_2 hfz11_3 hfz14_0 hfz14_1 hfz14_2 hfz14_3 hfz16_0 hfz16_1 hfz16_2 hfz16_3 hfz7_0 hfz7_1 hfz7_2 hfz7_3
  obtain ⟨kq, x40_3, rfl, HA, HJ3, BK670, HB⟩ := hcut
  cases kq with
  | zero => exact absurd HA.out (by simp [laws_FnPacks.j0])
  | succ kj3 =>
   have H := HA.out
   clear HA
   simp only [laws_FnPacks.j0] at H
   by_cases c18 : x40_3 = true
   ·subst c18
    have H1 : (some false) = some true := by rw [if_pos rfl] at H; exact H
    clear H
    have H := H1
    clear H1
    exact absurd (Option.some.inj H) (by decide)
   ·replace c18 := Bool.eq_false_iff.mpr c18
    subst c18
    have H1 : (if t673 = true then ((impl_FlUnpack.f kj3 t671 t672).bind fun bt676 => (if bt676.2.2.2.2 = true then (if (!(bt676.1 == t666) || (!(bt676.2.1 == t667) || (!(bt676.2.2.1 == t668) || (!(bt676.2.2.2.1 == t669))))) = true then (some false) else (laws_FnPacks.j1 kj3 l0)) else (some false))) else (laws_FnPacks.j1 kj3 l0)) = some true := by rw [if_neg (show ¬ (false = true) by decide)] at H; exact H
    clear H
    have H := H1
    clear H1
    have HC19 := Aside0.mk H
    clear H
    go_upto_if 41 with (fail)
    go_cut [] (fun wc => ∃ (kq : Nat), Aside0 (laws_FnPacks.j1 kq l0 = some true) ∧ Aside0 (kq ≤ kj3) ∧ Aside0 (wc.heap[gb670]? = some (.cells #[.int .i64 t666, .bool t667, .int .i64 t668, .int .i64 t669] 26 (0, 0))) ∧ Aside0 (Below w.heap.size w wc))
    case first =>
     have H := HC19.out
     clear HC19
     by_cases c20 : t673 = true
     ·subst c20
      have H1 : ((impl_FlUnpack.f kj3 t671 t672).bind fun bt676 => (if bt676.2.2.2.2 = true then (if (!(bt676.1 == t666) || (!(bt676.2.1 == t667) || (!(bt676.2.2.1 == t668) || (!(bt676.2.2.2.1 == t669))))) = true then (some false) else (laws_FnPacks.j1 kj3 l0)) else (some false))) = some true := by rw [if_pos rfl] at H; exact H
      clear H
      have H := H1
      clear H1
      replace H := hBi H
      obtain ⟨⟨t676, t677, t678, t679, t680⟩, A210, H⟩ := H
      replace H : (if t680 = true then (if (!(t676 == t666) || (!(t677 == t667) || (!(t678 == t668) || (!(t679 == t669))))) = true then (some false) else (laws_FnPacks.j1 kj3 l0)) else (some false)) = some true := H
      have A21 := Aside0.mk A210
      clear A210
      by_cases c22 : t680 = true
      ·subst c22
       have H1 : (if (!(t676 == t666) || (!(t677 == t667) || (!(t678 == t668) || (!(t679 == t669))))) = true then (some false) else (laws_FnPacks.j1 kj3 l0)) = some true := by rw [if_pos rfl] at H; exact H
       clear H
       have H := H1
       clear H1
       by_cases c23 : (!(t676 == t666) || (!(t677 == t667) || (!(t678 == t668) || (!(t679 == t669))))) = true
       ·rw [if_pos c23] at H
        have c23b0 : (!(t676 == t666) || (!(t677 == t667) || (!(t678 == t668) || (!(t679 == t669))))) = true := c23
        clear c23
        (first | rw [c23b0] | (simp only [i64_w, i32_w]; rw [c23b0]) | skip)
        exact absurd (Option.some.inj H) (by decide)
       ·rw [if_neg c23] at H
        have c23b0 : (!(t676 == t666) || (!(t677 == t667) || (!(t678 == t668) || (!(t679 == t669))))) = false := by simpa using c23
        clear c23
        (first | rw [c23b0] | (simp only [i64_w, i32_w]; rw [c23b0]) | skip)
        have H' := Aside0.mk H
        clear H
        go_wp2_with (first | ((with_reducible refine gate_callee (f := 40) rfl ?_); refine hkGo (N := some 45) Try.func40 #[.int .i64 t671, .int .i64 t672] ?_; (with_reducible refine (impl_FlUnpack.calls kj3 t671 t672 t676 t677 t678 t679 true _ A21.out).mono ?_); rintro e w29 ⟨rfl, hb⟩; refine ⟨_, rfl, ?_⟩; have n_ := hkA (hkBb BK670 hb) (hkU HB hb); clear BK670 HB; obtain ⟨BK670, HB⟩ := n_; (try clear hb)) | ((with_reducible refine gate_dst (N := 7) rfl ?_); refine hkBox (N := 7) (cs := #[.int .i64 0, .bool false, .int .i64 0, .int .i64 0]) (t := 26) ?_; intro gb681 hg w30 hbox hb; have n_ := hkA (hkBb BK670 hb) (hkA (hkU HB hb) (hkA (Aside0.mk (hbox)) (hkA (hkG hg (hkS HB)) (hkA (hkG hg (hkS HB)) (hkA (hkN hg BK670) (hkM hg BK670)))))); clear BK670 HB; obtain ⟨BK670, HB, BK681, GW681, GE681, NB670_681, NB681_670⟩ := n_; clear hb hbox hg; have hnb31 := NB681_670.out; have hnc31 := NB670_681.out; obtain ⟨hcz32_0, hfz32_0, hcz32_1, hfz32_1, hcz32_2, hfz32_2, hcz32_3, hfz32_3⟩ := hkc4 BK681; obtain ⟨hcz33_0, hfz33_0, hcz33_1, hfz33_1, hcz33_2, hfz33_2, hcz33_3, hfz33_3⟩ := hkc4 BK670))
        go_meet
        case rel => exact ⟨_, H', ⟨by have := HJ3.out; first | omega | exact Nat.le_refl _⟩, ⟨by refine hkz ?_; refine blk_far ?_ NB670_681.out _; refine hkz ?_; refine blk_far ?_ NB670_681.out _; refine hkz ?_; refine blk_far ?_ NB670_681.out _; refine hkz ?_; refine blk_far ?_ NB670_681.out _; refine hkz ?_; exact BK670.out⟩, ⟨hkS HB⟩⟩
      ·replace c22 := Bool.eq_false_iff.mpr c22
       subst c22
       have H1 : (some false) = some true := by rw [if_neg (show ¬ (false = true) by decide)] at H; exact H
       clear H
       have H := H1
       clear H1
       exact absurd (Option.some.inj H) (by decide)
     ·replace c20 := Bool.eq_false_iff.mpr c20
      subst c20
      have H1 : (laws_FnPacks.j1 kj3 l0) = some true := by rw [if_neg (show ¬ (false = true) by decide)] at H; exact H
      clear H
      have H := H1
      clear H1
      have H' := Aside0.mk H
      clear H
      go_wp2
      go_meet
      case rel => exact ⟨_, H', ⟨by have := HJ3.out; first | omega | exact Nat.le_refl _⟩, ⟨by refine hkz ?_; exact BK670.out⟩, ⟨hkS HB⟩⟩
    case rest =>
     clear HC19
     try clear c1
     try clear c2
     try clear p2
     try clear c3
     try clear c4
     try clear c9
     try clear c10
     try clear c10b0
     try clear c10b1
     try clear c10b2
     try clear c18
     try clear c20
     try clear c22
     try clear c23
     try clear c23b0
     try clear c26
     try clear c31
     try clear c36
     try clear c37
     try clear hcz11_0 hcz11_1 hcz11_2 hcz11_3 hcz14_0 hcz14_1 hcz14_2 hcz14_3 hcz16_0 hcz16_1 hcz16_2 hcz16_3 hcz27_0 hcz27_1 hcz27_2 hcz27_3 hcz28_0 hcz28_1 hcz28_2 hcz28_3 hcz32_0 hcz32_1 hcz32_2 hcz32_3 hcz33_0 hcz33_1 hcz33_2 hcz33_3 hcz37_0 hcz37_1 hcz37_2 hcz37_3 hcz7_0 hcz7_1 hcz7_2 hcz7_3 hfz11_0 hfz11_1 hfz11_2 hfz11_3 hfz14_0 hfz14_1 hfz14_2 hfz14_3 hfz16_0 hfz16_1 hfz16_2 hfz16_3 hfz27_0 hfz27_1 hfz27_2 hfz27_3 hfz28_0 hfz28_1 hfz28_2 hfz28_3 hfz32_0 hfz32_1 hfz32_2 hfz32_3 hfz33_0 hfz33_1 hfz33_2 hfz33_3 hfz37_0 hfz37_1 hfz37_2 hfz37_3 hfz7_0 hfz7_1 hfz7_2 hfz7_3
     try clear p2
     obtain ⟨kq, HA, HJ18, BK670, HB⟩ := hcut
     cases kq with
     | zero => exact absurd HA.out (by simp [laws_FnPacks.j1])
     | succ kj18 =>
      have H := HA.out
      clear HA
      simp only [laws_FnPacks.j1] at H
      replace H := hBi H
      obtain ⟨⟨t682, t683, t684, t685, t686, t687, t688, t689⟩, A380, H⟩ := H
      replace H : ((impl_FlCmp.f kj18 t682 t683 t684 t685 t686 t687 t688 t689).bind fun bt692 => (if bt692.2 = true then (if t683 = true then (laws_FnPacks.j2 kj18 l0 bt692.1 false t682 t683 t684 t685 t686 t687 t688 t689) else (laws_FnPacks.j2 kj18 l0 bt692.1 (!t687) t682 t683 t684 t685 t686 t687 t688 t689)) else (laws_FnPacks.j2 kj18 l0 bt692.1 false t682 t683 t684 t685 t686 t687 t688 t689))) = some true := H
      have A38 := Aside0.mk A380
      clear A380
      replace H := hBi H
      obtain ⟨⟨t692, t693⟩, A390, H⟩ := H
      replace H : (if t693 = true then (if t683 = true then (laws_FnPacks.j2 kj18 l0 t692 false t682 t683 t684 t685 t686 t687 t688 t689) else (laws_FnPacks.j2 kj18 l0 t692 (!t687) t682 t683 t684 t685 t686 t687 t688 t689)) else (laws_FnPacks.j2 kj18 l0 t692 false t682 t683 t684 t685 t686 t687 t688 t689)) = some true := H
      have A39 := Aside0.mk A390
      clear A390
      have HC40 := Aside0.mk H
      clear H
      go_upto_region 11 with (first | ((with_reducible refine gate_callee (f := 41) rfl ?_); refine hkGo (N := some 57) Try.func41 #[.slice A0 l0.length c0] ?_; (with_reducible refine (spec_DrawFlCmp.calls kj18 _ _ l0 t682 t683 t684 t685 t686 t687 t688 t689 _ ?side1 ?side2 A38.out).mono ?_); (case side1 => exact hkC ((Kd.C_below HR0.out HB.out))); (case side2 => exact HC0.out); rintro e w41 ⟨rfl, hb⟩; refine ⟨_, rfl, ?_⟩; have n_ := hkA (hkBb BK670 hb) (hkU HB hb); clear BK670 HB; obtain ⟨BK670, HB⟩ := n_; (try clear hb)) | ((with_reducible refine gate_dst (N := 9) rfl ?_); refine hkBox (N := 9) (cs := #[.int .i64 0, .bool false, .int .i64 0, .int .i64 0]) (t := 26) ?_; intro gb690 hg w42 hbox hb; have n_ := hkA (hkBb BK670 hb) (hkA (hkU HB hb) (hkA (Aside0.mk (hbox)) (hkA (hkG hg (hkS HB)) (hkA (hkG hg (hkS HB)) (hkA (hkN hg BK670) (hkM hg BK670)))))); clear BK670 HB; obtain ⟨BK670, HB, BK690, GW690, GE690, NB670_690, NB690_670⟩ := n_; clear hb hbox hg) | ((with_reducible refine gate_dst (N := 10) rfl ?_); refine hkBox (N := 10) (cs := #[.int .i64 0, .bool false, .int .i64 0, .int .i64 0]) (t := 26) ?_; intro gb691 hg w43 hbox hb; have n_ := hkA (hkBb BK670 hb) (hkA (hkBb BK690 hb) (hkA (hkU HB hb) (hkA (Aside0.mk (hbox)) (hkA (hkG hg (hkS HB)) (hkA (hkG hg (hkS HB)) (hkA (hkN hg BK670) (hkA (hkM hg BK670) (hkA (hkN hg BK690) (hkM hg BK690))))))))); clear BK670 BK690 HB; obtain ⟨BK670, BK690, HB, BK691, GW691, GE691, NB670_691, NB691_670, NB690_691, NB691_690⟩ := n_; clear hb hbox hg; have hnb44 := NB690_670.out; have hnc44 := NB670_690.out; have hnb45 := NB690_691.out; have hnc45 := NB691_690.out; obtain ⟨hcz46_0, hfz46_0, hcz46_1, hfz46_1, hcz46_2, hfz46_2, hcz46_3, hfz46_3⟩ := hkc4 BK690; have hnb47 := NB691_670.out; have hnc47 := NB670_691.out; obtain ⟨hcz48_0, hfz48_0, hcz48_1, hfz48_1, hcz48_2, hfz48_2, hcz48_3, hfz48_3⟩ := hkc4 BK691) | ((with_reducible refine gate_callee (f := 12) rfl ?_); refine hkGo (N := some 63) Try.func12 #[.agg #[.int .i64 t682, .bool t683, .int .i64 t684, .int .i64 t685], .agg #[.int .i64 t686, .bool t687, .int .i64 t688, .int .i64 t689]] ?_; (with_reducible refine (impl_FlCmp.calls kj18 t682 t683 t684 t685 t686 t687 t688 t689 t692 t693 _ A39.out).mono ?_); rintro e w49 ⟨rfl, hb⟩; refine ⟨_, rfl, ?_⟩; have n_ := hkA (Aside0.mk (blk_below (g := gb670) (o := .cells #[.int .i64 t666, .bool t667, .int .i64 t668, .int .i64 t669] 26 (0, 0)) hkPp hb)) (hkA (Aside0.mk (blk_below (g := gb690) (o := .cells #[.int .i64 t682, .bool t683, .int .i64 t684, .int .i64 t685] 26 (0, 0)) hkPp hb)) (hkA (Aside0.mk (blk_below (g := gb691) (o := .cells #[.int .i64 t686, .bool t687, .int .i64 t688, .int .i64 t689] 26 (0, 0)) hkPp hb)) (hkU HB hb))); clear BK670 BK690 BK691 HB; obtain ⟨BK670, BK690, BK691, HB⟩ := n_; (try clear hb)))
      (try simp only [Act.put, List.setIfInBounds_toArray, List.set_cons_zero, List.set_cons_succ])
      go_cut [76] (fun v76 wc => ∃ (kq : Nat) (x76_39 : Bool), v76 = .bool x76_39 ∧ Aside0 (laws_FnPacks.j2 kq l0 t692 x76_39 t682 t683 t684 t685 t686 t687 t688 t689 = some true) ∧ Aside0 (kq ≤ kj18) ∧ Aside0 (wc.heap[gb670]? = some (.cells #[.int .i64 t666, .bool t667, .int .i64 t668, .int .i64 t669] 26 (0, 0))) ∧ Aside0 (wc.heap[gb690]? = some (.cells #[.int .i64 t682, .bool t683, .int .i64 t684, .int .i64 t685] 26 (0, 0))) ∧ Aside0 (wc.heap[gb691]? = some (.cells #[.int .i64 t686, .bool t687, .int .i64 t688, .int .i64 t689] 26 (0, 0))) ∧ Aside0 (Below w.heap.size w wc))
      case first =>
       have H := HC40.out
       clear HC40
       by_cases c50 : t693 = true
       ·subst c50
        have H1 : (if t683 = true then (laws_FnPacks.j2 kj18 l0 t692 false t682 t683 t684 t685 t686 t687 t688 t689) else (laws_FnPacks.j2 kj18 l0 t692 (!t687) t682 t683 t684 t685 t686 t687 t688 t689)) = some true := by rw [if_pos rfl] at H; exact H
        clear H
        have H := H1
        clear H1
        by_cases c51 : t683 = true
        ·subst c51
         have H1 : (laws_FnPacks.j2 kj18 l0 t692 false t682 true t684 t685 t686 t687 t688 t689) = some true := by rw [if_pos rfl] at H; exact H
         clear H
         have H := H1
         clear H1
         have H' := Aside0.mk H
         clear H
         have hnb52 := NB690_670.out
         have hnc52 := NB670_690.out
         have hnb53 := NB690_691.out
         have hnc53 := NB691_690.out
         obtain ⟨hcz54_0, hfz54_0, hcz54_1, hfz54_1, hcz54_2, hfz54_2, hcz54_3, hfz54_3⟩ := hkc4 BK690
         go_wp2
         go_meet
         case rel => exact ⟨_, (false), (by first | rfl | (simp; done) | (simp [*]; done)), H', ⟨by have := HJ3.out; have := HJ18.out; first | omega | exact Nat.le_refl _⟩, ⟨by refine hkz ?_; exact BK670.out⟩, ⟨by refine hkz ?_; exact BK690.out⟩, ⟨by refine hkz ?_; exact BK691.out⟩, ⟨hkS HB⟩⟩
        ·replace c51 := Bool.eq_false_iff.mpr c51
         subst c51
         have H1 : (laws_FnPacks.j2 kj18 l0 t692 (!t687) t682 false t684 t685 t686 t687 t688 t689) = some true := by rw [if_neg (show ¬ (false = true) by decide)] at H; exact H
         clear H
         have H := H1
         clear H1
         have H' := Aside0.mk H
         clear H
         have hnb55 := NB690_670.out
         have hnc55 := NB670_690.out
         have hnb56 := NB690_691.out
         have hnc56 := NB691_690.out
         obtain ⟨hcz57_0, hfz57_0, hcz57_1, hfz57_1, hcz57_2, hfz57_2, hcz57_3, hfz57_3⟩ := hkc4 BK690
         have hnb58 := NB691_670.out
         have hnc58 := NB670_691.out
         obtain ⟨hcz59_0, hfz59_0, hcz59_1, hfz59_1, hcz59_2, hfz59_2, hcz59_3, hfz59_3⟩ := hkc4 BK691
         go_wp2
         go_meet
         case rel => exact ⟨_, (!t687), (by first | rfl | (simp; done) | (simp [*]; done)), H', ⟨by have := HJ3.out; have := HJ18.out; first | omega | exact Nat.le_refl _⟩, ⟨by refine hkz ?_; exact BK670.out⟩, ⟨by refine hkz ?_; exact BK690.out⟩, ⟨by refine hkz ?_; exact BK691.out⟩, ⟨hkS HB⟩⟩
       ·replace c50 := Bool.eq_false_iff.mpr c50
        subst c50
        have H1 : (laws_FnPacks.j2 kj18 l0 t692 false t682 t683 t684 t685 t686 t687 t688 t689) = some true := by rw [if_neg (show ¬ (false = true) by decide)] at H; exact H
        clear H
        have H := H1
        clear H1
        have H' := Aside0.mk H
        clear H
        go_wp2
        go_meet
        case rel => exact ⟨_, (false), (by first | rfl | (simp; done) | (simp [*]; done)), H', ⟨by have := HJ3.out; have := HJ18.out; first | omega | exact Nat.le_refl _⟩, ⟨by refine hkz ?_; exact BK670.out⟩, ⟨by refine hkz ?_; exact BK690.out⟩, ⟨by refine hkz ?_; exact BK691.out⟩, ⟨hkS HB⟩⟩
      case rest =>
       clear HC40
       try clear c1
       try clear c2
       try clear p2
       try clear c3
       try clear c4
       try clear c5
       try clear c9
       try clear c10
       try clear c10b0
       try clear c10b1
       try clear c10b2
       try clear c12
       try clear c18
       try clear c20
       try clear c22
       try clear c23
       try clear c23b0
       try clear c26
       try clear c31
       try clear c36
       try clear c37
       try clear c38
       try clear c40
       try clear c41
       try clear c44
       try clear c45
       try clear c47
       try clear c50
       try clear c51
       try clear c52
       try clear c53
       try clear c55
       try clear c56
       try clear c58
       try clear hcz11_0 hcz11_1 hcz11_2 hcz11_3 hcz14_0 hcz14_1 hcz14_2 hcz14_3 hcz16_0 hcz16_1 hcz16_2 hcz16_3 hcz27_0 hcz27_1 hcz27_2 hcz27_3 hcz28_0 hcz28_1 hcz28_2 hcz28_3 hcz32_0 hcz32_1 hcz32_2 hcz32_3 hcz33_0 hcz33_1 hcz33_2 hcz33_3 hcz37_0 hcz37_1 hcz37_2 hcz37_3 hcz46_0 hcz46_1 hcz46_2 hcz46_3 hcz48_0 hcz48_1 hcz48_2 hcz48_3 hcz54_0 hcz54_1 hcz54_2 hcz54_3 hcz57_0 hcz57_1 hcz57_2 hcz57_3 hcz59_0 hcz59_1 hcz59_2 hcz59_3 hcz7_0 hcz7_1 hcz7_2 hcz7_3 hfz11_0 hfz11_1 hfz11_2 hfz11_3 hfz14_0 hfz14_1 hfz14_2 hfz14_3 hfz16_0 hfz16_1 hfz16_2 hfz16_3 hfz27_0 hfz27_1 hfz27_2 hfz27_3 hfz28_0 hfz28_1 hfz28_2 hfz28_3 hfz32_0 hfz32_1 hfz32_2 hfz32_3 hfz33_0 hfz33_1 hfz33_2 hfz33_3 hfz37_0 hfz37_1 hfz37_2 hfz37_3 hfz46_0 hfz46_1 hfz46_2 hfz46_3 hfz48_0 hfz48_1 hfz48_2 hfz48_3 hfz54_0 hfz54_1 hfz54_2 hfz54_3 hfz57_0 hfz57_1 hfz57_2 hfz57_3 hfz59_0 hfz59_1 hfz59_2 hfz59_3 hfz7_0 hfz7_1 hfz7_2 hfz7_3
       try clear p2
       obtain ⟨kq, x76_39, rfl, HA, HJ39, BK670, BK690, BK691, HB⟩ := hcut
       cases kq with
       | zero => exact absurd HA.out (by simp [laws_FnPacks.j2])
       | succ kj39 =>
        have H := HA.out
        clear HA
        simp only [laws_FnPacks.j2] at H
        by_cases c60 : x76_39 = true
        ·subst c60
         have H1 : ((impl_FlPack.f kj39 t682 t683 t684 t685).bind fun bt694 => ((impl_FlPack.f kj39 t686 t687 t688 t689).bind fun bt697 => (if bt694.1 < bt697.1 then (laws_FnPacks.j3 kj39 l0 ((decide (t692 < 0)) != true)) else (if bt694.1 = bt697.1 then (laws_FnPacks.j3 kj39 l0 ((decide (t692 < 0)) != (decide (bt694.2.1 < bt697.2.1)))) else (laws_FnPacks.j3 kj39 l0 ((decide (t692 < 0)) != false)))))) = some true := by rw [if_pos rfl] at H; exact H
         clear H
         have H := H1
         clear H1
         replace H := hBi H
         obtain ⟨⟨t694, t695, t696⟩, A610, H⟩ := H
         replace H : ((impl_FlPack.f kj39 t686 t687 t688 t689).bind fun bt697 => (if t694 < bt697.1 then (laws_FnPacks.j3 kj39 l0 ((decide (t692 < 0)) != true)) else (if t694 = bt697.1 then (laws_FnPacks.j3 kj39 l0 ((decide (t692 < 0)) != (decide (t695 < bt697.2.1)))) else (laws_FnPacks.j3 kj39 l0 ((decide (t692 < 0)) != false))))) = some true := H
         have A61 := Aside0.mk A610
         clear A610
         replace H := hBi H
         obtain ⟨⟨t697, t698, t699⟩, A620, H⟩ := H
         replace H : (if t694 < t697 then (laws_FnPacks.j3 kj39 l0 ((decide (t692 < 0)) != true)) else (if t694 = t697 then (laws_FnPacks.j3 kj39 l0 ((decide (t692 < 0)) != (decide (t695 < t698)))) else (laws_FnPacks.j3 kj39 l0 ((decide (t692 < 0)) != false)))) = some true := H
         have A62 := Aside0.mk A620
         clear A620
         have HC63 := Aside0.mk H
         clear H
         have hnb64 := NB690_670.out
         have hnc64 := NB670_690.out
         have hnb65 := NB690_691.out
         have hnc65 := NB691_690.out
         obtain ⟨hcz66_0, hfz66_0, hcz66_1, hfz66_1, hcz66_2, hfz66_2, hcz66_3, hfz66_3⟩ := hkc4 BK690
         go_upto_region 14 with (first | ((with_reducible refine gate_callee (f := 37) rfl ?_); refine hkGo (N := some 79) Try.func37 #[.agg #[.int .i64 t682, .bool t683, .int .i64 t684, .int .i64 t685]] ?_; (with_reducible refine (impl_FlPack.calls kj39 t682 t683 t684 t685 t694 t695 t696 _ A61.out).mono ?_); rintro e w67 ⟨rfl, hb⟩; refine ⟨_, rfl, ?_⟩; have n_ := hkA (hkBb BK670 hb) (hkA (hkBb BK690 hb) (hkA (hkBb BK691 hb) (hkU HB hb))); clear BK670 BK690 BK691 HB; obtain ⟨BK670, BK690, BK691, HB⟩ := n_; (try clear hb); have hnb68 := NB691_670.out; have hnc68 := NB670_691.out; obtain ⟨hcz69_0, hfz69_0, hcz69_1, hfz69_1, hcz69_2, hfz69_2, hcz69_3, hfz69_3⟩ := hkc4 BK691) | ((with_reducible refine gate_callee (f := 37) rfl ?_); refine hkGo (N := some 85) Try.func37 #[.agg #[.int .i64 t686, .bool t687, .int .i64 t688, .int .i64 t689]] ?_; (with_reducible refine (impl_FlPack.calls kj39 t686 t687 t688 t689 t697 t698 t699 _ A62.out).mono ?_); rintro e w70 ⟨rfl, hb⟩; refine ⟨_, rfl, ?_⟩; have n_ := hkA (hkBb BK670 hb) (hkA (hkBb BK690 hb) (hkA (hkBb BK691 hb) (hkU HB hb))); clear BK670 BK690 BK691 HB; obtain ⟨BK670, BK690, BK691, HB⟩ := n_; (try clear hb)))
         (try simp only [Act.put, List.setIfInBounds_toArray, List.set_cons_zero, List.set_cons_succ])
         go_cut [104] (fun v104 wc => ∃ (kq : Nat) (x104_62 : Bool), v104 = .bool x104_62 ∧ Aside0 (laws_FnPacks.j3 kq l0 x104_62 = some true) ∧ Aside0 (kq ≤ kj39) ∧ Aside0 (wc.heap[gb670]? = some (.cells #[.int .i64 t666, .bool t667, .int .i64 t668, .int .i64 t669] 26 (0, 0))) ∧ Aside0 (wc.heap[gb690]? = some (.cells #[.int .i64 t682, .bool t683, .int .i64 t684, .int .i64 t685] 26 (0, 0))) ∧ Aside0 (wc.heap[gb691]? = some (.cells #[.int .i64 t686, .bool t687, .int .i64 t688, .int .i64 t689] 26 (0, 0))) ∧ Aside0 (Below w.heap.size w wc))
         case first =>
          have H := HC63.out
          clear HC63
          by_cases c71 : t694 < t697
          ·rw [if_pos c71] at H
           have c71b0 : decide (t694 < t697) = true := decide_eq_true c71
           clear c71
           (first | rw [c71b0] | (simp only [i64_w, i32_w]; rw [c71b0]) | skip)
           have H' := Aside0.mk H
           clear H
           go_wp2
           go_meet
           case rel => exact ⟨_, (((decide (t692 < 0)) != true)), (by first | rfl | (simp; done) | (simp [*]; done)), H', ⟨by have := HJ3.out; have := HJ18.out; have := HJ39.out; first | omega | exact Nat.le_refl _⟩, ⟨by refine hkz ?_; exact BK670.out⟩, ⟨by refine hkz ?_; exact BK690.out⟩, ⟨by refine hkz ?_; exact BK691.out⟩, ⟨hkS HB⟩⟩
          ·rw [if_neg c71] at H
           have c71b0 : decide (t694 < t697) = false := decide_eq_false c71
           clear c71
           (first | rw [c71b0] | (simp only [i64_w, i32_w]; rw [c71b0]) | skip)
           by_cases c72 : t694 = t697
           ·rw [if_pos c72] at H
            have c72b0 : (t694 == t697) = true := beq_iff_eq.mpr c72
            have c72b1 : (t694 != t697) = false := bne_eq_false_iff_eq.mpr c72
            clear c72
            have H' := Aside0.mk H
            clear H
            go_wp2
            go_meet
            case rel => exact ⟨_, (((decide (t692 < 0)) != (decide (t695 < t698)))), (by first | rfl | (simp; done) | (simp [*]; done)), H', ⟨by have := HJ3.out; have := HJ18.out; have := HJ39.out; first | omega | exact Nat.le_refl _⟩, ⟨by refine hkz ?_; exact BK670.out⟩, ⟨by refine hkz ?_; exact BK690.out⟩, ⟨by refine hkz ?_; exact BK691.out⟩, ⟨hkS HB⟩⟩
           ·rw [if_neg c72] at H
            have c72b0 : (t694 == t697) = false := beq_eq_false_iff_ne.mpr c72
            have c72b1 : (t694 != t697) = true := bne_iff_ne.mpr c72
            have H' := Aside0.mk H
            clear H
            go_wp2
            go_meet
            case rel => exact ⟨_, (((decide (t692 < 0)) != false)), (by first | rfl | (simp; done) | (simp [*]; done)), H', ⟨by have := HJ3.out; have := HJ18.out; have := HJ39.out; first | omega | exact Nat.le_refl _⟩, ⟨by refine hkz ?_; exact BK670.out⟩, ⟨by refine hkz ?_; exact BK690.out⟩, ⟨by refine hkz ?_; exact BK691.out⟩, ⟨hkS HB⟩⟩
         case rest =>
          clear HC63
          try clear c1
          try clear c2
          try clear p2
          try clear c3
          try clear c4
          try clear c5
          try clear c6
          try clear c7
          try clear c9
          try clear c10
          try clear c10b0
          try clear c10b1
          try clear c10b2
          try clear c12
          try clear c18
          try clear c20
          try clear c22
          try clear c23
          try clear c23b0
          try clear c26
          try clear c31
          try clear c36
          try clear c37
          try clear c38
          try clear c40
          try clear c41
          try clear c44
          try clear c45
          try clear c47
          try clear c50
          try clear c51
          try clear c52
          try clear c53
          try clear c55
          try clear c56
          try clear c58
          try clear c60
          try clear c64
          try clear c65
          try clear c68
          try clear c71
          try clear c71b0
          try clear c72
          try clear c72b0
          try clear c72b1
          try clear hcz11_0 hcz11_1 hcz11_2 hcz11_3 hcz14_0 hcz14_1 hcz14_2 hcz14_3 hcz16_0 hcz16_1 hcz16_2 hcz16_3 hcz27_0 hcz27_1 hcz27_2 hcz27_3 hcz28_0 hcz28_1 hcz28_2 hcz28_3 hcz32_0 hcz32_1 hcz32_2 hcz32_3 hcz33_0 hcz33_1 hcz33_2 hcz33_3 hcz37_0 hcz37_1 hcz37_2 hcz37_3 hcz46_0 hcz46_1 hcz46_2 hcz46_3 hcz48_0 hcz48_1 hcz48_2 hcz48_3 hcz54_0 hcz54_1 hcz54_2 hcz54_3 hcz57_0 hcz57_1 hcz57_2 hcz57_3 hcz59_0 hcz59_1 hcz59_2 hcz59_3 hcz66_0 hcz66_1 hcz66_2 hcz66_3 hcz69_0 hcz69_1 hcz69_2 hcz69_3 hcz7_0 hcz7_1 hcz7_2 hcz7_3 hfz11_0 hfz11_1 hfz11_2 hfz11_3 hfz14_0 hfz14_1 hfz14_2 hfz14_3 hfz16_0 hfz16_1 hfz16_2 hfz16_3 hfz27_0 hfz27_1 hfz27_2 hfz27_3 hfz28_0 hfz28_1 hfz28_2 hfz28_3 hfz32_0 hfz32_1 hfz32_2 hfz32_3 hfz33_0 hfz33_1 hfz33_2 hfz33_3 hfz37_0 hfz37_1 hfz37_2 hfz37_3 hfz46_0 hfz46_1 hfz46_2 hfz46_3 hfz48_0 hfz48_1 hfz48_2 hfz48_3 hfz54_0 hfz54_1 hfz54_2 hfz54_3 hfz57_0 hfz57_1 hfz57_2 hfz57_3 hfz59_0 hfz59_1 hfz59_2 hfz59_3 hfz66_0 hfz66_1 hfz66_2 hfz66_3 hfz69_0 hfz69_1 hfz69_2 hfz69_3 hfz7_0 hfz7_1 hfz7_2 hfz7_3
          try clear p2
          obtain ⟨kq, x104_62, rfl, HA, HJ62, BK670, BK690, BK691, HB⟩ := hcut
          cases kq with
          | zero => exact absurd HA.out (by simp [laws_FnPacks.j3])
          | succ kj62 =>
           have H := HA.out
           clear HA
           simp only [laws_FnPacks.j3] at H
           by_cases c73 : x104_62 = true
           ·subst c73
            have H1 : (some false) = some true := by rw [if_pos rfl] at H; exact H
            clear H
            have H := H1
            clear H1
            exact absurd (Option.some.inj H) (by decide)
           ·replace c73 := Bool.eq_false_iff.mpr c73
            subst c73
            have H1 : ((spec_DrawFlUnpack.f kj62 l0).bind fun bt700 => ((impl_FlUnpack.f kj62 bt700.1 bt700.2).bind fun bt702 => (if bt700.1 ≥ 0 then (if bt700.2 ≥ 0 then (if bt700.1 < 4294967296 then (if (bt702.2.2.2.2 == (decide (bt700.2 < 4294967296))) = true then (if bt702.2.2.2.2 = true then ((spec_FlOk.f kj62 bt702.1 bt702.2.1 bt702.2.2.1 bt702.2.2.2.1).bind fun t708 => (some t708)) else (some true)) else (some false)) else (if (bt702.2.2.2.2 == false) = true then (if bt702.2.2.2.2 = true then ((spec_FlOk.f kj62 bt702.1 bt702.2.1 bt702.2.2.1 bt702.2.2.2.1).bind fun t709 => (some t709)) else (some true)) else (some false))) else (if (bt702.2.2.2.2 == false) = true then (if bt702.2.2.2.2 = true then ((spec_FlOk.f kj62 bt702.1 bt702.2.1 bt702.2.2.1 bt702.2.2.2.1).bind fun t710 => (some t710)) else (some true)) else (some false))) else (if (bt702.2.2.2.2 == false) = true then (if bt702.2.2.2.2 = true then ((spec_FlOk.f kj62 bt702.1 bt702.2.1 bt702.2.2.1 bt702.2.2.2.1).bind fun t711 => (some t711)) else (some true)) else (some false))))) = some true := by rw [if_neg (show ¬ (false = true) by decide)] at H; exact H
            clear H
            have H := H1
            clear H1
            replace H := hBi H
            obtain ⟨⟨t700, t701⟩, A740, H⟩ := H
            replace H : ((impl_FlUnpack.f kj62 t700 t701).bind fun bt702 => (if t700 ≥ 0 then (if t701 ≥ 0 then (if t700 < 4294967296 then (if (bt702.2.2.2.2 == (decide (t701 < 4294967296))) = true then (if bt702.2.2.2.2 = true then ((spec_FlOk.f kj62 bt702.1 bt702.2.1 bt702.2.2.1 bt702.2.2.2.1).bind fun t708 => (some t708)) else (some true)) else (some false)) else (if (bt702.2.2.2.2 == false) = true then (if bt702.2.2.2.2 = true then ((spec_FlOk.f kj62 bt702.1 bt702.2.1 bt702.2.2.1 bt702.2.2.2.1).bind fun t709 => (some t709)) else (some true)) else (some false))) else (if (bt702.2.2.2.2 == false) = true then (if bt702.2.2.2.2 = true then ((spec_FlOk.f kj62 bt702.1 bt702.2.1 bt702.2.2.1 bt702.2.2.2.1).bind fun t710 => (some t710)) else (some true)) else (some false))) else (if (bt702.2.2.2.2 == false) = true then (if bt702.2.2.2.2 = true then ((spec_FlOk.f kj62 bt702.1 bt702.2.1 bt702.2.2.1 bt702.2.2.2.1).bind fun t711 => (some t711)) else (some true)) else (some false)))) = some true := H
            have A74 := Aside0.mk A740
            clear A740
            replace H := hBi H
            obtain ⟨⟨t702, t703, t704, t705, t706⟩, A750, H⟩ := H
            replace H : (if t700 ≥ 0 then (if t701 ≥ 0 then (if t700 < 4294967296 then (if (t706 == (decide (t701 < 4294967296))) = true then (if t706 = true then ((spec_FlOk.f kj62 t702 t703 t704 t705).bind fun t708 => (some t708)) else (some true)) else (some false)) else (if (t706 == false) = true then (if t706 = true then ((spec_FlOk.f kj62 t702 t703 t704 t705).bind fun t709 => (some t709)) else (some true)) else (some false))) else (if (t706 == false) = true then (if t706 = true then ((spec_FlOk.f kj62 t702 t703 t704 t705).bind fun t710 => (some t710)) else (some true)) else (some false))) else (if (t706 == false) = true then (if t706 = true then ((spec_FlOk.f kj62 t702 t703 t704 t705).bind fun t711 => (some t711)) else (some true)) else (some false))) = some true := H
            have A75 := Aside0.mk A750
            clear A750
            by_cases c76 : t700 ≥ 0
            ·rw [if_pos c76] at H
             have c76b0 : decide (0 ≤ t700) = true := decide_eq_true c76
             clear c76
             by_cases c77 : t701 ≥ 0
             ·rw [if_pos c77] at H
              have c77b0 : decide (0 ≤ t701) = true := decide_eq_true c77
              clear c77
              by_cases c78 : t700 < 4294967296
              ·rw [if_pos c78] at H
               have c78b0 : decide (t700 < 4294967296) = true := decide_eq_true c78
               clear c78
               by_cases c79 : (t706 == (decide (t701 < 4294967296))) = true
               ·rw [if_pos c79] at H
                have c79b0 : (t706 == (decide (t701 < 4294967296))) = true := c79
                (try (have c79b1 : decide (t706 = (decide (t701 < 4294967296))) = true := by simpa using c79))
                (try (have c79b2 : (t706 == (decide (t701 < 4294967296))) = true := by simpa using c79))
                clear c79
                by_cases c80 : t706 = true
                ·subst c80
                 have H1 : ((spec_FlOk.f kj62 t702 t703 t704 t705).bind fun t708 => (some t708)) = some true := by rw [if_pos rfl] at H; exact H
                 clear H
                 have H := H1
                 clear H1
                 replace H := hBi H
                 obtain ⟨t708, A810, H⟩ := H
                 replace H : (some t708) = some true := H
                 have A81 := Aside0.mk A810
                 clear A810
                 have hr_ := Option.some.inj H
                 clear H
                 go_wp2_with (first | ((with_reducible refine gate_callee (f := 42) rfl ?_); refine hkGo (N := some 107) Try.func42 #[.slice A0 l0.length c0] ?_; (with_reducible refine (spec_DrawFlUnpack.calls kj62 _ _ l0 t700 t701 _ ?side1 ?side2 A74.out).mono ?_); (case side1 => exact hkC ((Kd.C_below HR0.out HB.out))); (case side2 => exact HC0.out); rintro e w82 ⟨rfl, hb⟩; refine ⟨_, rfl, ?_⟩; have n_ := hkA (hkBb BK670 hb) (hkA (hkBb BK690 hb) (hkA (hkBb BK691 hb) (hkU HB hb))); clear BK670 BK690 BK691 HB; obtain ⟨BK670, BK690, BK691, HB⟩ := n_; (try clear hb)) | ((with_reducible refine gate_callee (f := 40) rfl ?_); refine hkGo (N := some 113) Try.func40 #[.int .i64 t700, .int .i64 t701] ?_; (with_reducible refine (impl_FlUnpack.calls kj62 t700 t701 t702 t703 t704 t705 true _ A75.out).mono ?_); rintro e w83 ⟨rfl, hb⟩; refine ⟨_, rfl, ?_⟩; have n_ := hkA (hkBb BK670 hb) (hkA (hkBb BK690 hb) (hkA (hkBb BK691 hb) (hkU HB hb))); clear BK670 BK690 BK691 HB; obtain ⟨BK670, BK690, BK691, HB⟩ := n_; (try clear hb)) | ((with_reducible refine gate_dst (N := 21) rfl ?_); refine hkBox (N := 21) (cs := #[.int .i64 0, .bool false, .int .i64 0, .int .i64 0]) (t := 26) ?_; intro gb707 hg w84 hbox hb; have n_ := hkA (hkBb BK670 hb) (hkA (hkBb BK690 hb) (hkA (hkBb BK691 hb) (hkA (hkU HB hb) (hkA (Aside0.mk (hbox)) (hkA (hkG hg (hkS HB)) (hkA (hkG hg (hkS HB)) (hkA (hkN hg BK670) (hkA (hkM hg BK670) (hkA (hkN hg BK690) (hkA (hkM hg BK690) (hkA (hkN hg BK691) (hkM hg BK691)))))))))))); clear BK670 BK690 BK691 HB; obtain ⟨BK670, BK690, BK691, HB, BK707, GW707, GE707, NB670_707, NB707_670, NB690_707, NB707_690, NB691_707, NB707_691⟩ := n_; clear hb hbox hg; have hnb85 := NB707_670.out; have hnc85 := NB670_707.out; have hnb86 := NB707_690.out; have hnc86 := NB690_707.out; have hnb87 := NB707_691.out; have hnc87 := NB691_707.out; obtain ⟨hcz88_0, hfz88_0, hcz88_1, hfz88_1, hcz88_2, hfz88_2, hcz88_3, hfz88_3⟩ := hkc4 BK707) | (go_at_call 38; (with_reducible refine (spec_FlOk.calls kj62 t702 t703 t704 t705 t708 _ A81.out).mono ?_); rintro e w89 ⟨rfl, hb⟩; have n_ := hkA (Aside0.mk (blk_below (g := gb670) (o := .cells #[.int .i64 t666, .bool t667, .int .i64 t668, .int .i64 t669] 26 (0, 0)) hkPp hb)) (hkA (Aside0.mk (blk_below (g := gb690) (o := .cells #[.int .i64 t682, .bool t683, .int .i64 t684, .int .i64 t685] 26 (0, 0)) hkPp hb)) (hkA (Aside0.mk (blk_below (g := gb691) (o := .cells #[.int .i64 t686, .bool t687, .int .i64 t688, .int .i64 t689] 26 (0, 0)) hkPp hb)) (hkA (Aside0.mk (blk_below (g := gb707) (o := .cells #[.int .i64 t702, .bool t703, .int .i64 t704, .int .i64 t705] 26 (0, 0)) hkPp hb)) (hkU HB hb)))); clear BK670 BK690 BK691 BK707 HB; obtain ⟨BK670, BK690, BK691, BK707, HB⟩ := n_; (try clear hb)))
                 go_ret
                 exact ⟨by first | rfl | (rw [hr_]; done) | (simp [errW_none, errW_some] <;> rfl) | (simp [*, errW_none, errW_some] <;> rfl), hkS HB⟩
                ·replace c80 := Bool.eq_false_iff.mpr c80
                 subst c80
                 have H1 : (some true) = some true := rfl
                 clear H
                 have H := H1
                 clear H1
                 clear H
                 go_wp2_with (first | ((with_reducible refine gate_callee (f := 42) rfl ?_); refine hkGo (N := some 107) Try.func42 #[.slice A0 l0.length c0] ?_; (with_reducible refine (spec_DrawFlUnpack.calls kj62 _ _ l0 t700 t701 _ ?side1 ?side2 A74.out).mono ?_); (case side1 => exact hkC ((Kd.C_below HR0.out HB.out))); (case side2 => exact HC0.out); rintro e w90 ⟨rfl, hb⟩; refine ⟨_, rfl, ?_⟩; have n_ := hkA (hkBb BK670 hb) (hkA (hkBb BK690 hb) (hkA (hkBb BK691 hb) (hkU HB hb))); clear BK670 BK690 BK691 HB; obtain ⟨BK670, BK690, BK691, HB⟩ := n_; (try clear hb)) | ((with_reducible refine gate_callee (f := 40) rfl ?_); refine hkGo (N := some 113) Try.func40 #[.int .i64 t700, .int .i64 t701] ?_; (with_reducible refine (impl_FlUnpack.calls kj62 t700 t701 t702 t703 t704 t705 false _ A75.out).mono ?_); rintro e w91 ⟨rfl, hb⟩; refine ⟨_, rfl, ?_⟩; have n_ := hkA (hkBb BK670 hb) (hkA (hkBb BK690 hb) (hkA (hkBb BK691 hb) (hkU HB hb))); clear BK670 BK690 BK691 HB; obtain ⟨BK670, BK690, BK691, HB⟩ := n_; (try clear hb)) | ((with_reducible refine gate_dst (N := 21) rfl ?_); refine hkBox (N := 21) (cs := #[.int .i64 0, .bool false, .int .i64 0, .int .i64 0]) (t := 26) ?_; intro gb707 hg w92 hbox hb; have n_ := hkA (hkBb BK670 hb) (hkA (hkBb BK690 hb) (hkA (hkBb BK691 hb) (hkA (hkU HB hb) (hkA (Aside0.mk (hbox)) (hkA (hkG hg (hkS HB)) (hkA (hkG hg (hkS HB)) (hkA (hkN hg BK670) (hkA (hkM hg BK670) (hkA (hkN hg BK690) (hkA (hkM hg BK690) (hkA (hkN hg BK691) (hkM hg BK691)))))))))))); clear BK670 BK690 BK691 HB; obtain ⟨BK670, BK690, BK691, HB, BK707, GW707, GE707, NB670_707, NB707_670, NB690_707, NB707_690, NB691_707, NB707_691⟩ := n_; clear hb hbox hg; have hnb93 := NB707_670.out; have hnc93 := NB670_707.out; have hnb94 := NB707_690.out; have hnc94 := NB690_707.out; have hnb95 := NB707_691.out; have hnc95 := NB691_707.out; obtain ⟨hcz96_0, hfz96_0, hcz96_1, hfz96_1, hcz96_2, hfz96_2, hcz96_3, hfz96_3⟩ := hkc4 BK707))
                 go_ret
                 exact ⟨hkE, hkS HB⟩
               ·rw [if_neg c79] at H
                have c79b0 : (t706 == (decide (t701 < 4294967296))) = false := by simpa using c79
                (try (have c79b1 : decide (t706 = (decide (t701 < 4294967296))) = false := by simpa using c79))
                (try (have c79b2 : (t706 == (decide (t701 < 4294967296))) = false := by simpa using c79))
                (try (have c79b3 : ¬ (t706 = (decide (t701 < 4294967296))) := by simpa using c79))
                clear c79
                exact absurd (Option.some.inj H) (by decide)
              ·rw [if_neg c78] at H
               have c78b0 : decide (t700 < 4294967296) = false := decide_eq_false c78
               clear c78
               by_cases c104 : (t706 == false) = true
               ·rw [if_pos c104] at H
                have c104b0 : (t706 == false) = true := c104
                (try (have c104b1 : decide (t706 = false) = true := by simpa using c104))
                (try (have c104b2 : (t706 == false) = true := by simpa using c104))
                clear c104
                by_cases c105 : t706 = true
                ·subst c105
                 have H1 : ((spec_FlOk.f kj62 t702 t703 t704 t705).bind fun t709 => (some t709)) = some true := by rw [if_pos rfl] at H; exact H
                 clear H
                 have H := H1
                 clear H1
                 replace H := hBi H
                 obtain ⟨t709, A1060, H⟩ := H
                 replace H : (some t709) = some true := H
                 have A106 := Aside0.mk A1060
                 clear A1060
                 have hr_ := Option.some.inj H
                 clear H
                 go_wp2_with (first | ((with_reducible refine gate_callee (f := 42) rfl ?_); refine hkGo (N := some 107) Try.func42 #[.slice A0 l0.length c0] ?_; (with_reducible refine (spec_DrawFlUnpack.calls kj62 _ _ l0 t700 t701 _ ?side1 ?side2 A74.out).mono ?_); (case side1 => exact hkC ((Kd.C_below HR0.out HB.out))); (case side2 => exact HC0.out); rintro e w107 ⟨rfl, hb⟩; refine ⟨_, rfl, ?_⟩; have n_ := hkA (hkBb BK670 hb) (hkA (hkBb BK690 hb) (hkA (hkBb BK691 hb) (hkU HB hb))); clear BK670 BK690 BK691 HB; obtain ⟨BK670, BK690, BK691, HB⟩ := n_; (try clear hb)) | ((with_reducible refine gate_callee (f := 40) rfl ?_); refine hkGo (N := some 113) Try.func40 #[.int .i64 t700, .int .i64 t701] ?_; (with_reducible refine (impl_FlUnpack.calls kj62 t700 t701 t702 t703 t704 t705 true _ A75.out).mono ?_); rintro e w108 ⟨rfl, hb⟩; refine ⟨_, rfl, ?_⟩; have n_ := hkA (hkBb BK670 hb) (hkA (hkBb BK690 hb) (hkA (hkBb BK691 hb) (hkU HB hb))); clear BK670 BK690 BK691 HB; obtain ⟨BK670, BK690, BK691, HB⟩ := n_; (try clear hb)) | ((with_reducible refine gate_dst (N := 21) rfl ?_); refine hkBox (N := 21) (cs := #[.int .i64 0, .bool false, .int .i64 0, .int .i64 0]) (t := 26) ?_; intro gb707 hg w109 hbox hb; have n_ := hkA (hkBb BK670 hb) (hkA (hkBb BK690 hb) (hkA (hkBb BK691 hb) (hkA (hkU HB hb) (hkA (Aside0.mk (hbox)) (hkA (hkG hg (hkS HB)) (hkA (hkG hg (hkS HB)) (hkA (hkN hg BK670) (hkA (hkM hg BK670) (hkA (hkN hg BK690) (hkA (hkM hg BK690) (hkA (hkN hg BK691) (hkM hg BK691)))))))))))); clear BK670 BK690 BK691 HB; obtain ⟨BK670, BK690, BK691, HB, BK707, GW707, GE707, NB670_707, NB707_670, NB690_707, NB707_690, NB691_707, NB707_691⟩ := n_; clear hb hbox hg; have hnb110 := NB707_670.out; have hnc110 := NB670_707.out; have hnb111 := NB707_690.out; have hnc111 := NB690_707.out; have hnb112 := NB707_691.out; have hnc112 := NB691_707.out; obtain ⟨hcz113_0, hfz113_0, hcz113_1, hfz113_1, hcz113_2, hfz113_2, hcz113_3, hfz113_3⟩ := hkc4 BK707) | (go_at_call 38; (with_reducible refine (spec_FlOk.calls kj62 t702 t703 t704 t705 t709 _ A106.out).mono ?_); rintro e w114 ⟨rfl, hb⟩; have n_ := hkA (Aside0.mk (blk_below (g := gb670) (o := .cells #[.int .i64 t666, .bool t667, .int .i64 t668, .int .i64 t669] 26 (0, 0)) hkPp hb)) (hkA (Aside0.mk (blk_below (g := gb690) (o := .cells #[.int .i64 t682, .bool t683, .int .i64 t684, .int .i64 t685] 26 (0, 0)) hkPp hb)) (hkA (Aside0.mk (blk_below (g := gb691) (o := .cells #[.int .i64 t686, .bool t687, .int .i64 t688, .int .i64 t689] 26 (0, 0)) hkPp hb)) (hkA (Aside0.mk (blk_below (g := gb707) (o := .cells #[.int .i64 t702, .bool t703, .int .i64 t704, .int .i64 t705] 26 (0, 0)) hkPp hb)) (hkU HB hb)))); clear BK670 BK690 BK691 BK707 HB; obtain ⟨BK670, BK690, BK691, BK707, HB⟩ := n_; (try clear hb)))
                 go_ret
                 exact ⟨by first | rfl | (rw [hr_]; done) | (simp [errW_none, errW_some] <;> rfl) | (simp [*, errW_none, errW_some] <;> rfl), hkS HB⟩
                ·replace c105 := Bool.eq_false_iff.mpr c105
                 subst c105
                 have H1 : (some true) = some true := rfl
                 clear H
                 have H := H1
                 clear H1
                 clear H
                 go_wp2_with (first | ((with_reducible refine gate_callee (f := 42) rfl ?_); refine hkGo (N := some 107) Try.func42 #[.slice A0 l0.length c0] ?_; (with_reducible refine (spec_DrawFlUnpack.calls kj62 _ _ l0 t700 t701 _ ?side1 ?side2 A74.out).mono ?_); (case side1 => exact hkC ((Kd.C_below HR0.out HB.out))); (case side2 => exact HC0.out); rintro e w115 ⟨rfl, hb⟩; refine ⟨_, rfl, ?_⟩; have n_ := hkA (hkBb BK670 hb) (hkA (hkBb BK690 hb) (hkA (hkBb BK691 hb) (hkU HB hb))); clear BK670 BK690 BK691 HB; obtain ⟨BK670, BK690, BK691, HB⟩ := n_; (try clear hb)) | ((with_reducible refine gate_callee (f := 40) rfl ?_); refine hkGo (N := some 113) Try.func40 #[.int .i64 t700, .int .i64 t701] ?_; (with_reducible refine (impl_FlUnpack.calls kj62 t700 t701 t702 t703 t704 t705 false _ A75.out).mono ?_); rintro e w116 ⟨rfl, hb⟩; refine ⟨_, rfl, ?_⟩; have n_ := hkA (hkBb BK670 hb) (hkA (hkBb BK690 hb) (hkA (hkBb BK691 hb) (hkU HB hb))); clear BK670 BK690 BK691 HB; obtain ⟨BK670, BK690, BK691, HB⟩ := n_; (try clear hb)) | ((with_reducible refine gate_dst (N := 21) rfl ?_); refine hkBox (N := 21) (cs := #[.int .i64 0, .bool false, .int .i64 0, .int .i64 0]) (t := 26) ?_; intro gb707 hg w117 hbox hb; have n_ := hkA (hkBb BK670 hb) (hkA (hkBb BK690 hb) (hkA (hkBb BK691 hb) (hkA (hkU HB hb) (hkA (Aside0.mk (hbox)) (hkA (hkG hg (hkS HB)) (hkA (hkG hg (hkS HB)) (hkA (hkN hg BK670) (hkA (hkM hg BK670) (hkA (hkN hg BK690) (hkA (hkM hg BK690) (hkA (hkN hg BK691) (hkM hg BK691)))))))))))); clear BK670 BK690 BK691 HB; obtain ⟨BK670, BK690, BK691, HB, BK707, GW707, GE707, NB670_707, NB707_670, NB690_707, NB707_690, NB691_707, NB707_691⟩ := n_; clear hb hbox hg; have hnb118 := NB707_670.out; have hnc118 := NB670_707.out; have hnb119 := NB707_690.out; have hnc119 := NB690_707.out; have hnb120 := NB707_691.out; have hnc120 := NB691_707.out; obtain ⟨hcz121_0, hfz121_0, hcz121_1, hfz121_1, hcz121_2, hfz121_2, hcz121_3, hfz121_3⟩ := hkc4 BK707))
                 go_ret
                 exact ⟨hkE, hkS HB⟩
               ·rw [if_neg c104] at H
                have c104b0 : (t706 == false) = false := by simpa using c104
                (try (have c104b1 : decide (t706 = false) = false := by simpa using c104))
                (try (have c104b2 : (t706 == false) = false := by simpa using c104))
                (try (have c104b3 : ¬ (t706 = false) := by simpa using c104))
                clear c104
                exact absurd (Option.some.inj H) (by decide)
             ·rw [if_neg c77] at H
              have c77b0 : decide (0 ≤ t701) = false := decide_eq_false c77
              clear c77
              by_cases c129 : (t706 == false) = true
              ·rw [if_pos c129] at H
               have c129b0 : (t706 == false) = true := c129
               (try (have c129b1 : decide (t706 = false) = true := by simpa using c129))
               (try (have c129b2 : (t706 == false) = true := by simpa using c129))
               clear c129
               by_cases c130 : t706 = true
               ·subst c130
                have H1 : ((spec_FlOk.f kj62 t702 t703 t704 t705).bind fun t710 => (some t710)) = some true := by rw [if_pos rfl] at H; exact H
                clear H
                have H := H1
                clear H1
                replace H := hBi H
                obtain ⟨t710, A1310, H⟩ := H
                replace H : (some t710) = some true := H
                have A131 := Aside0.mk A1310
                clear A1310
                have hr_ := Option.some.inj H
                clear H
                go_wp2_with (first | ((with_reducible refine gate_callee (f := 42) rfl ?_); refine hkGo (N := some 107) Try.func42 #[.slice A0 l0.length c0] ?_; (with_reducible refine (spec_DrawFlUnpack.calls kj62 _ _ l0 t700 t701 _ ?side1 ?side2 A74.out).mono ?_); (case side1 => exact hkC ((Kd.C_below HR0.out HB.out))); (case side2 => exact HC0.out); rintro e w132 ⟨rfl, hb⟩; refine ⟨_, rfl, ?_⟩; have n_ := hkA (hkBb BK670 hb) (hkA (hkBb BK690 hb) (hkA (hkBb BK691 hb) (hkU HB hb))); clear BK670 BK690 BK691 HB; obtain ⟨BK670, BK690, BK691, HB⟩ := n_; (try clear hb)) | ((with_reducible refine gate_callee (f := 40) rfl ?_); refine hkGo (N := some 113) Try.func40 #[.int .i64 t700, .int .i64 t701] ?_; (with_reducible refine (impl_FlUnpack.calls kj62 t700 t701 t702 t703 t704 t705 true _ A75.out).mono ?_); rintro e w133 ⟨rfl, hb⟩; refine ⟨_, rfl, ?_⟩; have n_ := hkA (hkBb BK670 hb) (hkA (hkBb BK690 hb) (hkA (hkBb BK691 hb) (hkU HB hb))); clear BK670 BK690 BK691 HB; obtain ⟨BK670, BK690, BK691, HB⟩ := n_; (try clear hb)) | ((with_reducible refine gate_dst (N := 21) rfl ?_); refine hkBox (N := 21) (cs := #[.int .i64 0, .bool false, .int .i64 0, .int .i64 0]) (t := 26) ?_; intro gb707 hg w134 hbox hb; have n_ := hkA (hkBb BK670 hb) (hkA (hkBb BK690 hb) (hkA (hkBb BK691 hb) (hkA (hkU HB hb) (hkA (Aside0.mk (hbox)) (hkA (hkG hg (hkS HB)) (hkA (hkG hg (hkS HB)) (hkA (hkN hg BK670) (hkA (hkM hg BK670) (hkA (hkN hg BK690) (hkA (hkM hg BK690) (hkA (hkN hg BK691) (hkM hg BK691)))))))))))); clear BK670 BK690 BK691 HB; obtain ⟨BK670, BK690, BK691, HB, BK707, GW707, GE707, NB670_707, NB707_670, NB690_707, NB707_690, NB691_707, NB707_691⟩ := n_; clear hb hbox hg; have hnb135 := NB707_670.out; have hnc135 := NB670_707.out; have hnb136 := NB707_690.out; have hnc136 := NB690_707.out; have hnb137 := NB707_691.out; have hnc137 := NB691_707.out; obtain ⟨hcz138_0, hfz138_0, hcz138_1, hfz138_1, hcz138_2, hfz138_2, hcz138_3, hfz138_3⟩ := hkc4 BK707) | (go_at_call 38; (with_reducible refine (spec_FlOk.calls kj62 t702 t703 t704 t705 t710 _ A131.out).mono ?_); rintro e w139 ⟨rfl, hb⟩; have n_ := hkA (Aside0.mk (blk_below (g := gb670) (o := .cells #[.int .i64 t666, .bool t667, .int .i64 t668, .int .i64 t669] 26 (0, 0)) hkPp hb)) (hkA (Aside0.mk (blk_below (g := gb690) (o := .cells #[.int .i64 t682, .bool t683, .int .i64 t684, .int .i64 t685] 26 (0, 0)) hkPp hb)) (hkA (Aside0.mk (blk_below (g := gb691) (o := .cells #[.int .i64 t686, .bool t687, .int .i64 t688, .int .i64 t689] 26 (0, 0)) hkPp hb)) (hkA (Aside0.mk (blk_below (g := gb707) (o := .cells #[.int .i64 t702, .bool t703, .int .i64 t704, .int .i64 t705] 26 (0, 0)) hkPp hb)) (hkU HB hb)))); clear BK670 BK690 BK691 BK707 HB; obtain ⟨BK670, BK690, BK691, BK707, HB⟩ := n_; (try clear hb)))
                go_ret
                exact ⟨by first | rfl | (rw [hr_]; done) | (simp [errW_none, errW_some] <;> rfl) | (simp [*, errW_none, errW_some] <;> rfl), hkS HB⟩
               ·replace c130 := Bool.eq_false_iff.mpr c130
                subst c130
                have H1 : (some true) = some true := rfl
                clear H
                have H := H1
                clear H1
                clear H
                go_wp2_with (first | ((with_reducible refine gate_callee (f := 42) rfl ?_); refine hkGo (N := some 107) Try.func42 #[.slice A0 l0.length c0] ?_; (with_reducible refine (spec_DrawFlUnpack.calls kj62 _ _ l0 t700 t701 _ ?side1 ?side2 A74.out).mono ?_); (case side1 => exact hkC ((Kd.C_below HR0.out HB.out))); (case side2 => exact HC0.out); rintro e w140 ⟨rfl, hb⟩; refine ⟨_, rfl, ?_⟩; have n_ := hkA (hkBb BK670 hb) (hkA (hkBb BK690 hb) (hkA (hkBb BK691 hb) (hkU HB hb))); clear BK670 BK690 BK691 HB; obtain ⟨BK670, BK690, BK691, HB⟩ := n_; (try clear hb)) | ((with_reducible refine gate_callee (f := 40) rfl ?_); refine hkGo (N := some 113) Try.func40 #[.int .i64 t700, .int .i64 t701] ?_; (with_reducible refine (impl_FlUnpack.calls kj62 t700 t701 t702 t703 t704 t705 false _ A75.out).mono ?_); rintro e w141 ⟨rfl, hb⟩; refine ⟨_, rfl, ?_⟩; have n_ := hkA (hkBb BK670 hb) (hkA (hkBb BK690 hb) (hkA (hkBb BK691 hb) (hkU HB hb))); clear BK670 BK690 BK691 HB; obtain ⟨BK670, BK690, BK691, HB⟩ := n_; (try clear hb)) | ((with_reducible refine gate_dst (N := 21) rfl ?_); refine hkBox (N := 21) (cs := #[.int .i64 0, .bool false, .int .i64 0, .int .i64 0]) (t := 26) ?_; intro gb707 hg w142 hbox hb; have n_ := hkA (hkBb BK670 hb) (hkA (hkBb BK690 hb) (hkA (hkBb BK691 hb) (hkA (hkU HB hb) (hkA (Aside0.mk (hbox)) (hkA (hkG hg (hkS HB)) (hkA (hkG hg (hkS HB)) (hkA (hkN hg BK670) (hkA (hkM hg BK670) (hkA (hkN hg BK690) (hkA (hkM hg BK690) (hkA (hkN hg BK691) (hkM hg BK691)))))))))))); clear BK670 BK690 BK691 HB; obtain ⟨BK670, BK690, BK691, HB, BK707, GW707, GE707, NB670_707, NB707_670, NB690_707, NB707_690, NB691_707, NB707_691⟩ := n_; clear hb hbox hg; have hnb143 := NB707_670.out; have hnc143 := NB670_707.out; have hnb144 := NB707_690.out; have hnc144 := NB690_707.out; have hnb145 := NB707_691.out; have hnc145 := NB691_707.out; obtain ⟨hcz146_0, hfz146_0, hcz146_1, hfz146_1, hcz146_2, hfz146_2, hcz146_3, hfz146_3⟩ := hkc4 BK707))
                go_ret
                exact ⟨hkE, hkS HB⟩
              ·rw [if_neg c129] at H
               have c129b0 : (t706 == false) = false := by simpa using c129
               (try (have c129b1 : decide (t706 = false) = false := by simpa using c129))
               (try (have c129b2 : (t706 == false) = false := by simpa using c129))
               (try (have c129b3 : ¬ (t706 = false) := by simpa using c129))
               clear c129
               exact absurd (Option.some.inj H) (by decide)
            ·rw [if_neg c76] at H
             have c76b0 : decide (0 ≤ t700) = false := decide_eq_false c76
             clear c76
             by_cases c154 : (t706 == false) = true
             ·rw [if_pos c154] at H
              have c154b0 : (t706 == false) = true := c154
              (try (have c154b1 : decide (t706 = false) = true := by simpa using c154))
              (try (have c154b2 : (t706 == false) = true := by simpa using c154))
              clear c154
              by_cases c155 : t706 = true
              ·subst c155
               have H1 : ((spec_FlOk.f kj62 t702 t703 t704 t705).bind fun t711 => (some t711)) = some true := by rw [if_pos rfl] at H; exact H
               clear H
               have H := H1
               clear H1
               replace H := hBi H
               obtain ⟨t711, A1560, H⟩ := H
               replace H : (some t711) = some true := H
               have A156 := Aside0.mk A1560
               clear A1560
               have hr_ := Option.some.inj H
               clear H
               go_wp2_with (first | ((with_reducible refine gate_callee (f := 42) rfl ?_); refine hkGo (N := some 107) Try.func42 #[.slice A0 l0.length c0] ?_; (with_reducible refine (spec_DrawFlUnpack.calls kj62 _ _ l0 t700 t701 _ ?side1 ?side2 A74.out).mono ?_); (case side1 => exact hkC ((Kd.C_below HR0.out HB.out))); (case side2 => exact HC0.out); rintro e w157 ⟨rfl, hb⟩; refine ⟨_, rfl, ?_⟩; have n_ := hkA (hkBb BK670 hb) (hkA (hkBb BK690 hb) (hkA (hkBb BK691 hb) (hkU HB hb))); clear BK670 BK690 BK691 HB; obtain ⟨BK670, BK690, BK691, HB⟩ := n_; (try clear hb)) | ((with_reducible refine gate_callee (f := 40) rfl ?_); refine hkGo (N := some 113) Try.func40 #[.int .i64 t700, .int .i64 t701] ?_; (with_reducible refine (impl_FlUnpack.calls kj62 t700 t701 t702 t703 t704 t705 true _ A75.out).mono ?_); rintro e w158 ⟨rfl, hb⟩; refine ⟨_, rfl, ?_⟩; have n_ := hkA (hkBb BK670 hb) (hkA (hkBb BK690 hb) (hkA (hkBb BK691 hb) (hkU HB hb))); clear BK670 BK690 BK691 HB; obtain ⟨BK670, BK690, BK691, HB⟩ := n_; (try clear hb)) | ((with_reducible refine gate_dst (N := 21) rfl ?_); refine hkBox (N := 21) (cs := #[.int .i64 0, .bool false, .int .i64 0, .int .i64 0]) (t := 26) ?_; intro gb707 hg w159 hbox hb; have n_ := hkA (hkBb BK670 hb) (hkA (hkBb BK690 hb) (hkA (hkBb BK691 hb) (hkA (hkU HB hb) (hkA (Aside0.mk (hbox)) (hkA (hkG hg (hkS HB)) (hkA (hkG hg (hkS HB)) (hkA (hkN hg BK670) (hkA (hkM hg BK670) (hkA (hkN hg BK690) (hkA (hkM hg BK690) (hkA (hkN hg BK691) (hkM hg BK691)))))))))))); clear BK670 BK690 BK691 HB; obtain ⟨BK670, BK690, BK691, HB, BK707, GW707, GE707, NB670_707, NB707_670, NB690_707, NB707_690, NB691_707, NB707_691⟩ := n_; clear hb hbox hg; have hnb160 := NB707_670.out; have hnc160 := NB670_707.out; have hnb161 := NB707_690.out; have hnc161 := NB690_707.out; have hnb162 := NB707_691.out; have hnc162 := NB691_707.out; obtain ⟨hcz163_0, hfz163_0, hcz163_1, hfz163_1, hcz163_2, hfz163_2, hcz163_3, hfz163_3⟩ := hkc4 BK707) | (go_at_call 38; (with_reducible refine (spec_FlOk.calls kj62 t702 t703 t704 t705 t711 _ A156.out).mono ?_); rintro e w164 ⟨rfl, hb⟩; have n_ := hkA (Aside0.mk (blk_below (g := gb670) (o := .cells #[.int .i64 t666, .bool t667, .int .i64 t668, .int .i64 t669] 26 (0, 0)) hkPp hb)) (hkA (Aside0.mk (blk_below (g := gb690) (o := .cells #[.int .i64 t682, .bool t683, .int .i64 t684, .int .i64 t685] 26 (0, 0)) hkPp hb)) (hkA (Aside0.mk (blk_below (g := gb691) (o := .cells #[.int .i64 t686, .bool t687, .int .i64 t688, .int .i64 t689] 26 (0, 0)) hkPp hb)) (hkA (Aside0.mk (blk_below (g := gb707) (o := .cells #[.int .i64 t702, .bool t703, .int .i64 t704, .int .i64 t705] 26 (0, 0)) hkPp hb)) (hkU HB hb)))); clear BK670 BK690 BK691 BK707 HB; obtain ⟨BK670, BK690, BK691, BK707, HB⟩ := n_; (try clear hb)))
               go_ret
               exact ⟨by first | rfl | (rw [hr_]; done) | (simp [errW_none, errW_some] <;> rfl) | (simp [*, errW_none, errW_some] <;> rfl), hkS HB⟩
              ·replace c155 := Bool.eq_false_iff.mpr c155
               subst c155
               have H1 : (some true) = some true := rfl
               clear H
               have H := H1
               clear H1
               clear H
               go_wp2_with (first | ((with_reducible refine gate_callee (f := 42) rfl ?_); refine hkGo (N := some 107) Try.func42 #[.slice A0 l0.length c0] ?_; (with_reducible refine (spec_DrawFlUnpack.calls kj62 _ _ l0 t700 t701 _ ?side1 ?side2 A74.out).mono ?_); (case side1 => exact hkC ((Kd.C_below HR0.out HB.out))); (case side2 => exact HC0.out); rintro e w165 ⟨rfl, hb⟩; refine ⟨_, rfl, ?_⟩; have n_ := hkA (hkBb BK670 hb) (hkA (hkBb BK690 hb) (hkA (hkBb BK691 hb) (hkU HB hb))); clear BK670 BK690 BK691 HB; obtain ⟨BK670, BK690, BK691, HB⟩ := n_; (try clear hb)) | ((with_reducible refine gate_callee (f := 40) rfl ?_); refine hkGo (N := some 113) Try.func40 #[.int .i64 t700, .int .i64 t701] ?_; (with_reducible refine (impl_FlUnpack.calls kj62 t700 t701 t702 t703 t704 t705 false _ A75.out).mono ?_); rintro e w166 ⟨rfl, hb⟩; refine ⟨_, rfl, ?_⟩; have n_ := hkA (hkBb BK670 hb) (hkA (hkBb BK690 hb) (hkA (hkBb BK691 hb) (hkU HB hb))); clear BK670 BK690 BK691 HB; obtain ⟨BK670, BK690, BK691, HB⟩ := n_; (try clear hb)) | ((with_reducible refine gate_dst (N := 21) rfl ?_); refine hkBox (N := 21) (cs := #[.int .i64 0, .bool false, .int .i64 0, .int .i64 0]) (t := 26) ?_; intro gb707 hg w167 hbox hb; have n_ := hkA (hkBb BK670 hb) (hkA (hkBb BK690 hb) (hkA (hkBb BK691 hb) (hkA (hkU HB hb) (hkA (Aside0.mk (hbox)) (hkA (hkG hg (hkS HB)) (hkA (hkG hg (hkS HB)) (hkA (hkN hg BK670) (hkA (hkM hg BK670) (hkA (hkN hg BK690) (hkA (hkM hg BK690) (hkA (hkN hg BK691) (hkM hg BK691)))))))))))); clear BK670 BK690 BK691 HB; obtain ⟨BK670, BK690, BK691, HB, BK707, GW707, GE707, NB670_707, NB707_670, NB690_707, NB707_690, NB691_707, NB707_691⟩ := n_; clear hb hbox hg; have hnb168 := NB707_670.out; have hnc168 := NB670_707.out; have hnb169 := NB707_690.out; have hnc169 := NB690_707.out; have hnb170 := NB707_691.out; have hnc170 := NB691_707.out; obtain ⟨hcz171_0, hfz171_0, hcz171_1, hfz171_1, hcz171_2, hfz171_2, hcz171_3, hfz171_3⟩ := hkc4 BK707))
               go_ret
               exact ⟨hkE, hkS HB⟩
             ·rw [if_neg c154] at H
              have c154b0 : (t706 == false) = false := by simpa using c154
              (try (have c154b1 : decide (t706 = false) = false := by simpa using c154))
              (try (have c154b2 : (t706 == false) = false := by simpa using c154))
              (try (have c154b3 : ¬ (t706 = false) := by simpa using c154))
              clear c154
              exact absurd (Option.some.inj H) (by decide)
        ·replace c60 := Bool.eq_false_iff.mpr c60
         subst c60
         have H1 : ((spec_DrawFlUnpack.f kj39 l0).bind fun bt712 => ((impl_FlUnpack.f kj39 bt712.1 bt712.2).bind fun bt714 => (if bt712.1 ≥ 0 then (if bt712.2 ≥ 0 then (if bt712.1 < 4294967296 then (if (bt714.2.2.2.2 == (decide (bt712.2 < 4294967296))) = true then (if bt714.2.2.2.2 = true then ((spec_FlOk.f kj39 bt714.1 bt714.2.1 bt714.2.2.1 bt714.2.2.2.1).bind fun t720 => (some t720)) else (some true)) else (some false)) else (if (bt714.2.2.2.2 == false) = true then (if bt714.2.2.2.2 = true then ((spec_FlOk.f kj39 bt714.1 bt714.2.1 bt714.2.2.1 bt714.2.2.2.1).bind fun t721 => (some t721)) else (some true)) else (some false))) else (if (bt714.2.2.2.2 == false) = true then (if bt714.2.2.2.2 = true then ((spec_FlOk.f kj39 bt714.1 bt714.2.1 bt714.2.2.1 bt714.2.2.2.1).bind fun t722 => (some t722)) else (some true)) else (some false))) else (if (bt714.2.2.2.2 == false) = true then (if bt714.2.2.2.2 = true then ((spec_FlOk.f kj39 bt714.1 bt714.2.1 bt714.2.2.1 bt714.2.2.2.1).bind fun t723 => (some t723)) else (some true)) else (some false))))) = some true := by rw [if_neg (show ¬ (false = true) by decide)] at H; exact H
         clear H
         have H := H1
         clear H1
         replace H := hBi H
         obtain ⟨⟨t712, t713⟩, A1790, H⟩ := H
         replace H : ((impl_FlUnpack.f kj39 t712 t713).bind fun bt714 => (if t712 ≥ 0 then (if t713 ≥ 0 then (if t712 < 4294967296 then (if (bt714.2.2.2.2 == (decide (t713 < 4294967296))) = true then (if bt714.2.2.2.2 = true then ((spec_FlOk.f kj39 bt714.1 bt714.2.1 bt714.2.2.1 bt714.2.2.2.1).bind fun t720 => (some t720)) else (some true)) else (some false)) else (if (bt714.2.2.2.2 == false) = true then (if bt714.2.2.2.2 = true then ((spec_FlOk.f kj39 bt714.1 bt714.2.1 bt714.2.2.1 bt714.2.2.2.1).bind fun t721 => (some t721)) else (some true)) else (some false))) else (if (bt714.2.2.2.2 == false) = true then (if bt714.2.2.2.2 = true then ((spec_FlOk.f kj39 bt714.1 bt714.2.1 bt714.2.2.1 bt714.2.2.2.1).bind fun t722 => (some t722)) else (some true)) else (some false))) else (if (bt714.2.2.2.2 == false) = true then (if bt714.2.2.2.2 = true then ((spec_FlOk.f kj39 bt714.1 bt714.2.1 bt714.2.2.1 bt714.2.2.2.1).bind fun t723 => (some t723)) else (some true)) else (some false)))) = some true := H
         have A179 := Aside0.mk A1790
         clear A1790
         replace H := hBi H
         obtain ⟨⟨t714, t715, t716, t717, t718⟩, A1800, H⟩ := H
         replace H : (if t712 ≥ 0 then (if t713 ≥ 0 then (if t712 < 4294967296 then (if (t718 == (decide (t713 < 4294967296))) = true then (if t718 = true then ((spec_FlOk.f kj39 t714 t715 t716 t717).bind fun t720 => (some t720)) else (some true)) else (some false)) else (if (t718 == false) = true then (if t718 = true then ((spec_FlOk.f kj39 t714 t715 t716 t717).bind fun t721 => (some t721)) else (some true)) else (some false))) else (if (t718 == false) = true then (if t718 = true then ((spec_FlOk.f kj39 t714 t715 t716 t717).bind fun t722 => (some t722)) else (some true)) else (some false))) else (if (t718 == false) = true then (if t718 = true then ((spec_FlOk.f kj39 t714 t715 t716 t717).bind fun t723 => (some t723)) else (some true)) else (some false))) = some true := H
         have A180 := Aside0.mk A1800
         clear A1800
         by_cases c181 : t712 ≥ 0
         ·rw [if_pos c181] at H
          have c181b0 : decide (0 ≤ t712) = true := decide_eq_true c181
          clear c181
          by_cases c182 : t713 ≥ 0
          ·rw [if_pos c182] at H
           have c182b0 : decide (0 ≤ t713) = true := decide_eq_true c182
           clear c182
           by_cases c183 : t712 < 4294967296
           ·rw [if_pos c183] at H
            have c183b0 : decide (t712 < 4294967296) = true := decide_eq_true c183
            clear c183
            by_cases c184 : (t718 == (decide (t713 < 4294967296))) = true
            ·rw [if_pos c184] at H
             have c184b0 : (t718 == (decide (t713 < 4294967296))) = true := c184
             (try (have c184b1 : decide (t718 = (decide (t713 < 4294967296))) = true := by simpa using c184))
             (try (have c184b2 : (t718 == (decide (t713 < 4294967296))) = true := by simpa using c184))
             clear c184
             by_cases c185 : t718 = true
             ·subst c185
              have H1 : ((spec_FlOk.f kj39 t714 t715 t716 t717).bind fun t720 => (some t720)) = some true := by rw [if_pos rfl] at H; exact H
              clear H
              have H := H1
              clear H1
              replace H := hBi H
              obtain ⟨t720, A1860, H⟩ := H
              replace H : (some t720) = some true := H
              have A186 := Aside0.mk A1860
              clear A1860
              have hr_ := Option.some.inj H
              clear H
              go_wp2_with (first | ((with_reducible refine gate_callee (f := 42) rfl ?_); refine hkGo (N := some 107) Try.func42 #[.slice A0 l0.length c0] ?_; (with_reducible refine (spec_DrawFlUnpack.calls kj39 _ _ l0 t712 t713 _ ?side1 ?side2 A179.out).mono ?_); (case side1 => exact hkC ((Kd.C_below HR0.out HB.out))); (case side2 => exact HC0.out); rintro e w187 ⟨rfl, hb⟩; refine ⟨_, rfl, ?_⟩; have n_ := hkA (hkBb BK670 hb) (hkA (hkBb BK690 hb) (hkA (hkBb BK691 hb) (hkU HB hb))); clear BK670 BK690 BK691 HB; obtain ⟨BK670, BK690, BK691, HB⟩ := n_; (try clear hb)) | ((with_reducible refine gate_callee (f := 40) rfl ?_); refine hkGo (N := some 113) Try.func40 #[.int .i64 t712, .int .i64 t713] ?_; (with_reducible refine (impl_FlUnpack.calls kj39 t712 t713 t714 t715 t716 t717 true _ A180.out).mono ?_); rintro e w188 ⟨rfl, hb⟩; refine ⟨_, rfl, ?_⟩; have n_ := hkA (hkBb BK670 hb) (hkA (hkBb BK690 hb) (hkA (hkBb BK691 hb) (hkU HB hb))); clear BK670 BK690 BK691 HB; obtain ⟨BK670, BK690, BK691, HB⟩ := n_; (try clear hb)) | ((with_reducible refine gate_dst (N := 21) rfl ?_); refine hkBox (N := 21) (cs := #[.int .i64 0, .bool false, .int .i64 0, .int .i64 0]) (t := 26) ?_; intro gb719 hg w189 hbox hb; have n_ := hkA (hkBb BK670 hb) (hkA (hkBb BK690 hb) (hkA (hkBb BK691 hb) (hkA (hkU HB hb) (hkA (Aside0.mk (hbox)) (hkA (hkG hg (hkS HB)) (hkA (hkG hg (hkS HB)) (hkA (hkN hg BK670) (hkA (hkM hg BK670) (hkA (hkN hg BK690) (hkA (hkM hg BK690) (hkA (hkN hg BK691) (hkM hg BK691)))))))))))); clear BK670 BK690 BK691 HB; obtain ⟨BK670, BK690, BK691, HB, BK719, GW719, GE719, NB670_719, NB719_670, NB690_719, NB719_690, NB691_719, NB719_691⟩ := n_; clear hb hbox hg; have hnb190 := NB719_670.out; have hnc190 := NB670_719.out; have hnb191 := NB719_690.out; have hnc191 := NB690_719.out; have hnb192 := NB719_691.out; have hnc192 := NB691_719.out; obtain ⟨hcz193_0, hfz193_0, hcz193_1, hfz193_1, hcz193_2, hfz193_2, hcz193_3, hfz193_3⟩ := hkc4 BK719) | (go_at_call 38; (with_reducible refine (spec_FlOk.calls kj39 t714 t715 t716 t717 t720 _ A186.out).mono ?_); rintro e w194 ⟨rfl, hb⟩; have n_ := hkA (Aside0.mk (blk_below (g := gb670) (o := .cells #[.int .i64 t666, .bool t667, .int .i64 t668, .int .i64 t669] 26 (0, 0)) hkPp hb)) (hkA (Aside0.mk (blk_below (g := gb690) (o := .cells #[.int .i64 t682, .bool t683, .int .i64 t684, .int .i64 t685] 26 (0, 0)) hkPp hb)) (hkA (Aside0.mk (blk_below (g := gb691) (o := .cells #[.int .i64 t686, .bool t687, .int .i64 t688, .int .i64 t689] 26 (0, 0)) hkPp hb)) (hkA (Aside0.mk (blk_below (g := gb719) (o := .cells #[.int .i64 t714, .bool t715, .int .i64 t716, .int .i64 t717] 26 (0, 0)) hkPp hb)) (hkU HB hb)))); clear BK670 BK690 BK691 BK719 HB; obtain ⟨BK670, BK690, BK691, BK719, HB⟩ := n_; (try clear hb)))
              go_ret
              exact ⟨by first | rfl | (rw [hr_]; done) | (simp [errW_none, errW_some] <;> rfl) | (simp [*, errW_none, errW_some] <;> rfl), hkS HB⟩
             ·replace c185 := Bool.eq_false_iff.mpr c185
              subst c185
              have H1 : (some true) = some true := rfl
              clear H
              have H := H1
              clear H1
              clear H
              go_wp2_with (first | ((with_reducible refine gate_callee (f := 42) rfl ?_); refine hkGo (N := some 107) Try.func42 #[.slice A0 l0.length c0] ?_; (with_reducible refine (spec_DrawFlUnpack.calls kj39 _ _ l0 t712 t713 _ ?side1 ?side2 A179.out).mono ?_); (case side1 => exact hkC ((Kd.C_below HR0.out HB.out))); (case side2 => exact HC0.out); rintro e w195 ⟨rfl, hb⟩; refine ⟨_, rfl, ?_⟩; have n_ := hkA (hkBb BK670 hb) (hkA (hkBb BK690 hb) (hkA (hkBb BK691 hb) (hkU HB hb))); clear BK670 BK690 BK691 HB; obtain ⟨BK670, BK690, BK691, HB⟩ := n_; (try clear hb)) | ((with_reducible refine gate_callee (f := 40) rfl ?_); refine hkGo (N := some 113) Try.func40 #[.int .i64 t712, .int .i64 t713] ?_; (with_reducible refine (impl_FlUnpack.calls kj39 t712 t713 t714 t715 t716 t717 false _ A180.out).mono ?_); rintro e w196 ⟨rfl, hb⟩; refine ⟨_, rfl, ?_⟩; have n_ := hkA (hkBb BK670 hb) (hkA (hkBb BK690 hb) (hkA (hkBb BK691 hb) (hkU HB hb))); clear BK670 BK690 BK691 HB; obtain ⟨BK670, BK690, BK691, HB⟩ := n_; (try clear hb)) | ((with_reducible refine gate_dst (N := 21) rfl ?_); refine hkBox (N := 21) (cs := #[.int .i64 0, .bool false, .int .i64 0, .int .i64 0]) (t := 26) ?_; intro gb719 hg w197 hbox hb; have n_ := hkA (hkBb BK670 hb) (hkA (hkBb BK690 hb) (hkA (hkBb BK691 hb) (hkA (hkU HB hb) (hkA (Aside0.mk (hbox)) (hkA (hkG hg (hkS HB)) (hkA (hkG hg (hkS HB)) (hkA (hkN hg BK670) (hkA (hkM hg BK670) (hkA (hkN hg BK690) (hkA (hkM hg BK690) (hkA (hkN hg BK691) (hkM hg BK691)))))))))))); clear BK670 BK690 BK691 HB; obtain ⟨BK670, BK690, BK691, HB, BK719, GW719, GE719, NB670_719, NB719_670, NB690_719, NB719_690, NB691_719, NB719_691⟩ := n_; clear hb hbox hg; have hnb198 := NB719_670.out; have hnc198 := NB670_719.out; have hnb199 := NB719_690.out; have hnc199 := NB690_719.out; have hnb200 := NB719_691.out; have hnc200 := NB691_719.out; obtain ⟨hcz201_0, hfz201_0, hcz201_1, hfz201_1, hcz201_2, hfz201_2, hcz201_3, hfz201_3⟩ := hkc4 BK719))
              go_ret
              exact ⟨hkE, hkS HB⟩
            ·rw [if_neg c184] at H
             have c184b0 : (t718 == (decide (t713 < 4294967296))) = false := by simpa using c184
             (try (have c184b1 : decide (t718 = (decide (t713 < 4294967296))) = false := by simpa using c184))
             (try (have c184b2 : (t718 == (decide (t713 < 4294967296))) = false := by simpa using c184))
             (try (have c184b3 : ¬ (t718 = (decide (t713 < 4294967296))) := by simpa using c184))
             clear c184
             exact absurd (Option.some.inj H) (by decide)
           ·rw [if_neg c183] at H
            have c183b0 : decide (t712 < 4294967296) = false := decide_eq_false c183
            clear c183
            by_cases c209 : (t718 == false) = true
            ·rw [if_pos c209] at H
             have c209b0 : (t718 == false) = true := c209
             (try (have c209b1 : decide (t718 = false) = true := by simpa using c209))
             (try (have c209b2 : (t718 == false) = true := by simpa using c209))
             clear c209
             by_cases c210 : t718 = true
             ·subst c210
              have H1 : ((spec_FlOk.f kj39 t714 t715 t716 t717).bind fun t721 => (some t721)) = some true := by rw [if_pos rfl] at H; exact H
              clear H
              have H := H1
              clear H1
              replace H := hBi H
              obtain ⟨t721, A2110, H⟩ := H
              replace H : (some t721) = some true := H
              have A211 := Aside0.mk A2110
              clear A2110
              have hr_ := Option.some.inj H
              clear H
              go_wp2_with (first | ((with_reducible refine gate_callee (f := 42) rfl ?_); refine hkGo (N := some 107) Try.func42 #[.slice A0 l0.length c0] ?_; (with_reducible refine (spec_DrawFlUnpack.calls kj39 _ _ l0 t712 t713 _ ?side1 ?side2 A179.out).mono ?_); (case side1 => exact hkC ((Kd.C_below HR0.out HB.out))); (case side2 => exact HC0.out); rintro e w212 ⟨rfl, hb⟩; refine ⟨_, rfl, ?_⟩; have n_ := hkA (hkBb BK670 hb) (hkA (hkBb BK690 hb) (hkA (hkBb BK691 hb) (hkU HB hb))); clear BK670 BK690 BK691 HB; obtain ⟨BK670, BK690, BK691, HB⟩ := n_; (try clear hb)) | ((with_reducible refine gate_callee (f := 40) rfl ?_); refine hkGo (N := some 113) Try.func40 #[.int .i64 t712, .int .i64 t713] ?_; (with_reducible refine (impl_FlUnpack.calls kj39 t712 t713 t714 t715 t716 t717 true _ A180.out).mono ?_); rintro e w213 ⟨rfl, hb⟩; refine ⟨_, rfl, ?_⟩; have n_ := hkA (hkBb BK670 hb) (hkA (hkBb BK690 hb) (hkA (hkBb BK691 hb) (hkU HB hb))); clear BK670 BK690 BK691 HB; obtain ⟨BK670, BK690, BK691, HB⟩ := n_; (try clear hb)) | ((with_reducible refine gate_dst (N := 21) rfl ?_); refine hkBox (N := 21) (cs := #[.int .i64 0, .bool false, .int .i64 0, .int .i64 0]) (t := 26) ?_; intro gb719 hg w214 hbox hb; have n_ := hkA (hkBb BK670 hb) (hkA (hkBb BK690 hb) (hkA (hkBb BK691 hb) (hkA (hkU HB hb) (hkA (Aside0.mk (hbox)) (hkA (hkG hg (hkS HB)) (hkA (hkG hg (hkS HB)) (hkA (hkN hg BK670) (hkA (hkM hg BK670) (hkA (hkN hg BK690) (hkA (hkM hg BK690) (hkA (hkN hg BK691) (hkM hg BK691)))))))))))); clear BK670 BK690 BK691 HB; obtain ⟨BK670, BK690, BK691, HB, BK719, GW719, GE719, NB670_719, NB719_670, NB690_719, NB719_690, NB691_719, NB719_691⟩ := n_; clear hb hbox hg; have hnb215 := NB719_670.out; have hnc215 := NB670_719.out; have hnb216 := NB719_690.out; have hnc216 := NB690_719.out; have hnb217 := NB719_691.out; have hnc217 := NB691_719.out; obtain ⟨hcz218_0, hfz218_0, hcz218_1, hfz218_1, hcz218_2, hfz218_2, hcz218_3, hfz218_3⟩ := hkc4 BK719) | (go_at_call 38; (with_reducible refine (spec_FlOk.calls kj39 t714 t715 t716 t717 t721 _ A211.out).mono ?_); rintro e w219 ⟨rfl, hb⟩; have n_ := hkA (Aside0.mk (blk_below (g := gb670) (o := .cells #[.int .i64 t666, .bool t667, .int .i64 t668, .int .i64 t669] 26 (0, 0)) hkPp hb)) (hkA (Aside0.mk (blk_below (g := gb690) (o := .cells #[.int .i64 t682, .bool t683, .int .i64 t684, .int .i64 t685] 26 (0, 0)) hkPp hb)) (hkA (Aside0.mk (blk_below (g := gb691) (o := .cells #[.int .i64 t686, .bool t687, .int .i64 t688, .int .i64 t689] 26 (0, 0)) hkPp hb)) (hkA (Aside0.mk (blk_below (g := gb719) (o := .cells #[.int .i64 t714, .bool t715, .int .i64 t716, .int .i64 t717] 26 (0, 0)) hkPp hb)) (hkU HB hb)))); clear BK670 BK690 BK691 BK719 HB; obtain ⟨BK670, BK690, BK691, BK719, HB⟩ := n_; (try clear hb)))
              go_ret
              exact ⟨by first | rfl | (rw [hr_]; done) | (simp [errW_none, errW_some] <;> rfl) | (simp [*, errW_none, errW_some] <;> rfl), hkS HB⟩
             ·replace c210 := Bool.eq_false_iff.mpr c210
              subst c210
              have H1 : (some true) = some true := rfl
              clear H
              have H := H1
              clear H1
              clear H
              go_wp2_with (first | ((with_reducible refine gate_callee (f := 42) rfl ?_); refine hkGo (N := some 107) Try.func42 #[.slice A0 l0.length c0] ?_; (with_reducible refine (spec_DrawFlUnpack.calls kj39 _ _ l0 t712 t713 _ ?side1 ?side2 A179.out).mono ?_); (case side1 => exact hkC ((Kd.C_below HR0.out HB.out))); (case side2 => exact HC0.out); rintro e w220 ⟨rfl, hb⟩; refine ⟨_, rfl, ?_⟩; have n_ := hkA (hkBb BK670 hb) (hkA (hkBb BK690 hb) (hkA (hkBb BK691 hb) (hkU HB hb))); clear BK670 BK690 BK691 HB; obtain ⟨BK670, BK690, BK691, HB⟩ := n_; (try clear hb)) | ((with_reducible refine gate_callee (f := 40) rfl ?_); refine hkGo (N := some 113) Try.func40 #[.int .i64 t712, .int .i64 t713] ?_; (with_reducible refine (impl_FlUnpack.calls kj39 t712 t713 t714 t715 t716 t717 false _ A180.out).mono ?_); rintro e w221 ⟨rfl, hb⟩; refine ⟨_, rfl, ?_⟩; have n_ := hkA (hkBb BK670 hb) (hkA (hkBb BK690 hb) (hkA (hkBb BK691 hb) (hkU HB hb))); clear BK670 BK690 BK691 HB; obtain ⟨BK670, BK690, BK691, HB⟩ := n_; (try clear hb)) | ((with_reducible refine gate_dst (N := 21) rfl ?_); refine hkBox (N := 21) (cs := #[.int .i64 0, .bool false, .int .i64 0, .int .i64 0]) (t := 26) ?_; intro gb719 hg w222 hbox hb; have n_ := hkA (hkBb BK670 hb) (hkA (hkBb BK690 hb) (hkA (hkBb BK691 hb) (hkA (hkU HB hb) (hkA (Aside0.mk (hbox)) (hkA (hkG hg (hkS HB)) (hkA (hkG hg (hkS HB)) (hkA (hkN hg BK670) (hkA (hkM hg BK670) (hkA (hkN hg BK690) (hkA (hkM hg BK690) (hkA (hkN hg BK691) (hkM hg BK691)))))))))))); clear BK670 BK690 BK691 HB; obtain ⟨BK670, BK690, BK691, HB, BK719, GW719, GE719, NB670_719, NB719_670, NB690_719, NB719_690, NB691_719, NB719_691⟩ := n_; clear hb hbox hg; have hnb223 := NB719_670.out; have hnc223 := NB670_719.out; have hnb224 := NB719_690.out; have hnc224 := NB690_719.out; have hnb225 := NB719_691.out; have hnc225 := NB691_719.out; obtain ⟨hcz226_0, hfz226_0, hcz226_1, hfz226_1, hcz226_2, hfz226_2, hcz226_3, hfz226_3⟩ := hkc4 BK719))
              go_ret
              exact ⟨hkE, hkS HB⟩
            ·rw [if_neg c209] at H
             have c209b0 : (t718 == false) = false := by simpa using c209
             (try (have c209b1 : decide (t718 = false) = false := by simpa using c209))
             (try (have c209b2 : (t718 == false) = false := by simpa using c209))
             (try (have c209b3 : ¬ (t718 = false) := by simpa using c209))
             clear c209
             exact absurd (Option.some.inj H) (by decide)
          ·rw [if_neg c182] at H
           have c182b0 : decide (0 ≤ t713) = false := decide_eq_false c182
           clear c182
           by_cases c234 : (t718 == false) = true
           ·rw [if_pos c234] at H
            have c234b0 : (t718 == false) = true := c234
            (try (have c234b1 : decide (t718 = false) = true := by simpa using c234))
            (try (have c234b2 : (t718 == false) = true := by simpa using c234))
            clear c234
            by_cases c235 : t718 = true
            ·subst c235
             have H1 : ((spec_FlOk.f kj39 t714 t715 t716 t717).bind fun t722 => (some t722)) = some true := by rw [if_pos rfl] at H; exact H
             clear H
             have H := H1
             clear H1
             replace H := hBi H
             obtain ⟨t722, A2360, H⟩ := H
             replace H : (some t722) = some true := H
             have A236 := Aside0.mk A2360
             clear A2360
             have hr_ := Option.some.inj H
             clear H
             go_wp2_with (first | ((with_reducible refine gate_callee (f := 42) rfl ?_); refine hkGo (N := some 107) Try.func42 #[.slice A0 l0.length c0] ?_; (with_reducible refine (spec_DrawFlUnpack.calls kj39 _ _ l0 t712 t713 _ ?side1 ?side2 A179.out).mono ?_); (case side1 => exact hkC ((Kd.C_below HR0.out HB.out))); (case side2 => exact HC0.out); rintro e w237 ⟨rfl, hb⟩; refine ⟨_, rfl, ?_⟩; have n_ := hkA (hkBb BK670 hb) (hkA (hkBb BK690 hb) (hkA (hkBb BK691 hb) (hkU HB hb))); clear BK670 BK690 BK691 HB; obtain ⟨BK670, BK690, BK691, HB⟩ := n_; (try clear hb)) | ((with_reducible refine gate_callee (f := 40) rfl ?_); refine hkGo (N := some 113) Try.func40 #[.int .i64 t712, .int .i64 t713] ?_; (with_reducible refine (impl_FlUnpack.calls kj39 t712 t713 t714 t715 t716 t717 true _ A180.out).mono ?_); rintro e w238 ⟨rfl, hb⟩; refine ⟨_, rfl, ?_⟩; have n_ := hkA (hkBb BK670 hb) (hkA (hkBb BK690 hb) (hkA (hkBb BK691 hb) (hkU HB hb))); clear BK670 BK690 BK691 HB; obtain ⟨BK670, BK690, BK691, HB⟩ := n_; (try clear hb)) | ((with_reducible refine gate_dst (N := 21) rfl ?_); refine hkBox (N := 21) (cs := #[.int .i64 0, .bool false, .int .i64 0, .int .i64 0]) (t := 26) ?_; intro gb719 hg w239 hbox hb; have n_ := hkA (hkBb BK670 hb) (hkA (hkBb BK690 hb) (hkA (hkBb BK691 hb) (hkA (hkU HB hb) (hkA (Aside0.mk (hbox)) (hkA (hkG hg (hkS HB)) (hkA (hkG hg (hkS HB)) (hkA (hkN hg BK670) (hkA (hkM hg BK670) (hkA (hkN hg BK690) (hkA (hkM hg BK690) (hkA (hkN hg BK691) (hkM hg BK691)))))))))))); clear BK670 BK690 BK691 HB; obtain ⟨BK670, BK690, BK691, HB, BK719, GW719, GE719, NB670_719, NB719_670, NB690_719, NB719_690, NB691_719, NB719_691⟩ := n_; clear hb hbox hg; have hnb240 := NB719_670.out; have hnc240 := NB670_719.out; have hnb241 := NB719_690.out; have hnc241 := NB690_719.out; have hnb242 := NB719_691.out; have hnc242 := NB691_719.out; obtain ⟨hcz243_0, hfz243_0, hcz243_1, hfz243_1, hcz243_2, hfz243_2, hcz243_3, hfz243_3⟩ := hkc4 BK719) | (go_at_call 38; (with_reducible refine (spec_FlOk.calls kj39 t714 t715 t716 t717 t722 _ A236.out).mono ?_); rintro e w244 ⟨rfl, hb⟩; have n_ := hkA (Aside0.mk (blk_below (g := gb670) (o := .cells #[.int .i64 t666, .bool t667, .int .i64 t668, .int .i64 t669] 26 (0, 0)) hkPp hb)) (hkA (Aside0.mk (blk_below (g := gb690) (o := .cells #[.int .i64 t682, .bool t683, .int .i64 t684, .int .i64 t685] 26 (0, 0)) hkPp hb)) (hkA (Aside0.mk (blk_below (g := gb691) (o := .cells #[.int .i64 t686, .bool t687, .int .i64 t688, .int .i64 t689] 26 (0, 0)) hkPp hb)) (hkA (Aside0.mk (blk_below (g := gb719) (o := .cells #[.int .i64 t714, .bool t715, .int .i64 t716, .int .i64 t717] 26 (0, 0)) hkPp hb)) (hkU HB hb)))); clear BK670 BK690 BK691 BK719 HB; obtain ⟨BK670, BK690, BK691, BK719, HB⟩ := n_; (try clear hb)))
             go_ret
             exact ⟨by first | rfl | (rw [hr_]; done) | (simp [errW_none, errW_some] <;> rfl) | (simp [*, errW_none, errW_some] <;> rfl), hkS HB⟩
            ·replace c235 := Bool.eq_false_iff.mpr c235
             subst c235
             have H1 : (some true) = some true := rfl
             clear H
             have H := H1
             clear H1
             clear H
             go_wp2_with (first | ((with_reducible refine gate_callee (f := 42) rfl ?_); refine hkGo (N := some 107) Try.func42 #[.slice A0 l0.length c0] ?_; (with_reducible refine (spec_DrawFlUnpack.calls kj39 _ _ l0 t712 t713 _ ?side1 ?side2 A179.out).mono ?_); (case side1 => exact hkC ((Kd.C_below HR0.out HB.out))); (case side2 => exact HC0.out); rintro e w245 ⟨rfl, hb⟩; refine ⟨_, rfl, ?_⟩; have n_ := hkA (hkBb BK670 hb) (hkA (hkBb BK690 hb) (hkA (hkBb BK691 hb) (hkU HB hb))); clear BK670 BK690 BK691 HB; obtain ⟨BK670, BK690, BK691, HB⟩ := n_; (try clear hb)) | ((with_reducible refine gate_callee (f := 40) rfl ?_); refine hkGo (N := some 113) Try.func40 #[.int .i64 t712, .int .i64 t713] ?_; (with_reducible refine (impl_FlUnpack.calls kj39 t712 t713 t714 t715 t716 t717 false _ A180.out).mono ?_); rintro e w246 ⟨rfl, hb⟩; refine ⟨_, rfl, ?_⟩; have n_ := hkA (hkBb BK670 hb) (hkA (hkBb BK690 hb) (hkA (hkBb BK691 hb) (hkU HB hb))); clear BK670 BK690 BK691 HB; obtain ⟨BK670, BK690, BK691, HB⟩ := n_; (try clear hb)) | ((with_reducible refine gate_dst (N := 21) rfl ?_); refine hkBox (N := 21) (cs := #[.int .i64 0, .bool false, .int .i64 0, .int .i64 0]) (t := 26) ?_; intro gb719 hg w247 hbox hb; have n_ := hkA (hkBb BK670 hb) (hkA (hkBb BK690 hb) (hkA (hkBb BK691 hb) (hkA (hkU HB hb) (hkA (Aside0.mk (hbox)) (hkA (hkG hg (hkS HB)) (hkA (hkG hg (hkS HB)) (hkA (hkN hg BK670) (hkA (hkM hg BK670) (hkA (hkN hg BK690) (hkA (hkM hg BK690) (hkA (hkN hg BK691) (hkM hg BK691)))))))))))); clear BK670 BK690 BK691 HB; obtain ⟨BK670, BK690, BK691, HB, BK719, GW719, GE719, NB670_719, NB719_670, NB690_719, NB719_690, NB691_719, NB719_691⟩ := n_; clear hb hbox hg; have hnb248 := NB719_670.out; have hnc248 := NB670_719.out; have hnb249 := NB719_690.out; have hnc249 := NB690_719.out; have hnb250 := NB719_691.out; have hnc250 := NB691_719.out; obtain ⟨hcz251_0, hfz251_0, hcz251_1, hfz251_1, hcz251_2, hfz251_2, hcz251_3, hfz251_3⟩ := hkc4 BK719))
             go_ret
             exact ⟨hkE, hkS HB⟩
           ·rw [if_neg c234] at H
            have c234b0 : (t718 == false) = false := by simpa using c234
            (try (have c234b1 : decide (t718 = false) = false := by simpa using c234))
            (try (have c234b2 : (t718 == false) = false := by simpa using c234))
            (try (have c234b3 : ¬ (t718 = false) := by simpa using c234))
            clear c234
            exact absurd (Option.some.inj H) (by decide)
         ·rw [if_neg c181] at H
          have c181b0 : decide (0 ≤ t712) = false := decide_eq_false c181
          clear c181
          by_cases c259 : (t718 == false) = true
          ·rw [if_pos c259] at H
           have c259b0 : (t718 == false) = true := c259
           (try (have c259b1 : decide (t718 = false) = true := by simpa using c259))
           (try (have c259b2 : (t718 == false) = true := by simpa using c259))
           clear c259
           by_cases c260 : t718 = true
           ·subst c260
            have H1 : ((spec_FlOk.f kj39 t714 t715 t716 t717).bind fun t723 => (some t723)) = some true := by rw [if_pos rfl] at H; exact H
            clear H
            have H := H1
            clear H1
            replace H := hBi H
            obtain ⟨t723, A2610, H⟩ := H
            replace H : (some t723) = some true := H
            have A261 := Aside0.mk A2610
            clear A2610
            have hr_ := Option.some.inj H
            clear H
            go_wp2_with (first | ((with_reducible refine gate_callee (f := 42) rfl ?_); refine hkGo (N := some 107) Try.func42 #[.slice A0 l0.length c0] ?_; (with_reducible refine (spec_DrawFlUnpack.calls kj39 _ _ l0 t712 t713 _ ?side1 ?side2 A179.out).mono ?_); (case side1 => exact hkC ((Kd.C_below HR0.out HB.out))); (case side2 => exact HC0.out); rintro e w262 ⟨rfl, hb⟩; refine ⟨_, rfl, ?_⟩; have n_ := hkA (hkBb BK670 hb) (hkA (hkBb BK690 hb) (hkA (hkBb BK691 hb) (hkU HB hb))); clear BK670 BK690 BK691 HB; obtain ⟨BK670, BK690, BK691, HB⟩ := n_; (try clear hb)) | ((with_reducible refine gate_callee (f := 40) rfl ?_); refine hkGo (N := some 113) Try.func40 #[.int .i64 t712, .int .i64 t713] ?_; (with_reducible refine (impl_FlUnpack.calls kj39 t712 t713 t714 t715 t716 t717 true _ A180.out).mono ?_); rintro e w263 ⟨rfl, hb⟩; refine ⟨_, rfl, ?_⟩; have n_ := hkA (hkBb BK670 hb) (hkA (hkBb BK690 hb) (hkA (hkBb BK691 hb) (hkU HB hb))); clear BK670 BK690 BK691 HB; obtain ⟨BK670, BK690, BK691, HB⟩ := n_; (try clear hb)) | ((with_reducible refine gate_dst (N := 21) rfl ?_); refine hkBox (N := 21) (cs := #[.int .i64 0, .bool false, .int .i64 0, .int .i64 0]) (t := 26) ?_; intro gb719 hg w264 hbox hb; have n_ := hkA (hkBb BK670 hb) (hkA (hkBb BK690 hb) (hkA (hkBb BK691 hb) (hkA (hkU HB hb) (hkA (Aside0.mk (hbox)) (hkA (hkG hg (hkS HB)) (hkA (hkG hg (hkS HB)) (hkA (hkN hg BK670) (hkA (hkM hg BK670) (hkA (hkN hg BK690) (hkA (hkM hg BK690) (hkA (hkN hg BK691) (hkM hg BK691)))))))))))); clear BK670 BK690 BK691 HB; obtain ⟨BK670, BK690, BK691, HB, BK719, GW719, GE719, NB670_719, NB719_670, NB690_719, NB719_690, NB691_719, NB719_691⟩ := n_; clear hb hbox hg; have hnb265 := NB719_670.out; have hnc265 := NB670_719.out; have hnb266 := NB719_690.out; have hnc266 := NB690_719.out; have hnb267 := NB719_691.out; have hnc267 := NB691_719.out; obtain ⟨hcz268_0, hfz268_0, hcz268_1, hfz268_1, hcz268_2, hfz268_2, hcz268_3, hfz268_3⟩ := hkc4 BK719) | (go_at_call 38; (with_reducible refine (spec_FlOk.calls kj39 t714 t715 t716 t717 t723 _ A261.out).mono ?_); rintro e w269 ⟨rfl, hb⟩; have n_ := hkA (Aside0.mk (blk_below (g := gb670) (o := .cells #[.int .i64 t666, .bool t667, .int .i64 t668, .int .i64 t669] 26 (0, 0)) hkPp hb)) (hkA (Aside0.mk (blk_below (g := gb690) (o := .cells #[.int .i64 t682, .bool t683, .int .i64 t684, .int .i64 t685] 26 (0, 0)) hkPp hb)) (hkA (Aside0.mk (blk_below (g := gb691) (o := .cells #[.int .i64 t686, .bool t687, .int .i64 t688, .int .i64 t689] 26 (0, 0)) hkPp hb)) (hkA (Aside0.mk (blk_below (g := gb719) (o := .cells #[.int .i64 t714, .bool t715, .int .i64 t716, .int .i64 t717] 26 (0, 0)) hkPp hb)) (hkU HB hb)))); clear BK670 BK690 BK691 BK719 HB; obtain ⟨BK670, BK690, BK691, BK719, HB⟩ := n_; (try clear hb)))
            go_ret
            exact ⟨by first | rfl | (rw [hr_]; done) | (simp [errW_none, errW_some] <;> rfl) | (simp [*, errW_none, errW_some] <;> rfl), hkS HB⟩
           ·replace c260 := Bool.eq_false_iff.mpr c260
            subst c260
            have H1 : (some true) = some true := rfl
            clear H
            have H := H1
            clear H1
            clear H
            go_wp2_with (first | ((with_reducible refine gate_callee (f := 42) rfl ?_); refine hkGo (N := some 107) Try.func42 #[.slice A0 l0.length c0] ?_; (with_reducible refine (spec_DrawFlUnpack.calls kj39 _ _ l0 t712 t713 _ ?side1 ?side2 A179.out).mono ?_); (case side1 => exact hkC ((Kd.C_below HR0.out HB.out))); (case side2 => exact HC0.out); rintro e w270 ⟨rfl, hb⟩; refine ⟨_, rfl, ?_⟩; have n_ := hkA (hkBb BK670 hb) (hkA (hkBb BK690 hb) (hkA (hkBb BK691 hb) (hkU HB hb))); clear BK670 BK690 BK691 HB; obtain ⟨BK670, BK690, BK691, HB⟩ := n_; (try clear hb)) | ((with_reducible refine gate_callee (f := 40) rfl ?_); refine hkGo (N := some 113) Try.func40 #[.int .i64 t712, .int .i64 t713] ?_; (with_reducible refine (impl_FlUnpack.calls kj39 t712 t713 t714 t715 t716 t717 false _ A180.out).mono ?_); rintro e w271 ⟨rfl, hb⟩; refine ⟨_, rfl, ?_⟩; have n_ := hkA (hkBb BK670 hb) (hkA (hkBb BK690 hb) (hkA (hkBb BK691 hb) (hkU HB hb))); clear BK670 BK690 BK691 HB; obtain ⟨BK670, BK690, BK691, HB⟩ := n_; (try clear hb)) | ((with_reducible refine gate_dst (N := 21) rfl ?_); refine hkBox (N := 21) (cs := #[.int .i64 0, .bool false, .int .i64 0, .int .i64 0]) (t := 26) ?_; intro gb719 hg w272 hbox hb; have n_ := hkA (hkBb BK670 hb) (hkA (hkBb BK690 hb) (hkA (hkBb BK691 hb) (hkA (hkU HB hb) (hkA (Aside0.mk (hbox)) (hkA (hkG hg (hkS HB)) (hkA (hkG hg (hkS HB)) (hkA (hkN hg BK670) (hkA (hkM hg BK670) (hkA (hkN hg BK690) (hkA (hkM hg BK690) (hkA (hkN hg BK691) (hkM hg BK691)))))))))))); clear BK670 BK690 BK691 HB; obtain ⟨BK670, BK690, BK691, HB, BK719, GW719, GE719, NB670_719, NB719_670, NB690_719, NB719_690, NB691_719, NB719_691⟩ := n_; clear hb hbox hg; have hnb273 := NB719_670.out; have hnc273 := NB670_719.out; have hnb274 := NB719_690.out; have hnc274 := NB690_719.out; have hnb275 := NB719_691.out; have hnc275 := NB691_719.out; obtain ⟨hcz276_0, hfz276_0, hcz276_1, hfz276_1, hcz276_2, hfz276_2, hcz276_3, hfz276_3⟩ := hkc4 BK719))
            go_ret
            exact ⟨hkE, hkS HB⟩
          ·rw [if_neg c259] at H
           have c259b0 : (t718 == false) = false := by simpa using c259
           (try (have c259b1 : decide (t718 = false) = false := by simpa using c259))
           (try (have c259b2 : (t718 == false) = false := by simpa using c259))
           (try (have c259b3 : ¬ (t718 = false) := by simpa using c259))
           clear c259
           exact absurd (Option.some.inj H) (by decide)
/-- THE ONE PURE STATEMENT of laws_FnPacks. -/
def laws_FnPacks.Pure : Prop := ∀ (l0 : List Int), l0.length ≤ maxLen → l0.length * 1 ≤ 140737488351232 → (∀ x ∈ l0, (Lit.int .u8 x).wf = true) → ∃ k, laws_FnPacks.f k l0 = some true
theorem laws_FnPacks.walk (P : laws_FnPacks.Pure) (a0 : Option Addr) (len0 cap0 : Nat) (z0 : List Int) (w : World) (w0 : ((a0 = none ∧ len0 = 0 ∧ cap0 = 0 ∧ z0 = []) ∨ ∃ x, a0 = some x ∧ len0 ≤ cap0 ∧ cap0 ≤ maxLen ∧ z0.length = cap0 ∧ (∀ i, i < z0.length → w.cell? (x.add i) = some (.int .u8 (z0.getD i 0))) ∧ ∀ n ∈ z0, (Lit.int .u8 n).wf = true)) (y0 : len0 * 1 ≤ 140737488351232) :
  Calls Try.prog 9 #[.slice a0 len0 cap0] w fun e w' => e = .returned (.bool true) ∧ Below w.heap.size w w' := by
 obtain ⟨l0, rfl, hr0, hm0, hw0, hc0⟩ := ReadsInt.ofRowC w0
 obtain ⟨k, h⟩ := P l0 hm0 y0 hw0
 refine (laws_FnPacks.calls k _ _ l0 w (Kd.C_of_reads (d := (0 : Int)) (h1 := fun _ => rfl) hr0) hc0 h).mono ?_
 rintro e w' ⟨rfl, hd⟩
 exact ⟨rfl, hd⟩

end Go.Proofs.Ytgjpahofopoflaa.PFnPacks
