-- Written by our own driver (wip/hand/hprint.py) over the seat's translation.
import Derived.Test.YtgjpahofopoflaaPFnExactNatDivx0
import Derived.Test.YtgjpahofopoflaaPFnExactNatDivx11
import Derived.Test.YtgjpahofopoflaaPFnExactNatDivx18
import Derived.Test.YtgjpahofopoflaaPFnExactNatDivx19
import Derived.Test.YtgjpahofopoflaaPFnExactNatDivx20
namespace Go.Proofs.Ytgjpahofopoflaa.PFnExactNatDiv
open Go.RowKit Go.Proofs.YtgjpahofopoflaaW.PrintWords Go.Proofs.YtgjpahofopoflaaW.PrintLast Go.Proofs.YtgjpahofopoflaaW.PrintMore
attribute [local go_sem] max2_int min2_int max_two min_two max_three min_three max_four min_four   -- for this text's walks alone
set_option linter.unusedVariables false
set_option linter.unusedSimpArgs false

/-! ### laws_FnExactNatDiv: function 6 -/
mutual
def laws_FnExactNatDiv.j0 : Nat → Bool → Bool → Bool → List Int → List Int → List Int → List Int → List Int → List Int → List Int → List Int → Option (Bool)
 | 0, _, _, _, _, _, _, _, _, _, _, _ => none
 | k + 1, x8, x13, x64, x393000, x394000, x410000, x411000, x415000, x419000, x427000, x428000 => if x64 = true then (some false) else ((laws_toNat.f k x393000).bind fun t430 => ((laws_eqNat.f k x415000 t430).bind fun t433 => (if t433 = true then ((laws_toNat.f k x394000).bind fun t434 => ((laws_eqNat.f k x419000 t434).bind fun t437 => (if t437 = true then ((laws_markNat.f k x415000 1).bind fun bt438 => ((laws_markNat.f k x419000 bt438.1).bind fun bt440 => (if bt440.1 < 0 then (laws_FnExactNatDiv.j1 k x8 true x393000 x394000 x410000 x411000 x427000 x428000) else ((laws_eqNat.f k x427000 x410000).bind fun t442 => (if t442 = true then ((laws_eqNat.f k x428000 x411000).bind fun t443 => (if t443 = true then (laws_FnExactNatDiv.j1 k x8 (x13 != x8) x393000 x394000 x410000 x411000 x427000 x428000) else (laws_FnExactNatDiv.j1 k x8 true x393000 x394000 x410000 x411000 x427000 x428000))) else (laws_FnExactNatDiv.j1 k x8 true x393000 x394000 x410000 x411000 x427000 x428000)))))) else (some false)))) else (some false))))
def laws_FnExactNatDiv.j1 : Nat → Bool → Bool → List Int → List Int → List Int → List Int → List Int → List Int → Option (Bool)
 | 0, _, _, _, _, _, _, _, _ => none
 | k + 1, x8, x99, x393000, x394000, x410000, x411000, x427000, x428000 => if x99 = true then (some false) else ((laws_markNat.f k x427000 1).bind fun bt444 => ((laws_markNat.f k x428000 bt444.1).bind fun bt446 => ((laws_heldNat.f k bt444.2 1).bind fun t448 => (if t448 < 0 then (some false) else ((laws_heldNat.f k bt446.2 t448).bind fun t449 => (if t449 < 0 then (some false) else (if t449 = bt446.1 then ((laws_toNat.f k x393000).bind fun t450 => ((laws_toNat.f k x394000).bind fun t453 => ((impl_NatDiv.f k t450 t453).bind fun bt456 => ((laws_eqNat.f k bt456.1 x410000).bind fun t465 => (if t465 = true then ((laws_eqNat.f k bt456.2.1 x411000).bind fun t466 => (if t466 = true then (laws_FnExactNatDiv.j2 k bt446.1 (bt456.2.2 != x8) bt444.2 bt446.2) else (laws_FnExactNatDiv.j2 k bt446.1 true bt444.2 bt446.2))) else (laws_FnExactNatDiv.j2 k bt446.1 true bt444.2 bt446.2)))))) else (some false))))))))
def laws_FnExactNatDiv.j2 : Nat → Int → Bool → List Int → List Int → Option (Bool)
 | 0, _, _, _, _ => none
 | k + 1, x15, x142, x427000, x428000 => if x142 = true then (some false) else ((laws_heldNat.f k x427000 1).bind fun t467 => (if t467 < 0 then (some false) else ((laws_heldNat.f k x428000 t467).bind fun t468 => (if t468 < 0 then (some false) else (if t468 = x15 then (some true) else (some false))))))
end
def laws_FnExactNatDiv.f (k : Nat) (l0_0 : List Int) (l1_0 : List Int) : Option (Bool) := (laws_szNat.f l0_0 1048576).bind fun t394 => (if t394 < 0 then (some true) else ((laws_szNat.f l1_0 t394).bind fun t395 => (if t395 < 0 then (some true) else ((laws_toNat.f k l0_0).bind fun t396 => ((laws_toNat.f k l1_0).bind fun t399 => ((spec_NatDiv.f k t396 t399).bind fun bt402 => ((laws_toNat.f k l0_0).bind fun t411 => ((laws_toNat.f k l1_0).bind fun t415 => ((impl_NatDiv.f k t411 t415).bind fun bt419 => ((laws_eqNat.f k bt419.1 bt402.1).bind fun t428 => (if t428 = true then ((laws_eqNat.f k bt419.2.1 bt402.2.1).bind fun t429 => (if t429 = true then (laws_FnExactNatDiv.j0 k bt402.2.2 bt419.2.2 (bt419.2.2 != bt402.2.2) l0_0 l1_0 bt402.1 bt402.2.1 t411 t415 bt419.1 bt419.2.1) else (laws_FnExactNatDiv.j0 k bt402.2.2 bt419.2.2 true l0_0 l1_0 bt402.1 bt402.2.1 t411 t415 bt419.1 bt419.2.1))) else (laws_FnExactNatDiv.j0 k bt402.2.2 bt419.2.2 true l0_0 l1_0 bt402.1 bt402.2.1 t411 t415 bt419.1 bt419.2.1))))))))))))
theorem laws_FnExactNatDiv.mono_l : ∀ k, (∀ y0 y1 y2 y3 y4 y5 y6 y7 y8 y9 y10, LeO (laws_FnExactNatDiv.j0 k y0 y1 y2 y3 y4 y5 y6 y7 y8 y9 y10) (laws_FnExactNatDiv.j0 (k + 1) y0 y1 y2 y3 y4 y5 y6 y7 y8 y9 y10)) ∧ (∀ y0 y1 y2 y3 y4 y5 y6 y7, LeO (laws_FnExactNatDiv.j1 k y0 y1 y2 y3 y4 y5 y6 y7) (laws_FnExactNatDiv.j1 (k + 1) y0 y1 y2 y3 y4 y5 y6 y7)) ∧ (∀ y0 y1 y2 y3, LeO (laws_FnExactNatDiv.j2 k y0 y1 y2 y3) (laws_FnExactNatDiv.j2 (k + 1) y0 y1 y2 y3))
 | 0 => ⟨fun _ _ _ _ _ _ _ _ _ _ _ r h => by simp [laws_FnExactNatDiv.j0] at h, fun _ _ _ _ _ _ _ _ r h => by simp [laws_FnExactNatDiv.j1] at h, fun _ _ _ _ r h => by simp [laws_FnExactNatDiv.j2] at h⟩
 | k + 1 => by
  obtain ⟨ih0, ih1, ih2⟩ := laws_FnExactNatDiv.mono_l k
  refine ⟨?_, ?_, ?_⟩
  ·intro y0 y1 y2 y3 y4 y5 y6 y7 y8 y9 y10
   unfold laws_FnExactNatDiv.j0
   repeat' first
   | (with_reducible exact ih0 _ _ _ _ _ _ _ _ _ _ _)
   | (with_reducible exact ih1 _ _ _ _ _ _ _ _)
   | (with_reducible exact ih2 _ _ _ _)
   | (with_reducible exact impl_NatDiv.mono _ _ _)
   | (with_reducible exact laws_eqNat.mono _ _ _)
   | (with_reducible exact laws_heldNat.mono _ _ _)
   | (with_reducible exact laws_markNat.mono _ _ _)
   | (with_reducible exact laws_toNat.mono _ _)
   | (with_reducible exact spec_NatDiv.mono _ _ _)
   | (with_reducible exact LeO.refl _)
   | (with_reducible exact LeO.none _)
   | (with_reducible refine LeO.ite ?_ ?_)
   | (with_reducible refine LeO.bind ?_ (fun _ => ?_))
   | exact ih0 _ _ _ _ _ _ _ _ _ _ _
   | exact ih1 _ _ _ _ _ _ _ _
   | exact ih2 _ _ _ _
   | exact impl_NatDiv.mono _ _ _
   | exact laws_eqNat.mono _ _ _
   | exact laws_heldNat.mono _ _ _
   | exact laws_markNat.mono _ _ _
   | exact laws_toNat.mono _ _
   | exact spec_NatDiv.mono _ _ _
   | exact LeO.none _
   | refine LeO.ite ?_ ?_
   | refine LeO.bind ?_ (fun _ => ?_)
  ·intro y0 y1 y2 y3 y4 y5 y6 y7
   unfold laws_FnExactNatDiv.j1
   repeat' first
   | (with_reducible exact ih0 _ _ _ _ _ _ _ _ _ _ _)
   | (with_reducible exact ih1 _ _ _ _ _ _ _ _)
   | (with_reducible exact ih2 _ _ _ _)
   | (with_reducible exact impl_NatDiv.mono _ _ _)
   | (with_reducible exact laws_eqNat.mono _ _ _)
   | (with_reducible exact laws_heldNat.mono _ _ _)
   | (with_reducible exact laws_markNat.mono _ _ _)
   | (with_reducible exact laws_toNat.mono _ _)
   | (with_reducible exact spec_NatDiv.mono _ _ _)
   | (with_reducible exact LeO.refl _)
   | (with_reducible exact LeO.none _)
   | (with_reducible refine LeO.ite ?_ ?_)
   | (with_reducible refine LeO.bind ?_ (fun _ => ?_))
   | exact ih0 _ _ _ _ _ _ _ _ _ _ _
   | exact ih1 _ _ _ _ _ _ _ _
   | exact ih2 _ _ _ _
   | exact impl_NatDiv.mono _ _ _
   | exact laws_eqNat.mono _ _ _
   | exact laws_heldNat.mono _ _ _
   | exact laws_markNat.mono _ _ _
   | exact laws_toNat.mono _ _
   | exact spec_NatDiv.mono _ _ _
   | exact LeO.none _
   | refine LeO.ite ?_ ?_
   | refine LeO.bind ?_ (fun _ => ?_)
  ·intro y0 y1 y2 y3
   unfold laws_FnExactNatDiv.j2
   repeat' first
   | (with_reducible exact ih0 _ _ _ _ _ _ _ _ _ _ _)
   | (with_reducible exact ih1 _ _ _ _ _ _ _ _)
   | (with_reducible exact ih2 _ _ _ _)
   | (with_reducible exact impl_NatDiv.mono _ _ _)
   | (with_reducible exact laws_eqNat.mono _ _ _)
   | (with_reducible exact laws_heldNat.mono _ _ _)
   | (with_reducible exact laws_markNat.mono _ _ _)
   | (with_reducible exact laws_toNat.mono _ _)
   | (with_reducible exact spec_NatDiv.mono _ _ _)
   | (with_reducible exact LeO.refl _)
   | (with_reducible exact LeO.none _)
   | (with_reducible refine LeO.ite ?_ ?_)
   | (with_reducible refine LeO.bind ?_ (fun _ => ?_))
   | exact ih0 _ _ _ _ _ _ _ _ _ _ _
   | exact ih1 _ _ _ _ _ _ _ _
   | exact ih2 _ _ _ _
   | exact impl_NatDiv.mono _ _ _
   | exact laws_eqNat.mono _ _ _
   | exact laws_heldNat.mono _ _ _
   | exact laws_markNat.mono _ _ _
   | exact laws_toNat.mono _ _
   | exact spec_NatDiv.mono _ _ _
   | exact LeO.none _
   | refine LeO.ite ?_ ?_
   | refine LeO.bind ?_ (fun _ => ?_)
theorem laws_FnExactNatDiv.mono : ∀ a0 a1 k, LeO (laws_FnExactNatDiv.f k a0 a1) (laws_FnExactNatDiv.f (k + 1) a0 a1) := by
 intro a0 a1 k
 obtain ⟨ih0, ih1, ih2⟩ := laws_FnExactNatDiv.mono_l k
 unfold laws_FnExactNatDiv.f
 repeat' first
   | (with_reducible exact ih0 _ _ _ _ _ _ _ _ _ _ _)
   | (with_reducible exact ih1 _ _ _ _ _ _ _ _)
   | (with_reducible exact ih2 _ _ _ _)
   | (with_reducible exact impl_NatDiv.mono _ _ _)
   | (with_reducible exact laws_eqNat.mono _ _ _)
   | (with_reducible exact laws_heldNat.mono _ _ _)
   | (with_reducible exact laws_markNat.mono _ _ _)
   | (with_reducible exact laws_toNat.mono _ _)
   | (with_reducible exact spec_NatDiv.mono _ _ _)
   | (with_reducible exact LeO.refl _)
   | (with_reducible exact LeO.none _)
   | (with_reducible refine LeO.ite ?_ ?_)
   | (with_reducible refine LeO.bind ?_ (fun _ => ?_))
   | exact ih0 _ _ _ _ _ _ _ _ _ _ _
   | exact ih1 _ _ _ _ _ _ _ _
   | exact ih2 _ _ _ _
   | exact impl_NatDiv.mono _ _ _
   | exact laws_eqNat.mono _ _ _
   | exact laws_heldNat.mono _ _ _
   | exact laws_markNat.mono _ _ _
   | exact laws_toNat.mono _ _
   | exact spec_NatDiv.mono _ _ _
   | exact LeO.none _
   | refine LeO.ite ?_ ?_
   | refine LeO.bind ?_ (fun _ => ?_)
def laws_FnExactNatDiv.T8 : Bool × List (List Nat × List Nat) := (true, [([], []), ([0], [0]), ([], []), ([2, 1], [2]), ([1, 3, 3], [1, 3]), ([4], [4]), ([5], [5]), ([5], [5]), ([5], [5]), ([], []), ([], []), ([9, 6, 4, 0, 1, 2, 3, 4, 5, 6, 9, 10], [6, 9]), ([10, 7, 11, 0, 1, 2, 3, 4, 5, 6, 7, 9, 10, 11], [7, 10]), ([8, 12, 0, 1, 2, 3, 4, 5, 6, 7, 8, 9, 10, 11, 12], [8])])
def laws_FnExactNatDiv.B8 : List Nat := [0, 1, 0, 7, 15, 31, 63, 63, 63, 0, 0, 1663, 3839, 8191]
theorem laws_FnExactNatDiv.tab8 : rtab .any (opsOf Try.f6 8) = laws_FnExactNatDiv.T8 := by kernel_rfl
theorem laws_FnExactNatDiv.bits8 : waitsOk laws_FnExactNatDiv.T8.2 laws_FnExactNatDiv.B8 = true := by kernel_rfl
def laws_FnExactNatDiv.T35 : Bool × List (List Nat × List Nat) := (true, [([], []), ([0], [0]), ([], []), ([2, 1], [2]), ([1, 3, 3], [1, 3]), ([4], [4]), ([5], [5]), ([5], [5]), ([5], [5]), ([], []), ([], []), ([9, 6, 4, 0, 1, 2, 3, 4, 5, 6, 9, 10], [6, 9]), ([10, 7, 11, 0, 1, 2, 3, 4, 5, 6, 7, 9, 10, 11], [7, 10]), ([8, 12, 0, 1, 2, 3, 4, 5, 6, 7, 8, 9, 10, 11, 12], [8])])
def laws_FnExactNatDiv.B35 : List Nat := [0, 1, 0, 7, 15, 31, 63, 63, 63, 0, 0, 1663, 3839, 8191]
theorem laws_FnExactNatDiv.tab35 : rtab .any (opsOf Try.f6 35) = laws_FnExactNatDiv.T35 := by kernel_rfl
theorem laws_FnExactNatDiv.bits35 : waitsOk laws_FnExactNatDiv.T35.2 laws_FnExactNatDiv.B35 = true := by kernel_rfl
end Go.Proofs.Ytgjpahofopoflaa.PFnExactNatDiv
