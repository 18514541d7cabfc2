/- The row of the law FnExactFlNext: at every input the law answers true, out of its pure statement and its walk. -/
import Derived.Test.YtjfafkjffjgenaaRows
import Derived.Test.YtjfafkjffjgenaaPFnExactFlNextx4
import Derived.Test.YtjfafkjffjgenaaPureFnExactFlNext
import Derived.WalkKit
import Derived.ProofKit
import Derived.OpenShut
import Derived.ShutString
import Derived.ChangeOld
import Derived.Below
import Derived.SizedLaws
import Derived.ChangeArms
import Derived.Carry
namespace Go.Proofs.Ytjfafkjffjgenaa.fnExactFlNext
open Go.ChangeShapes Go.WideShapes Go.ChangeAt Go.RowKit
open Go.ChangeMaps (open_string shut_string)
set_option linter.unusedVariables false
theorem own : ownKnob Try.prog.godebug = none := by kernel_rfl
theorem laidOut : laidOutB Try.prog = true := by kernel_rfl
set_option maxRecDepth 100000 in
theorem open42 {H : Type} {enc : TypeId × Value → H} {w : World} {fuel : Nat} {cs : List Value} {x : DataW H × List MemPlace} (h : DataW.trod enc Try.prog w 0 (fun _ => true) true fuel 42 cs = some x) :
    ∃ (b0 : Int) (b1 : Bool) (b2 : Int) (b3 : Int), cs = [.int .i64 b0, .bool b1, .int .i64 b2, .int .i64 b3] ∧ (Lit.int .i64 b0).wf = true ∧ (Lit.int .i64 b2).wf = true ∧ (Lit.int .i64 b3).wf = true := by
  obtain ⟨xs, n, _, _, hl, hn, hf⟩ := DataW.trod_struct Try.underlying42 h
  replace hl : cs.length = 4 := hl.trans (by kernel_rfl)
  obtain ⟨y0, hy0⟩ : ∃ y, xs[0]? = some y := ⟨_, List.getElem?_eq_getElem (by rw [hn]; decide)⟩
  have g0 := (hf 0 _ rfl).trans hy0
  obtain ⟨b0, e0, _, w0⟩ := DataW.trod_int Try.underlying3 g0
  replace e0 : (cs.drop 0).take 1 = [.int .i64 b0] := e0
  obtain ⟨y1, hy1⟩ : ∃ y, xs[1]? = some y := ⟨_, List.getElem?_eq_getElem (by rw [hn]; decide)⟩
  have g1 := (hf 1 _ rfl).trans hy1
  obtain ⟨b1, e1, _⟩ := DataW.trod_bool Try.underlying4 g1
  replace e1 : (cs.drop 1).take 1 = [.bool b1] := e1
  obtain ⟨y2, hy2⟩ : ∃ y, xs[2]? = some y := ⟨_, List.getElem?_eq_getElem (by rw [hn]; decide)⟩
  have g2 := (hf 2 _ rfl).trans hy2
  obtain ⟨b2, e2, _, w2⟩ := DataW.trod_int Try.underlying3 g2
  replace e2 : (cs.drop 2).take 1 = [.int .i64 b2] := e2
  obtain ⟨y3, hy3⟩ : ∃ y, xs[3]? = some y := ⟨_, List.getElem?_eq_getElem (by rw [hn]; decide)⟩
  have g3 := (hf 3 _ rfl).trans hy3
  obtain ⟨b3, e3, _, w3⟩ := DataW.trod_int Try.underlying3 g3
  replace e3 : (cs.drop 3).take 1 = [.int .i64 b3] := e3
  refine ⟨b0, b1, b2, b3, ?_, w0, w2, w3⟩
  rcases cs with _ | ⟨c0, cs⟩
  · simp at hl
  rcases cs with _ | ⟨c1, cs⟩
  · simp at hl
  rcases cs with _ | ⟨c2, cs⟩
  · simp at hl
  rcases cs with _ | ⟨c3, cs⟩
  · simp at hl
  rcases cs with _ | ⟨c, cs⟩
  · simp at e0 e1 e2 e3
    simp [*]
  · simp at hl
set_option maxRecDepth 100000 in
theorem lifted (os : Os) (started : os.Started) (H : Type) (enc : TypeId × Value → H) :
    ReturnsInHanded {} Try.checked os 5 .any (Rows.fnExactFlNextSpec.pre6 enc Try.prog Try.f5 Rows.fnExactFlNextRow.domain false) (Rows.fnExactFlNextSpec.post enc Try.prog Try.f5 false true false false) := by
  refine returnsInHanded_of_change_sized (C := Try.checked) own started (by kernel_rfl) Try.func5
    (ChangeSpec.witness6 (enc := enc) (C := Try.checked) false ⟨#[], #[.agg #[.int .i64 0, .bool false, .int .i64 0, .int .i64 0]], []⟩ 8 (by kernel_rfl) (by kernel_rfl) (by kernel_rfl) (by kernel_rfl)) ?_
  intro W base args ds gs before hval0 hW hcnd hsz0 _
  have hsz : (DataW.weightsEach Try.prog (Try.f5.params.toList ++ Rows.fnExactFlNextSpec.plain.varTypes Try.prog) (ds ++ gs)).all (· ≤ reachBytes) = true := hsz0
  have hval : ∀ (j : Nat) t v, Try.f5.params[j]? = some t → args[j]? = some v → Value.okWide Try.prog W .any base t v := hval0
  have hW' := hW
  obtain ⟨p, q, hA0, hV, rfl, hfz, hnd⟩ := hW
  have hA : DataW.TrodAll enc Try.prog W 0 (fun _ => true) true Try.f5.params.toList args.toList ds p := hA0
  rw [Try.params5] at hA hval hsz
  obtain ⟨v0, vs0, d0, ds0, p0, q0, hargs, rfl, rfl, h0, r0⟩ := trodAll_cons hA
  obtain ⟨rfl, rfl, rfl⟩ := trodAll_nil r0
  obtain rfl : args = #[v0] := by cases args; simp_all
  obtain ⟨rfl, rfl⟩ := trodVars_none hV
  obtain ⟨cs0, rfl, _⟩ := okWide_struct Try.underlying42 (hval 0 42 v0 rfl rfl)
  have k0 := h0
  have lt0 : ∀ x ∈ p0, x.block < W.heap.size := by obtain ⟨m, hm⟩ := k0; exact DataW.trod_lt m _ _ _ hm
  obtain ⟨a0_0, a0_1, a0_2, a0_3, hcs0, w0_0, w0_2, w0_3⟩ : ∃ (a0_0 : Int) (a0_1 : Bool) (a0_2 : Int) (a0_3 : Int), (Value.agg cs0).cells.toList = [.int .i64 a0_0, .bool a0_1, .int .i64 a0_2, .int .i64 a0_3] ∧ (Lit.int .i64 a0_0).wf = true ∧ (Lit.int .i64 a0_2).wf = true ∧ (Lit.int .i64 a0_3).wf = true := by
    obtain ⟨fuel, hf⟩ := h0
    exact open42 hf
  obtain rfl : cs0 = #[.int .i64 a0_0, .bool a0_1, .int .i64 a0_2, .int .i64 a0_3] := by cases cs0; simpa [Value.cells] using hcs0
  clear hcs0
  clear hA0 hval0 hsz0 hsz
  refine (PFnExactFlNext.laws_FnExactFlNext.walk Pure.FnExactFlNext a0_0 a0_1 a0_2 a0_3 W w0_0 w0_2 w0_3).mono fun e W' ⟨he, bel⟩ => ?_
  subst he
  exact ⟨_, rfl, _, _, _, [], _, [], hW', trodAll_mk1 (shut_bool Try.underlying4 _), (trodAll_cons_mk (Below.trod laidOut (by kernel_rfl) (of_decide_eq_true (by kernel_rfl)) k0 bel lt0) trodAll_mk0), rfl, bel.frame _, fun h => by cases h⟩
theorem over : Rows.fnExactFlNextRow.holds Try.pinned (OpenSpec.ofChange Rows.fnExactFlNextSpec) :=
  OpenClaim.holds_of_wide 5 Try.f5 rfl rfl rfl rfl rfl rfl rfl ⟨rfl, rfl, rfl, rfl, rfl⟩ rfl rfl rfl rfl rfl (by kernel_rfl) Try.func5 (by kernel_rfl)
    (of_decide_eq_true (by kernel_rfl)) (by unfold Func.isWrapper; first | (rw [if_pos (by decide +kernel)]; kernel_rfl) | (rw [if_neg (by decide +kernel)]; exact ⟨rfl, rfl⟩))
    (fun os started H enc _ => lifted os started H enc)
theorem proved : Rows.FnExactFlNextSaid := over
#print axioms proved
end Go.Proofs.Ytjfafkjffjgenaa.fnExactFlNext
namespace Go.Proofs.Ytjfafkjffjgenaa
/-- The row, under a short name, for the claim. -/
theorem fnExactFlNext_holds : Rows.FnExactFlNextSaid := fnExactFlNext.proved
end Go.Proofs.Ytjfafkjffjgenaa
