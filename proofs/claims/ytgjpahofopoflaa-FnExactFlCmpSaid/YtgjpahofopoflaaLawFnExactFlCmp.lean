/- The row of the law FnExactFlCmp: at every input the law answers true, out of its pure statement and its walk. -/
import Derived.Test.YtgjpahofopoflaaRows
import Derived.Test.YtgjpahofopoflaaPFnExactFlCmpx14
import Derived.Test.YtgjpahofopoflaaPureFnExactFlCmp
import Derived.WalkKit
import Derived.ProofKit
import Derived.OpenShut
import Derived.ShutString
import Derived.ChangeOld
import Derived.Below
import Derived.SizedLaws
import Derived.ChangeArms
import Derived.Carry
namespace Go.Proofs.Ytgjpahofopoflaa.fnExactFlCmp
open Go.ChangeShapes Go.WideShapes Go.ChangeAt Go.RowKit
open Go.ChangeMaps (open_string shut_string)
set_option linter.unusedVariables false
theorem own : ownKnob Try.prog.godebug = none := by kernel_rfl
theorem laidOut : laidOutB Try.prog = true := by kernel_rfl
set_option maxRecDepth 100000 in
theorem open23 {H : Type} {enc : TypeId × Value → H} {w : World} {fuel : Nat} {cs : List Value} {x : DataW H × List MemPlace} (h : DataW.trod enc Try.prog w 0 (fun _ => true) true fuel 23 cs = some x) :
    ∃ (b0 : Int) (b1 : Bool) (b2 : Int) (b3 : Int), cs = [.int .i64 b0, .bool b1, .int .i64 b2, .int .i64 b3] ∧ (Lit.int .i64 b0).wf = true ∧ (Lit.int .i64 b2).wf = true ∧ (Lit.int .i64 b3).wf = true := by
  obtain ⟨xs, n, _, _, hl, hn, hf⟩ := DataW.trod_struct Try.underlying23 h
  replace hl : cs.length = 4 := hl.trans (by kernel_rfl)
  obtain ⟨y0, hy0⟩ : ∃ y, xs[0]? = some y := ⟨_, List.getElem?_eq_getElem (by rw [hn]; decide)⟩
  have g0 := (hf 0 _ rfl).trans hy0
  obtain ⟨b0, e0, _, w0⟩ := DataW.trod_int Try.underlying3 g0
  replace e0 : (cs.drop 0).take 1 = [.int .i64 b0] := e0
  obtain ⟨y1, hy1⟩ : ∃ y, xs[1]? = some y := ⟨_, List.getElem?_eq_getElem (by rw [hn]; decide)⟩
  have g1 := (hf 1 _ rfl).trans hy1
  obtain ⟨b1, e1, _⟩ := DataW.trod_bool Try.underlying4 g1
  replace e1 : (cs.drop 1).take 1 = [.bool b1] := e1
  obtain ⟨y2, hy2⟩ : ∃ y, xs[2]? = some y := ⟨_, List.getElem?_eq_getElem (by rw [hn]; decide)⟩
  have g2 := (hf 2 _ rfl).trans hy2
  obtain ⟨b2, e2, _, w2⟩ := DataW.trod_int Try.underlying3 g2
  replace e2 : (cs.drop 2).take 1 = [.int .i64 b2] := e2
  obtain ⟨y3, hy3⟩ : ∃ y, xs[3]? = some y := ⟨_, List.getElem?_eq_getElem (by rw [hn]; decide)⟩
  have g3 := (hf 3 _ rfl).trans hy3
  obtain ⟨b3, e3, _, w3⟩ := DataW.trod_int Try.underlying3 g3
  replace e3 : (cs.drop 3).take 1 = [.int .i64 b3] := e3
  refine ⟨b0, b1, b2, b3, ?_, w0, w2, w3⟩
  rcases cs with _ | ⟨c0, cs⟩
  · simp at hl
  rcases cs with _ | ⟨c1, cs⟩
  · simp at hl
  rcases cs with _ | ⟨c2, cs⟩
  · simp at hl
  rcases cs with _ | ⟨c3, cs⟩
  · simp at hl
  rcases cs with _ | ⟨c, cs⟩
  · simp at e0 e1 e2 e3
    simp [*]
  · simp at hl
set_option maxRecDepth 100000 in
theorem lifted (os : Os) (started : os.Started) (H : Type) (enc : TypeId × Value → H) :
    ReturnsInHanded {} Try.checked os 3 .any (Rows.fnExactFlCmpSpec.pre6 enc Try.prog Try.f3 Rows.fnExactFlCmpRow.domain false) (Rows.fnExactFlCmpSpec.post enc Try.prog Try.f3 false true false false) := by
  refine returnsInHanded_of_change_sized (C := Try.checked) own started (by kernel_rfl) Try.func3
    (ChangeSpec.witness6 (enc := enc) (C := Try.checked) false ⟨#[], #[.agg #[.int .i64 0, .bool false, .int .i64 0, .int .i64 0], .agg #[.int .i64 0, .bool false, .int .i64 0, .int .i64 0]], []⟩ 8 (by kernel_rfl) (by kernel_rfl) (by kernel_rfl) (by kernel_rfl)) ?_
  intro W base args ds gs before hval0 hW hcnd hsz0 _
  have hsz : (DataW.weightsEach Try.prog (Try.f3.params.toList ++ Rows.fnExactFlCmpSpec.plain.varTypes Try.prog) (ds ++ gs)).all (· ≤ reachBytes) = true := hsz0
  have hval : ∀ (j : Nat) t v, Try.f3.params[j]? = some t → args[j]? = some v → Value.okWide Try.prog W .any base t v := hval0
  have hW' := hW
  obtain ⟨p, q, hA0, hV, rfl, hfz, hnd⟩ := hW
  have hA : DataW.TrodAll enc Try.prog W 0 (fun _ => true) true Try.f3.params.toList args.toList ds p := hA0
  rw [Try.params3] at hA hval hsz
  obtain ⟨v0, vs0, d0, ds0, p0, q0, hargs, rfl, rfl, h0, r0⟩ := trodAll_cons hA
  obtain ⟨v1, vs1, d1, ds1, p1, q1, rfl, rfl, rfl, h1, r1⟩ := trodAll_cons r0
  obtain ⟨rfl, rfl, rfl⟩ := trodAll_nil r1
  obtain rfl : args = #[v0, v1] := by cases args; simp_all
  obtain ⟨rfl, rfl⟩ := trodVars_none hV
  obtain ⟨cs0, rfl, _⟩ := okWide_struct Try.underlying23 (hval 0 23 v0 rfl rfl)
  have k0 := h0
  have lt0 : ∀ x ∈ p0, x.block < W.heap.size := by obtain ⟨m, hm⟩ := k0; exact DataW.trod_lt m _ _ _ hm
  obtain ⟨a0_0, a0_1, a0_2, a0_3, hcs0, w0_0, w0_2, w0_3⟩ : ∃ (a0_0 : Int) (a0_1 : Bool) (a0_2 : Int) (a0_3 : Int), (Value.agg cs0).cells.toList = [.int .i64 a0_0, .bool a0_1, .int .i64 a0_2, .int .i64 a0_3] ∧ (Lit.int .i64 a0_0).wf = true ∧ (Lit.int .i64 a0_2).wf = true ∧ (Lit.int .i64 a0_3).wf = true := by
    obtain ⟨fuel, hf⟩ := h0
    exact open23 hf
  obtain rfl : cs0 = #[.int .i64 a0_0, .bool a0_1, .int .i64 a0_2, .int .i64 a0_3] := by cases cs0; simpa [Value.cells] using hcs0
  clear hcs0
  obtain ⟨cs1, rfl, _⟩ := okWide_struct Try.underlying23 (hval 1 23 v1 rfl rfl)
  have k1 := h1
  have lt1 : ∀ x ∈ p1, x.block < W.heap.size := by obtain ⟨m, hm⟩ := k1; exact DataW.trod_lt m _ _ _ hm
  obtain ⟨a1_0, a1_1, a1_2, a1_3, hcs1, w1_0, w1_2, w1_3⟩ : ∃ (a1_0 : Int) (a1_1 : Bool) (a1_2 : Int) (a1_3 : Int), (Value.agg cs1).cells.toList = [.int .i64 a1_0, .bool a1_1, .int .i64 a1_2, .int .i64 a1_3] ∧ (Lit.int .i64 a1_0).wf = true ∧ (Lit.int .i64 a1_2).wf = true ∧ (Lit.int .i64 a1_3).wf = true := by
    obtain ⟨fuel, hf⟩ := h1
    exact open23 hf
  obtain rfl : cs1 = #[.int .i64 a1_0, .bool a1_1, .int .i64 a1_2, .int .i64 a1_3] := by cases cs1; simpa [Value.cells] using hcs1
  clear hcs1
  clear hA0 hval0 hsz0 hsz
  refine (PFnExactFlCmp.laws_FnExactFlCmp.walk Pure.FnExactFlCmp a0_0 a0_1 a0_2 a0_3 a1_0 a1_1 a1_2 a1_3 W w0_0 w0_2 w0_3 w1_0 w1_2 w1_3).mono fun e W' ⟨he, bel⟩ => ?_
  subst he
  exact ⟨_, rfl, _, _, _, [], _, [], hW', trodAll_mk1 (shut_bool Try.underlying4 _), (trodAll_cons_mk (Below.trod laidOut (by kernel_rfl) (of_decide_eq_true (by kernel_rfl)) k0 bel lt0) (trodAll_cons_mk (Below.trod laidOut (by kernel_rfl) (of_decide_eq_true (by kernel_rfl)) k1 bel lt1) trodAll_mk0)), rfl, bel.frame _, fun h => by cases h⟩
theorem over : Rows.fnExactFlCmpRow.holds Try.pinned (OpenSpec.ofChange Rows.fnExactFlCmpSpec) :=
  OpenClaim.holds_of_wide 3 Try.f3 rfl rfl rfl rfl rfl rfl rfl ⟨rfl, rfl, rfl, rfl, rfl⟩ rfl rfl rfl rfl rfl (by kernel_rfl) Try.func3 (by kernel_rfl)
    (of_decide_eq_true (by kernel_rfl)) (by unfold Func.isWrapper; first | (rw [if_pos (by decide +kernel)]; kernel_rfl) | (rw [if_neg (by decide +kernel)]; exact ⟨rfl, rfl⟩))
    (fun os started H enc _ => lifted os started H enc)
theorem proved : Rows.FnExactFlCmpSaid := over
#print axioms proved
end Go.Proofs.Ytgjpahofopoflaa.fnExactFlCmp
namespace Go.Proofs.Ytgjpahofopoflaa
/-- The row, under a short name, for the claim. -/
theorem fnExactFlCmp_holds : Rows.FnExactFlCmpSaid := fnExactFlCmp.proved
end Go.Proofs.Ytgjpahofopoflaa
