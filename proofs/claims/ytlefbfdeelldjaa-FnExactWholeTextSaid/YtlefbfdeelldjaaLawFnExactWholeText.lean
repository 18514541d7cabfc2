/- The row of the law FnExactWholeText: at every input the law answers true, out of its pure statement and its walk. -/
import Derived.Test.YtlefbfdeelldjaaRows
import Derived.Test.YtlefbfdeelldjaaPFnExactWholeTextx6
import Derived.Test.YtlefbfdeelldjaaPureFnExactWholeText
import Derived.WalkKit
import Derived.ProofKit
import Derived.OpenShut
import Derived.ShutString
import Derived.ChangeOld
import Derived.Below
import Derived.SizedLaws
import Derived.ChangeArms
import Derived.Carry
import Derived.Test.YtlefbfdeelldjaaWSized
namespace Go.Proofs.Ytlefbfdeelldjaa.fnExactWholeText
open Go.ChangeShapes Go.WideShapes Go.ChangeAt Go.RowKit
open Go.ChangeMaps (open_string shut_string)
set_option linter.unusedVariables false
theorem own : ownKnob Try.prog.godebug = none := by kernel_rfl
theorem laidOut : laidOutB Try.prog = true := by kernel_rfl
def IsRow (k : IntKind) (w : World) (a : Option Addr) (len cap : Nat) (zs : List Int) : Prop :=
  (a = none ∧ len = 0 ∧ cap = 0 ∧ zs = []) ∨
  ∃ x, a = some x ∧ len ≤ cap ∧ cap ≤ maxLen ∧ zs.length = cap ∧ (∀ i, i < zs.length → w.cell? (x.add i) = some (.int k (zs.getD i 0))) ∧ ∀ n ∈ zs, (Lit.int k n).wf = true
theorem openInts {H : Type} {enc : TypeId × Value → H} {P : Program} {w : World} {fuel : Nat} {t e : TypeId} {k : IntKind} {cs : List Value} {x : DataW H × List MemPlace} (ht : P.underlying t = some (.slice e)) (he : P.underlying e = some (.int k)) (hc : P.cellsOf e = 1)
    (h : DataW.trod enc P w 0 (fun _ => true) true fuel t cs = some x) : ∃ a len cap zs, cs = [.slice a len cap] ∧ IsRow k w a len cap zs := by
  rcases open_ints ht he hc h with ⟨hcs, _⟩ | ⟨x, l, c, zs, hcs, _, hl, hm, hz, _, hcell, hwz⟩
  · exact ⟨_, _, _, [], hcs, .inl ⟨rfl, rfl, rfl, rfl⟩⟩
  · exact ⟨_, _, _, zs, hcs, .inr ⟨_, rfl, hl, hm, by simpa using hz, hcell, hwz⟩⟩
set_option maxRecDepth 100000 in
theorem open36 {H : Type} {enc : TypeId × Value → H} {w : World} {fuel : Nat} {cs : List Value} {x : DataW H × List MemPlace} (h : DataW.trod enc Try.prog w 0 (fun _ => true) true fuel 36 cs = some x) :
    ∃ (A0 : Option Addr) (len0 cap0 : Nat) (z0 : List Int), cs = [.slice A0 len0 cap0] ∧ IsRow .i64 w A0 len0 cap0 z0 := by
  obtain ⟨xs, n, _, _, hl, hn, hf⟩ := DataW.trod_struct Try.underlying36 h
  replace hl : cs.length = 1 := hl.trans (by kernel_rfl)
  obtain ⟨y0, hy0⟩ : ∃ y, xs[0]? = some y := ⟨_, List.getElem?_eq_getElem (by rw [hn]; decide)⟩
  have g0 := (hf 0 _ rfl).trans hy0
  obtain ⟨A0, len0, cap0, z0, e0, w0⟩ := openInts Try.underlying23 Try.underlying3 (by kernel_rfl) g0
  replace e0 : (cs.drop 0).take 1 = [.slice A0 len0 cap0] := e0
  refine ⟨A0, len0, cap0, z0, ?_, w0⟩
  rcases cs with _ | ⟨c0, cs⟩
  · simp at hl
  rcases cs with _ | ⟨c, cs⟩
  · simp at e0
    simp [*]
  · simp at hl
set_option maxRecDepth 100000 in
theorem open38 {H : Type} {enc : TypeId × Value → H} {w : World} {fuel : Nat} {cs : List Value} {x : DataW H × List MemPlace} (h : DataW.trod enc Try.prog w 0 (fun _ => true) true fuel 38 cs = some x) :
    ∃ (b0 : Bool) (A1 : Option Addr) (len1 cap1 : Nat) (z1 : List Int), cs = [.bool b0, .slice A1 len1 cap1] ∧ IsRow .i64 w A1 len1 cap1 z1 := by
  obtain ⟨xs, n, _, _, hl, hn, hf⟩ := DataW.trod_struct Try.underlying38 h
  replace hl : cs.length = 2 := hl.trans (by kernel_rfl)
  obtain ⟨y0, hy0⟩ : ∃ y, xs[0]? = some y := ⟨_, List.getElem?_eq_getElem (by rw [hn]; decide)⟩
  have g0 := (hf 0 _ rfl).trans hy0
  obtain ⟨b0, e0, _⟩ := DataW.trod_bool Try.underlying4 g0
  replace e0 : (cs.drop 0).take 1 = [.bool b0] := e0
  obtain ⟨y1, hy1⟩ : ∃ y, xs[1]? = some y := ⟨_, List.getElem?_eq_getElem (by rw [hn]; decide)⟩
  have g1 := (hf 1 _ rfl).trans hy1
  obtain ⟨A1, len1, cap1, z1, e1, w1⟩ := open36 g1
  replace e1 : (cs.drop 1).take 1 = [.slice A1 len1 cap1] := e1
  refine ⟨b0, A1, len1, cap1, z1, ?_, w1⟩
  rcases cs with _ | ⟨c0, cs⟩
  · simp at hl
  rcases cs with _ | ⟨c1, cs⟩
  · simp at hl
  rcases cs with _ | ⟨c, cs⟩
  · simp at e0 e1
    simp [*]
  · simp at hl
set_option maxRecDepth 100000 in
theorem lifted (os : Os) (started : os.Started) (H : Type) (enc : TypeId × Value → H) :
    ReturnsInHanded {} Try.checked os 12 .any (Rows.fnExactWholeTextSpec.pre6 enc Try.prog Try.f12 Rows.fnExactWholeTextRow.domain false) (Rows.fnExactWholeTextSpec.post enc Try.prog Try.f12 false true false false) := by
  refine returnsInHanded_of_change_sized (C := Try.checked) own started (by kernel_rfl) Try.func12
    (ChangeSpec.witness6 (enc := enc) (C := Try.checked) false ⟨#[], #[.agg #[.bool false, .slice none 0 0]], []⟩ 8 (by kernel_rfl) (by kernel_rfl) (by kernel_rfl) (by kernel_rfl)) ?_
  intro W base args ds gs before hval0 hW hcnd hsz0 _
  have hsz : (DataW.weightsEach Try.prog (Try.f12.params.toList ++ Rows.fnExactWholeTextSpec.plain.varTypes Try.prog) (ds ++ gs)).all (· ≤ reachBytes) = true := hsz0
  have hval : ∀ (j : Nat) t v, Try.f12.params[j]? = some t → args[j]? = some v → Value.okWide Try.prog W .any base t v := hval0
  have hW' := hW
  obtain ⟨p, q, hA0, hV, rfl, hfz, hnd⟩ := hW
  have hA : DataW.TrodAll enc Try.prog W 0 (fun _ => true) true Try.f12.params.toList args.toList ds p := hA0
  rw [Try.params12] at hA hval hsz
  obtain ⟨v0, vs0, d0, ds0, p0, q0, hargs, rfl, rfl, h0, r0⟩ := trodAll_cons hA
  obtain ⟨rfl, rfl, rfl⟩ := trodAll_nil r0
  obtain rfl : args = #[v0] := by cases args; simp_all
  obtain ⟨rfl, rfl⟩ := trodVars_none hV
  obtain ⟨cs0, rfl, _⟩ := okWide_struct Try.underlying38 (hval 0 38 v0 rfl rfl)
  have k0 := h0
  have lt0 : ∀ x ∈ p0, x.block < W.heap.size := by obtain ⟨m, hm⟩ := k0; exact DataW.trod_lt m _ _ _ hm
  obtain ⟨a0_0, a0_1, len0_1, cap0_1, z0_1, hcs0, w0_1⟩ : ∃ (a0_0 : Bool) (a0_1 : Option Addr) (len0_1 cap0_1 : Nat) (z0_1 : List Int), (Value.agg cs0).cells.toList = [.bool a0_0, .slice a0_1 len0_1 cap0_1] ∧ IsRow .i64 W a0_1 len0_1 cap0_1 z0_1 := by
    obtain ⟨fuel, hf⟩ := h0
    exact open38 hf
  obtain rfl : cs0 = #[.bool a0_0, .slice a0_1 len0_1 cap0_1] := by cases cs0; simpa [Value.cells] using hcs0
  clear hcs0
  clear hA0 hval0 hsz0 hsz
  refine (PFnExactWholeText.laws_FnExactWholeText.walk Pure.FnExactWholeText a0_0 a0_1 len0_1 cap0_1 z0_1 W w0_1).mono fun e W' ⟨he, bel⟩ => ?_
  subst he
  exact ⟨_, rfl, _, _, _, [], _, [], hW', trodAll_mk1 (shut_bool Try.underlying4 _), (trodAll_cons_mk (Below.trod laidOut (by kernel_rfl) (of_decide_eq_true (by kernel_rfl)) k0 bel lt0) trodAll_mk0), rfl, bel.frame _, fun h => by cases h⟩
theorem over : Rows.fnExactWholeTextRow.holds Try.pinned (OpenSpec.ofChange Rows.fnExactWholeTextSpec) :=
  OpenClaim.holds_of_wide 12 Try.f12 rfl rfl rfl rfl rfl rfl rfl ⟨rfl, rfl, rfl, rfl, rfl⟩ rfl rfl rfl rfl rfl (by kernel_rfl) Try.func12 (by kernel_rfl)
    (of_decide_eq_true (by kernel_rfl)) (by unfold Func.isWrapper; first | (rw [if_pos (by decide +kernel)]; kernel_rfl) | (rw [if_neg (by decide +kernel)]; exact ⟨rfl, rfl⟩))
    (fun os started H enc _ => lifted os started H enc)
theorem proved : Rows.FnExactWholeTextSaid := over
#print axioms proved
end Go.Proofs.Ytlefbfdeelldjaa.fnExactWholeText
namespace Go.Proofs.Ytlefbfdeelldjaa
/-- The row, under a short name, for the claim. -/
theorem fnExactWholeText_holds : Rows.FnExactWholeTextSaid := fnExactWholeText.proved
end Go.Proofs.Ytlefbfdeelldjaa
