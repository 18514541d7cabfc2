/- The row of the law FnExactNatDiv: at every input the law answers true, out of its pure statement and its walk. -/
import Derived.Test.YtgjpahofopoflaaRows
import Derived.Test.YtgjpahofopoflaaPFnExactNatDivx24
import Derived.Test.YtgjpahofopoflaaPureFnExactNatDiv
import Derived.WalkKit
import Derived.ProofKit
import Derived.OpenShut
import Derived.ShutString
import Derived.ChangeOld
import Derived.Below
import Derived.SizedLaws
import Derived.ChangeArms
import Derived.Carry
import Derived.Test.YtgjpahofopoflaaVFnExactNatDiva
namespace Go.Proofs.Ytgjpahofopoflaa.fnExactNatDiv
open Go.ChangeShapes Go.WideShapes Go.ChangeAt Go.RowKit
open Go.ChangeMaps (open_string shut_string)
set_option linter.unusedVariables false
theorem own : ownKnob Try.prog.godebug = none := by kernel_rfl
theorem laidOut : laidOutB Try.prog = true := by kernel_rfl
def IsRow (k : IntKind) (w : World) (a : Option Addr) (len cap : Nat) (zs : List Int) : Prop :=
 (a = none ∧ len = 0 ∧ cap = 0 ∧ zs = []) ∨
 ∃ x, a = some x ∧ len ≤ cap ∧ cap ≤ maxLen ∧ zs.length = cap ∧ (∀ i, i < zs.length → w.cell? (x.add i) = some (.int k (zs.getD i 0))) ∧ ∀ n ∈ zs, (Lit.int k n).wf = true
theorem openInts {H : Type} {enc : TypeId × Value → H} {P : Program} {w : World} {fuel : Nat} {t e : TypeId} {k : IntKind} {cs : List Value} {x : DataW H × List MemPlace} (ht : P.underlying t = some (.slice e)) (he : P.underlying e = some (.int k)) (hc : P.cellsOf e = 1)
  (h : DataW.trod enc P w 0 (fun _ => true) true fuel t cs = some x) : ∃ a len cap zs, cs = [.slice a len cap] ∧ IsRow k w a len cap zs := by
 rcases open_ints ht he hc h with ⟨hcs, _⟩ | ⟨x, l, c, zs, hcs, _, hl, hm, hz, _, hcell, hwz⟩
 ·exact ⟨_, _, _, [], hcs, .inl ⟨rfl, rfl, rfl, rfl⟩⟩
 ·exact ⟨_, _, _, zs, hcs, .inr ⟨_, rfl, hl, hm, by simpa using hz, hcell, hwz⟩⟩
set_option maxRecDepth 100000 in
theorem open31 {H : Type} {enc : TypeId × Value → H} {w : World} {fuel : Nat} {cs : List Value} {x : DataW H × List MemPlace} (h : DataW.trod enc Try.prog w 0 (fun _ => true) true fuel 31 cs = some x) :
  ∃ (A0 : Option Addr) (len0 cap0 : Nat) (z0 : List Int), cs = [.slice A0 len0 cap0] ∧ IsRow .i64 w A0 len0 cap0 z0 := by
 obtain ⟨xs, n, _, _, hl, hn, hf⟩ := DataW.trod_struct Try.underlying31 h
 replace hl : cs.length = 1 := hl.trans (by kernel_rfl)
 obtain ⟨y0, hy0⟩ : ∃ y, xs[0]? = some y := ⟨_, List.getElem?_eq_getElem (by rw [hn]; decide)⟩
 have g0 := (hf 0 _ rfl).trans hy0
 obtain ⟨A0, len0, cap0, z0, e0, w0⟩ := openInts Try.underlying29 Try.underlying3 (by kernel_rfl) g0
 replace e0 : (cs.drop 0).take 1 = [.slice A0 len0 cap0] := e0
 refine ⟨A0, len0, cap0, z0, ?_, w0⟩
 rcases cs with _ | ⟨c0, cs⟩
 ·simp at hl
 rcases cs with _ | ⟨c, cs⟩
 ·simp at e0
  simp [*]
 ·simp at hl
set_option maxRecDepth 100000 in
theorem lifted (os : Os) (started : os.Started) (H : Type) (enc : TypeId × Value → H) :
  ReturnsInHanded {} Try.checked os 6 .any (Rows.fnExactNatDivSpec.pre6 enc Try.prog Try.f6 Rows.fnExactNatDivRow.domain false) (Rows.fnExactNatDivSpec.post enc Try.prog Try.f6 false true false false) := by
 refine returnsInHanded_of_change_sized (C := Try.checked) own started (by kernel_rfl) Try.func6
  (ChangeSpec.witness6 (enc := enc) (C := Try.checked) false ⟨#[], #[.agg #[.slice none 0 0], .agg #[.slice none 0 0]], []⟩ 8 (by kernel_rfl) (by kernel_rfl) (by kernel_rfl) (by kernel_rfl)) ?_
 intro W base args ds gs before hval0 hW hcnd hsz0 _
 have hsz : (DataW.weightsEach Try.prog (Try.f6.params.toList ++ Rows.fnExactNatDivSpec.plain.varTypes Try.prog) (ds ++ gs)).all (· ≤ reachBytes) = true := hsz0
 have hval : ∀ (j : Nat) t v, Try.f6.params[j]? = some t → args[j]? = some v → Value.okWide Try.prog W .any base t v := hval0
 have hW' := hW
 obtain ⟨p, q, hA0, hV, rfl, hfz, hnd⟩ := hW
 have hA : DataW.TrodAll enc Try.prog W 0 (fun _ => true) true Try.f6.params.toList args.toList ds p := hA0
 rw [Try.params6] at hA hval hsz
 obtain ⟨v0, vs0, d0, ds0, p0, q0, hargs, rfl, rfl, h0, r0⟩ := trodAll_cons hA
 obtain ⟨v1, vs1, d1, ds1, p1, q1, rfl, rfl, rfl, h1, r1⟩ := trodAll_cons r0
 obtain ⟨rfl, rfl, rfl⟩ := trodAll_nil r1
 obtain rfl : args = #[v0, v1] := by cases args; simp_all
 obtain ⟨rfl, rfl⟩ := trodVars_none hV
 obtain ⟨cs0, rfl, _⟩ := okWide_struct Try.underlying31 (hval 0 31 v0 rfl rfl)
 have k0 := h0
 have lt0 : ∀ x ∈ p0, x.block < W.heap.size := by obtain ⟨m, hm⟩ := k0; exact DataW.trod_lt m _ _ _ hm
 obtain ⟨a0_0, len0_0, cap0_0, z0_0, hcs0, w0_0⟩ : ∃ (a0_0 : Option Addr) (len0_0 cap0_0 : Nat) (z0_0 : List Int), (Value.agg cs0).cells.toList = [.slice a0_0 len0_0 cap0_0] ∧ IsRow .i64 W a0_0 len0_0 cap0_0 z0_0 := by
  obtain ⟨fuel, hf⟩ := h0
  exact open31 hf
 obtain rfl : cs0 = #[.slice a0_0 len0_0 cap0_0] := by cases cs0; simpa [Value.cells] using hcs0
 clear hcs0
 obtain ⟨cs1, rfl, _⟩ := okWide_struct Try.underlying31 (hval 1 31 v1 rfl rfl)
 have k1 := h1
 have lt1 : ∀ x ∈ p1, x.block < W.heap.size := by obtain ⟨m, hm⟩ := k1; exact DataW.trod_lt m _ _ _ hm
 obtain ⟨a1_0, len1_0, cap1_0, z1_0, hcs1, w1_0⟩ : ∃ (a1_0 : Option Addr) (len1_0 cap1_0 : Nat) (z1_0 : List Int), (Value.agg cs1).cells.toList = [.slice a1_0 len1_0 cap1_0] ∧ IsRow .i64 W a1_0 len1_0 cap1_0 z1_0 := by
  obtain ⟨fuel, hf⟩ := h1
  exact open31 hf
 obtain rfl : cs1 = #[.slice a1_0 len1_0 cap1_0] := by cases cs1; simpa [Value.cells] using hcs1
 clear hcs1
 clear hA0 hval0 hsz0 hsz
 refine (PFnExactNatDiv.laws_FnExactNatDiv.walk Pure.FnExactNatDiv a0_0 len0_0 cap0_0 z0_0 a1_0 len1_0 cap1_0 z1_0 W w0_0 w1_0).mono fun e W' ⟨he, bel⟩ => ?_
 subst he
 exact ⟨_, rfl, _, _, _, [], _, [], hW', trodAll_mk1 (shut_bool Try.underlying4 _), (trodAll_cons_mk (Below.trod laidOut (by kernel_rfl) (of_decide_eq_true (by kernel_rfl)) k0 bel lt0) (trodAll_cons_mk (Below.trod laidOut (by kernel_rfl) (of_decide_eq_true (by kernel_rfl)) k1 bel lt1) trodAll_mk0)), rfl, bel.frame _, fun h => by cases h⟩
theorem over : Rows.fnExactNatDivRow.holds Try.pinned (OpenSpec.ofChange Rows.fnExactNatDivSpec) :=
 OpenClaim.holds_of_wide 6 Try.f6 rfl rfl rfl rfl rfl rfl rfl ⟨rfl, rfl, rfl, rfl, rfl⟩ rfl rfl rfl rfl rfl (by kernel_rfl) Try.func6 (by kernel_rfl)
  (of_decide_eq_true (by kernel_rfl)) (by unfold Func.isWrapper; first | (rw [if_pos (by decide +kernel)]; kernel_rfl) | (rw [if_neg (by decide +kernel)]; exact ⟨rfl, rfl⟩))
  (fun os started H enc _ => lifted os started H enc)
theorem proved : Rows.FnExactNatDivSaid := over
#print axioms proved
end Go.Proofs.Ytgjpahofopoflaa.fnExactNatDiv
namespace Go.Proofs.Ytgjpahofopoflaa
/-- The row, under a short name, for the claim. -/
theorem fnExactNatDiv_holds : Rows.FnExactNatDivSaid := fnExactNatDiv.proved
end Go.Proofs.Ytgjpahofopoflaa
