/- The row of the law FnExactDecText: at every input the law answers true, out of its pure statement and its walk. -/
import Derived.Test.YthmieecgojiliaaDoorRows
import Derived.Test.YthmieecgojiliaaDoorPFnExactDecTextx20
import Derived.Test.YthmieecgojiliaaDoorPureFnExactDecText
import Derived.WalkKit
import Derived.ProofKit
import Derived.OpenShut
import Derived.ShutString
import Derived.ChangeOld
import Derived.Below
import Derived.SizedLaws
import Derived.ChangeArms
import Derived.Carry
import Derived.LaidMore
import Derived.LaidHandle
import Derived.LaidLaws
import Derived.Handed
import Derived.SevenTiedAt
import Derived.Stop.Joined
import Derived.Test.YthmieecgojiliaaDoorCards
import Derived.Test.YthmieecgojiliaaDoorTie
import Derived.Test.YthmieecgojiliaaDoorVFnExactDecTexta
namespace Go.Proofs.YthmieecgojiliaaDoor.fnExactDecText
open Go.ChangeShapes Go.WideShapes Go.ChangeAt Go.RowKit Go.Proofs.YthmieecgojiliaaDoorW.PrintWords
open Go.ChangeMaps (open_string shut_string)
set_option linter.unusedVariables false
theorem own : ownKnob Tryd.prog.godebug = none := by kernel_rfl
theorem laidOut : laidOutB Tryd.prog = true := by kernel_rfl
def IsRow (k : IntKind) (w : World) (a : Option Addr) (len cap : Nat) (zs : List Int) : Prop :=
 (a = none ∧ len = 0 ∧ cap = 0 ∧ zs = []) ∨
 ∃ x, a = some x ∧ len ≤ cap ∧ cap ≤ maxLen ∧ zs.length = cap ∧ (∀ i, i < zs.length → w.cell? (x.add i) = some (.int k (zs.getD i 0))) ∧ ∀ n ∈ zs, (Lit.int k n).wf = true
theorem openInts {H : Type} {enc : TypeId × Value → H} {P : Program} {w : World} {fuel : Nat} {t e : TypeId} {k : IntKind} {cs : List Value} {x : DataW H × List MemPlace} (ht : P.underlying t = some (.slice e)) (he : P.underlying e = some (.int k)) (hc : P.cellsOf e = 1)
  (h : DataW.trod enc P w 0 (fun _ => true) true fuel t cs = some x) : ∃ a len cap zs, cs = [.slice a len cap] ∧ IsRow k w a len cap zs := by
 rcases open_ints ht he hc h with ⟨hcs, _⟩ | ⟨x, l, c, zs, hcs, _, hl, hm, hz, _, hcell, hwz⟩
 ·exact ⟨_, _, _, [], hcs, .inl ⟨rfl, rfl, rfl, rfl⟩⟩
 ·exact ⟨_, _, _, zs, hcs, .inr ⟨_, rfl, hl, hm, by simpa using hz, hcell, hwz⟩⟩
set_option maxRecDepth 100000 in
theorem open24 {H : Type} {enc : TypeId × Value → H} {w : World} {fuel : Nat} {cs : List Value} {x : DataW H × List MemPlace} (h : DataW.trod enc Tryd.prog w 0 (fun _ => true) true fuel 24 cs = some x) :
  ∃ (A0 : Option Addr) (len0 cap0 : Nat) (z0 : List Int), cs = [.slice A0 len0 cap0] ∧ IsRow .i64 w A0 len0 cap0 z0 := by
 obtain ⟨xs, n, _, _, hl, hn, hf⟩ := DataW.trod_struct Tryd.underlying24 h
 replace hl : cs.length = 1 := hl.trans (by kernel_rfl)
 obtain ⟨y0, hy0⟩ : ∃ y, xs[0]? = some y := ⟨_, List.getElem?_eq_getElem (by rw [hn]; decide)⟩
 have g0 := (hf 0 _ rfl).trans hy0
 obtain ⟨A0, len0, cap0, z0, e0, w0⟩ := openInts Tryd.underlying22 Tryd.underlying3 (by kernel_rfl) g0
 replace e0 : (cs.drop 0).take 1 = [.slice A0 len0 cap0] := e0
 refine ⟨A0, len0, cap0, z0, ?_, w0⟩
 rcases cs with _ | ⟨c0, cs⟩
 ·simp at hl
 rcases cs with _ | ⟨c, cs⟩
 ·simp at e0
  simp [*]
 ·simp at hl
set_option maxRecDepth 100000 in
theorem open26 {H : Type} {enc : TypeId × Value → H} {w : World} {fuel : Nat} {cs : List Value} {x : DataW H × List MemPlace} (h : DataW.trod enc Tryd.prog w 0 (fun _ => true) true fuel 26 cs = some x) :
  ∃ (b0 : Bool) (A1 : Option Addr) (len1 cap1 : Nat) (z1 : List Int) (b2 : Int), cs = [.bool b0, .slice A1 len1 cap1, .int .i64 b2] ∧ IsRow .i64 w A1 len1 cap1 z1 ∧ (Lit.int .i64 b2).wf = true := by
 obtain ⟨xs, n, _, _, hl, hn, hf⟩ := DataW.trod_struct Tryd.underlying26 h
 replace hl : cs.length = 3 := hl.trans (by kernel_rfl)
 obtain ⟨y0, hy0⟩ : ∃ y, xs[0]? = some y := ⟨_, List.getElem?_eq_getElem (by rw [hn]; decide)⟩
 have g0 := (hf 0 _ rfl).trans hy0
 obtain ⟨b0, e0, _⟩ := DataW.trod_bool Tryd.underlying4 g0
 replace e0 : (cs.drop 0).take 1 = [.bool b0] := e0
 obtain ⟨y1, hy1⟩ : ∃ y, xs[1]? = some y := ⟨_, List.getElem?_eq_getElem (by rw [hn]; decide)⟩
 have g1 := (hf 1 _ rfl).trans hy1
 obtain ⟨A1, len1, cap1, z1, e1, w1⟩ := open24 g1
 replace e1 : (cs.drop 1).take 1 = [.slice A1 len1 cap1] := e1
 obtain ⟨y2, hy2⟩ : ∃ y, xs[2]? = some y := ⟨_, List.getElem?_eq_getElem (by rw [hn]; decide)⟩
 have g2 := (hf 2 _ rfl).trans hy2
 obtain ⟨b2, e2, _, w2⟩ := DataW.trod_int Tryd.underlying3 g2
 replace e2 : (cs.drop 2).take 1 = [.int .i64 b2] := e2
 refine ⟨b0, A1, len1, cap1, z1, b2, ?_, w1, w2⟩
 rcases cs with _ | ⟨c0, cs⟩
 ·simp at hl
 rcases cs with _ | ⟨c1, cs⟩
 ·simp at hl
 rcases cs with _ | ⟨c2, cs⟩
 ·simp at hl
 rcases cs with _ | ⟨c, cs⟩
 ·simp at e0 e1 e2
  simp [*]
 ·simp at hl
def laidL : List (String × DataW Unit) := [("math/bits.deBruijn32tab", Rows.laid_math_bits_deBruijn32tab), ("math/bits.deBruijn64tab", Rows.laid_math_bits_deBruijn64tab), ("internal/strconv.uint64pow10", Rows.laid_internal_strconv_uint64pow10)]
theorem gTab : Tryd.prog.globalNamed "internal/strconv.uint64pow10" = some 0 := by kernel_rfl
theorem tTab : (Tryd.prog.globals[0]?).map (·.type) = some 89 := by kernel_rfl
theorem cTab : Tryd.prog.cellsOf 78 = 1 := by kernel_rfl
theorem nTab : Tryd.prog.cellsOf 89 = 20 := by kernel_rfl
/-- The door's own heap meets the condition. -/
theorem door_met (os : Os) (args : Array Value) : laidMetH Tryd.prog laidL ((World.doorLaid Tryd.prog 400 os).forCall (fun _ _ => 0) ⟨#[], args, []⟩).memory :=
 laidMetH_of_parts3 (fuel := 8) (laidMet_of_run' 8 (by kernel_rfl) (by kernel_rfl)) (by kernel_rfl) (by kernel_rfl)
theorem tabList : (Rows.laid_internal_strconv_uint64pow10 : DataW Unit) = Go.Lib.tabData .u64 Go.Lib.pow10Tab := by rfl
/-- What the condition gives the walk: the table. -/
theorem tabOf {W : World} (h : laidMetH Tryd.prog laidL W) : hTab W := by
 rw [MakeChecks.laidMetH_plain _ _ _ (by kernel_rfl)] at h
 obtain ⟨ps, ⟨g0, t0, cs0, f0, p0, q0, hg0, ht0, hv0, hd0, ⟨g1, t1, cs1, f1, p1, q1, hg1, ht1, hv1, hd1, ⟨g2, t2, cs2, f2, p2, q2, hg2, ht2, hv2, hd2, _, _⟩, _⟩, _⟩, _, _⟩ := h
 obtain rfl := Option.some.inj (gTab.symm.trans hg2)
 obtain rfl := Option.some.inj (tTab.symm.trans ht2)
 have hd := hd2
 rw [tabList] at hd
 have ec := Go.Lib.cells_of_tab Tryd.underlying89 Tryd.underlying78 cTab nTab hd
 have hv := hv2
 unfold World.var? at hv
 rw [gTab, Option.bind_some] at hv
 split at hv
 ·rename_i cs t fz heq
  have hv2 := Option.some.inj hv
  have e2 : cs2 = (Go.Lib.pow10Tab.map (Value.int .u64)).toArray := Array.ext' ec
  exact ⟨t, fz, by rw [heq, hv2, e2]⟩
 ·cases hv
set_option maxRecDepth 100000 in
theorem lifted (os : Os) (started : os.Started) (H : Type) (enc : TypeId × Value → H) :
  ReturnsInHanded {} Tryd.checked os 3 .any (fun w args => (Rows.fnExactDecTextSpec.pre enc Tryd.prog Tryd.f3 [] false w args ∧ laidMetH Tryd.prog laidL w) ∧ sizedMet enc Tryd.prog Tryd.f3 (OpenSpec.ofChange Rows.fnExactDecTextSpec) false w args) (Rows.fnExactDecTextSpec.post enc Tryd.prog Tryd.f3 false true false false) := by
 refine returnsInHanded_of_change_and (C := Tryd.checked) (X := fun w _ => laidMetH Tryd.prog laidL w) (fun _ _ _ hh h => h.of_heap hh) own started (by kernel_rfl) Tryd.func3
  (ChangeSpec.witness_shaped (enc := enc) (C := Tryd.checked) (os := os) (X := fun w _ => laidMetH Tryd.prog laidL w) false (World.doorLaid Tryd.prog 400 os) #[.agg #[.bool false, .slice none 0 0, .int .i64 0]] 8 rfl (World.shaped_of_RefB (by kernel_rfl) (by kernel_rfl)) (by kernel_rfl) (by kernel_rfl) (by kernel_rfl) (door_met os _)) ?_
 intro W base args ds gs before hval0 hW hcnd hsz0 hL _
 have hsz : (DataW.weightsEach Tryd.prog (Tryd.f3.params.toList ++ Rows.fnExactDecTextSpec.plain.varTypes Tryd.prog) (ds ++ gs)).all (· ≤ reachBytes) = true := hsz0
 have hval : ∀ (j : Nat) t v, Tryd.f3.params[j]? = some t → args[j]? = some v → Value.okWide Tryd.prog W .any base t v := hval0
 have hW' := hW
 obtain ⟨p, q, hA0, hV, rfl, hfz, hnd⟩ := hW
 have hA : DataW.TrodAll enc Tryd.prog W 0 (fun _ => true) true Tryd.f3.params.toList args.toList ds p := hA0
 rw [Tryd.params3] at hA hval hsz
 obtain ⟨v0, vs0, d0, ds0, p0, q0, hargs, rfl, rfl, h0, r0⟩ := trodAll_cons hA
 obtain ⟨rfl, rfl, rfl⟩ := trodAll_nil r0
 obtain rfl : args = #[v0] := by cases args; simp_all
 obtain ⟨rfl, rfl⟩ := trodVars_none hV
 obtain ⟨cs0, rfl, _⟩ := okWide_struct Tryd.underlying26 (hval 0 26 v0 rfl rfl)
 have k0 := h0
 have lt0 : ∀ x ∈ p0, x.block < W.heap.size := by obtain ⟨m, hm⟩ := k0; exact DataW.trod_lt m _ _ _ hm
 obtain ⟨a0_0, a0_1, len0_1, cap0_1, z0_1, a0_2, hcs0, w0_1, w0_2⟩ : ∃ (a0_0 : Bool) (a0_1 : Option Addr) (len0_1 cap0_1 : Nat) (z0_1 : List Int) (a0_2 : Int), (Value.agg cs0).cells.toList = [.bool a0_0, .slice a0_1 len0_1 cap0_1, .int .i64 a0_2] ∧ IsRow .i64 W a0_1 len0_1 cap0_1 z0_1 ∧ (Lit.int .i64 a0_2).wf = true := by
  obtain ⟨fuel, hf⟩ := h0
  exact open26 hf
 obtain rfl : cs0 = #[.bool a0_0, .slice a0_1 len0_1 cap0_1, .int .i64 a0_2] := by cases cs0; simpa [Value.cells] using hcs0
 clear hcs0
 clear hA0 hval0 hsz0 hsz
 refine (PFnExactDecText.laws_FnExactDecText.walk Pure.FnExactDecText a0_0 a0_1 len0_1 cap0_1 z0_1 a0_2 W w0_1 w0_2 (tabOf hL)).mono fun e W' ⟨he, bel⟩ => ?_
 subst he
 exact ⟨_, rfl, _, _, _, [], _, [], hW', trodAll_mk1 (shut_bool Tryd.underlying4 _), (trodAll_cons_mk (Below.trod laidOut (by kernel_rfl) (of_decide_eq_true (by kernel_rfl)) k0 bel lt0) trodAll_mk0), rfl, bel.frame _, fun h => by cases h⟩
theorem over : Rows.fnExactDecTextRow.holds Tryd.pinned (OpenSpec.ofChange Rows.fnExactDecTextSpec) :=
 OpenClaim.holds_of_wide 3 Tryd.f3 rfl rfl rfl rfl rfl rfl rfl ⟨rfl, rfl, rfl, rfl, rfl⟩ rfl rfl rfl rfl rfl (by kernel_rfl) Tryd.func3 (by kernel_rfl)
  (of_decide_eq_true (by kernel_rfl)) (by unfold Func.isWrapper; first | (rw [if_pos (by decide +kernel)]; kernel_rfl) | (rw [if_neg (by decide +kernel)]; exact ⟨rfl, rfl⟩))
  (fun os started H enc _ => lifted os started H enc)
theorem proved : Rows.FnExactDecTextSaid := over
theorem card : Rows.FnExactDecTextCardSaid :=
 Claim7.holds_tied_plain_at .later [] [.data, .data, .data] true (true, "1ec1477d71de720cdea3f59fe34c877594f53e7d940aa924feb63f4b47d02ecf") false
  proved (fun _ h => by cases h) (by kernel_rfl) (fun _ h => by cases h) fnExactDecText_row_tie rfl ⟨rfl, rfl⟩ (by kernel_rfl) rfl
  (fun f fn hf hfn => by
   obtain rfl : f = 3 := Option.some.inj ((show Tryd.prog.funcNamed "loop.example/g00382/laws.FnExactDecText" = some 3 by kernel_rfl).symm.trans hf) |>.symm
   obtain rfl : fn = Tryd.f3 := (Option.some.inj (Tryd.func3.symm.trans hfn)).symm
   exact ⟨by kernel_rfl, fun j t ht => by
    rw [Tryd.params3] at ht
    rcases j with _ | j
    ·obtain rfl : t = 26 := by simpa using ht.symm
     exact (show Tryd.prog.wantsStandIn 26 = false by kernel_rfl)
    ·simp at ht⟩)
  (by kernel_rfl)
#print axioms card
end Go.Proofs.YthmieecgojiliaaDoor.fnExactDecText
namespace Go.Proofs.YthmieecgojiliaaDoor
/-- The row, under a short name, for the claim. -/
theorem fnExactDecText_holds : Rows.FnExactDecTextCardSaid := fnExactDecText.card
end Go.Proofs.YthmieecgojiliaaDoor
