/-
  No cell of these rows narrows 'for every input' (looked for: loops, veiled, ifaces, maps, wideKeys, modest, calm, conditions, laid).
  DERIVED. THE GIVEN ROWS OF THIS SEAT. 11 by the template 'for every input the law returns true; each argument reads behind the call as it read before'; 0 by the template 'total and deterministic' (their statements: YtlefbfdeelldjaaTotals.lean).
  GIVEN WITH THE SEED: the statements are not yours to turn. If you find one false, say at which input.
  Laid BY PROGRAM, IN A SANDBOX (cutbox-rows.mjs): the forced cells as the released guide's own fill.sh prints them over the translation 7aa0b28fa6a1657c… (all of the seat's roots in one cut). By AI agents, Wed Nov 11 2026. No macro, syntax, notation, axiom, sorry.
-/
import Derived.Test.YtlefbfdeelldjaaChecked
import GoSem.Claim
import GoSem.ClaimJoined
import GoSem.ClaimMapViews
import Derived.JoinedTies
import Derived.KernelRfl
namespace Go.Proofs.Ytlefbfdeelldjaa
/- THE CELL 'sum', in the pinned program and in every row, IS THE sha256 OF THE DUMP (.gsa) THAT YtlefbfdeelldjaaProg.lean LOADS. Nothing in Lean hashes anything: it is a label: what it is worth is what the hold of that sum in a sandbox is worth. -/
noncomputable def Try.pinned : Pinned := { name := "ytlefbfdeelldjaa", sum := "7aa0b28fa6a1657c12f0450f8a2851843ff0009f8a3e6bac1db95fb7bb90622f", checked := Try.checked }
namespace Rows
def none {H : Type} : Left H := { results := [], args := [] }

/-- 'laws.FnExactRunes': WHATEVER THE INPUT: true; the input reads as it did. -/
def fnExactRunesSpec : ChangeSpec := { name := "fnExactRunes", fn := fun _ => fun
  | [d] => { results := [.lit (.bool true)], args := [d] }
  | _ => none }
def fnExactRunesRow : OpenClaim := { program := "ytlefbfdeelldjaa", sum := "7aa0b28fa6a1657c12f0450f8a2851843ff0009f8a3e6bac1db95fb7bb90622f", func := "loop.example/g00382/laws.FnExactRunes", spec := "fnExactRunes", apart := false }
def FnExactRunesSaid : Prop := fnExactRunesRow.holds Try.pinned (OpenSpec.ofChange fnExactRunesSpec)

/-- ITS FALSE NEIGHBOUR: 'it returns false'. Refute it at one input. -/
def fnExactRunesWrong : ChangeSpec := { name := "fnExactRunes", fn := fun _ => fun
  | [d] => { results := [.lit (.bool false)], args := [d] }
  | _ => none }
def FnExactRunesWrongFalsely : Prop := fnExactRunesRow.holds Try.pinned (OpenSpec.ofChange fnExactRunesWrong)

/-- 'laws.FnRuneBytes': WHATEVER THE INPUT: true; the input reads as it did. -/
def fnRuneBytesSpec : ChangeSpec := { name := "fnRuneBytes", fn := fun _ => fun
  | [d] => { results := [.lit (.bool true)], args := [d] }
  | _ => none }
def fnRuneBytesRow : OpenClaim := { program := "ytlefbfdeelldjaa", sum := "7aa0b28fa6a1657c12f0450f8a2851843ff0009f8a3e6bac1db95fb7bb90622f", func := "loop.example/g00382/laws.FnRuneBytes", spec := "fnRuneBytes", apart := false }
def FnRuneBytesSaid : Prop := fnRuneBytesRow.holds Try.pinned (OpenSpec.ofChange fnRuneBytesSpec)

/-- ITS FALSE NEIGHBOUR: 'it returns false'. Refute it at one input. -/
def fnRuneBytesWrong : ChangeSpec := { name := "fnRuneBytes", fn := fun _ => fun
  | [d] => { results := [.lit (.bool false)], args := [d] }
  | _ => none }
def FnRuneBytesWrongFalsely : Prop := fnRuneBytesRow.holds Try.pinned (OpenSpec.ofChange fnRuneBytesWrong)

/-- 'laws.FnRunes': WHATEVER THE INPUT: true; the input reads as it did. -/
def fnRunesSpec : ChangeSpec := { name := "fnRunes", fn := fun _ => fun
  | [d] => { results := [.lit (.bool true)], args := [d] }
  | _ => none }
def fnRunesRow : OpenClaim := { program := "ytlefbfdeelldjaa", sum := "7aa0b28fa6a1657c12f0450f8a2851843ff0009f8a3e6bac1db95fb7bb90622f", func := "loop.example/g00382/laws.FnRunes", spec := "fnRunes", apart := false }
def FnRunesSaid : Prop := fnRunesRow.holds Try.pinned (OpenSpec.ofChange fnRunesSpec)

/-- ITS FALSE NEIGHBOUR: 'it returns false'. Refute it at one input. -/
def fnRunesWrong : ChangeSpec := { name := "fnRunes", fn := fun _ => fun
  | [d] => { results := [.lit (.bool false)], args := [d] }
  | _ => none }
def FnRunesWrongFalsely : Prop := fnRunesRow.holds Try.pinned (OpenSpec.ofChange fnRunesWrong)

/-- 'laws.FnExactWholeNeg': WHATEVER THE INPUT: true; the input reads as it did. -/
def fnExactWholeNegSpec : ChangeSpec := { name := "fnExactWholeNeg", fn := fun _ => fun
  | [d] => { results := [.lit (.bool true)], args := [d] }
  | _ => none }
def fnExactWholeNegRow : OpenClaim := { program := "ytlefbfdeelldjaa", sum := "7aa0b28fa6a1657c12f0450f8a2851843ff0009f8a3e6bac1db95fb7bb90622f", func := "loop.example/g00382/laws.FnExactWholeNeg", spec := "fnExactWholeNeg", unfollowed := true, recurses := true, apart := false }
def FnExactWholeNegSaid : Prop := fnExactWholeNegRow.holds Try.pinned (OpenSpec.ofChange fnExactWholeNegSpec)

/-- ITS FALSE NEIGHBOUR: 'it returns false'. Refute it at one input. -/
def fnExactWholeNegWrong : ChangeSpec := { name := "fnExactWholeNeg", fn := fun _ => fun
  | [d] => { results := [.lit (.bool false)], args := [d] }
  | _ => none }
def FnExactWholeNegWrongFalsely : Prop := fnExactWholeNegRow.holds Try.pinned (OpenSpec.ofChange fnExactWholeNegWrong)

/-- 'laws.FnExactWholeCmp': WHATEVER THE INPUT: true; the input reads as it did. -/
def fnExactWholeCmpSpec : ChangeSpec := { name := "fnExactWholeCmp", fn := fun _ => fun
  | [d1, d2] => { results := [.lit (.bool true)], args := [d1, d2] }
  | _ => none }
def fnExactWholeCmpRow : OpenClaim := { program := "ytlefbfdeelldjaa", sum := "7aa0b28fa6a1657c12f0450f8a2851843ff0009f8a3e6bac1db95fb7bb90622f", func := "loop.example/g00382/laws.FnExactWholeCmp", spec := "fnExactWholeCmp", unfollowed := true, recurses := true, apart := false }
def FnExactWholeCmpSaid : Prop := fnExactWholeCmpRow.holds Try.pinned (OpenSpec.ofChange fnExactWholeCmpSpec)

/-- ITS FALSE NEIGHBOUR: 'it returns false'. Refute it at one input. -/
def fnExactWholeCmpWrong : ChangeSpec := { name := "fnExactWholeCmp", fn := fun _ => fun
  | [d1, d2] => { results := [.lit (.bool false)], args := [d1, d2] }
  | _ => none }
def FnExactWholeCmpWrongFalsely : Prop := fnExactWholeCmpRow.holds Try.pinned (OpenSpec.ofChange fnExactWholeCmpWrong)

/-- 'laws.FnExactNatShl': WHATEVER THE INPUT: true; the input reads as it did. -/
def fnExactNatShlSpec : ChangeSpec := { name := "fnExactNatShl", fn := fun _ => fun
  | [d1, d2] => { results := [.lit (.bool true)], args := [d1, d2] }
  | _ => none }
def fnExactNatShlRow : OpenClaim := { program := "ytlefbfdeelldjaa", sum := "7aa0b28fa6a1657c12f0450f8a2851843ff0009f8a3e6bac1db95fb7bb90622f", func := "loop.example/g00382/laws.FnExactNatShl", spec := "fnExactNatShl", unfollowed := true, recurses := true, apart := false }
def FnExactNatShlSaid : Prop := fnExactNatShlRow.holds Try.pinned (OpenSpec.ofChange fnExactNatShlSpec)

/-- ITS FALSE NEIGHBOUR: 'it returns false'. Refute it at one input. -/
def fnExactNatShlWrong : ChangeSpec := { name := "fnExactNatShl", fn := fun _ => fun
  | [d1, d2] => { results := [.lit (.bool false)], args := [d1, d2] }
  | _ => none }
def FnExactNatShlWrongFalsely : Prop := fnExactNatShlRow.holds Try.pinned (OpenSpec.ofChange fnExactNatShlWrong)

/-- 'laws.FnExactNatText': WHATEVER THE INPUT: true; the input reads as it did. -/
def fnExactNatTextSpec : ChangeSpec := { name := "fnExactNatText", fn := fun _ => fun
  | [d] => { results := [.lit (.bool true)], args := [d] }
  | _ => none }
def fnExactNatTextRow : OpenClaim := { program := "ytlefbfdeelldjaa", sum := "7aa0b28fa6a1657c12f0450f8a2851843ff0009f8a3e6bac1db95fb7bb90622f", func := "loop.example/g00382/laws.FnExactNatText", spec := "fnExactNatText", unfollowed := true, recurses := true, apart := false }
def FnExactNatTextSaid : Prop := fnExactNatTextRow.holds Try.pinned (OpenSpec.ofChange fnExactNatTextSpec)

/-- ITS FALSE NEIGHBOUR: 'it returns false'. Refute it at one input. -/
def fnExactNatTextWrong : ChangeSpec := { name := "fnExactNatText", fn := fun _ => fun
  | [d] => { results := [.lit (.bool false)], args := [d] }
  | _ => none }
def FnExactNatTextWrongFalsely : Prop := fnExactNatTextRow.holds Try.pinned (OpenSpec.ofChange fnExactNatTextWrong)

/-- 'laws.FnExactDyTop': WHATEVER THE INPUT: true; the input reads as it did. -/
def fnExactDyTopSpec : ChangeSpec := { name := "fnExactDyTop", fn := fun _ => fun
  | [d] => { results := [.lit (.bool true)], args := [d] }
  | _ => none }
def fnExactDyTopRow : OpenClaim := { program := "ytlefbfdeelldjaa", sum := "7aa0b28fa6a1657c12f0450f8a2851843ff0009f8a3e6bac1db95fb7bb90622f", func := "loop.example/g00382/laws.FnExactDyTop", spec := "fnExactDyTop", unfollowed := true, recurses := true, apart := false }
def FnExactDyTopSaid : Prop := fnExactDyTopRow.holds Try.pinned (OpenSpec.ofChange fnExactDyTopSpec)

/-- ITS FALSE NEIGHBOUR: 'it returns false'. Refute it at one input. -/
def fnExactDyTopWrong : ChangeSpec := { name := "fnExactDyTop", fn := fun _ => fun
  | [d] => { results := [.lit (.bool false)], args := [d] }
  | _ => none }
def FnExactDyTopWrongFalsely : Prop := fnExactDyTopRow.holds Try.pinned (OpenSpec.ofChange fnExactDyTopWrong)

/-- 'laws.FnExactDyNeg': WHATEVER THE INPUT: true; the input reads as it did. -/
def fnExactDyNegSpec : ChangeSpec := { name := "fnExactDyNeg", fn := fun _ => fun
  | [d] => { results := [.lit (.bool true)], args := [d] }
  | _ => none }
def fnExactDyNegRow : OpenClaim := { program := "ytlefbfdeelldjaa", sum := "7aa0b28fa6a1657c12f0450f8a2851843ff0009f8a3e6bac1db95fb7bb90622f", func := "loop.example/g00382/laws.FnExactDyNeg", spec := "fnExactDyNeg", unfollowed := true, recurses := true, apart := false }
def FnExactDyNegSaid : Prop := fnExactDyNegRow.holds Try.pinned (OpenSpec.ofChange fnExactDyNegSpec)

/-- ITS FALSE NEIGHBOUR: 'it returns false'. Refute it at one input. -/
def fnExactDyNegWrong : ChangeSpec := { name := "fnExactDyNeg", fn := fun _ => fun
  | [d] => { results := [.lit (.bool false)], args := [d] }
  | _ => none }
def FnExactDyNegWrongFalsely : Prop := fnExactDyNegRow.holds Try.pinned (OpenSpec.ofChange fnExactDyNegWrong)

/-- 'laws.FnExactWholeText': WHATEVER THE INPUT: true; the input reads as it did. -/
def fnExactWholeTextSpec : ChangeSpec := { name := "fnExactWholeText", fn := fun _ => fun
  | [d] => { results := [.lit (.bool true)], args := [d] }
  | _ => none }
def fnExactWholeTextRow : OpenClaim := { program := "ytlefbfdeelldjaa", sum := "7aa0b28fa6a1657c12f0450f8a2851843ff0009f8a3e6bac1db95fb7bb90622f", func := "loop.example/g00382/laws.FnExactWholeText", spec := "fnExactWholeText", unfollowed := true, recurses := true, apart := false }
def FnExactWholeTextSaid : Prop := fnExactWholeTextRow.holds Try.pinned (OpenSpec.ofChange fnExactWholeTextSpec)

/-- ITS FALSE NEIGHBOUR: 'it returns false'. Refute it at one input. -/
def fnExactWholeTextWrong : ChangeSpec := { name := "fnExactWholeText", fn := fun _ => fun
  | [d] => { results := [.lit (.bool false)], args := [d] }
  | _ => none }
def FnExactWholeTextWrongFalsely : Prop := fnExactWholeTextRow.holds Try.pinned (OpenSpec.ofChange fnExactWholeTextWrong)

/-- 'laws.FnExactPlain': WHATEVER THE INPUT: true; the input reads as it did. -/
def fnExactPlainSpec : ChangeSpec := { name := "fnExactPlain", fn := fun _ => fun
  | [d] => { results := [.lit (.bool true)], args := [d] }
  | _ => none }
def fnExactPlainRow : OpenClaim := { program := "ytlefbfdeelldjaa", sum := "7aa0b28fa6a1657c12f0450f8a2851843ff0009f8a3e6bac1db95fb7bb90622f", func := "loop.example/g00382/laws.FnExactPlain", spec := "fnExactPlain", apart := false }
def FnExactPlainSaid : Prop := fnExactPlainRow.holds Try.pinned (OpenSpec.ofChange fnExactPlainSpec)

/-- ITS FALSE NEIGHBOUR: 'it returns false'. Refute it at one input. -/
def fnExactPlainWrong : ChangeSpec := { name := "fnExactPlain", fn := fun _ => fun
  | [d] => { results := [.lit (.bool false)], args := [d] }
  | _ => none }
def FnExactPlainWrongFalsely : Prop := fnExactPlainRow.holds Try.pinned (OpenSpec.ofChange fnExactPlainWrong)

/- THE SECOND FORM. 'bulk': how many values and letters a reading holds, each counted each time it is reached (what is shared counts as often as it is met; a slice's spare places count too). A statement '..UptoSaid' is the law's where the arguments, and the package variables that the reading takes, are together of bulk at most 1048576: NARROWER than '..Said'. Prove '..Said' where nothing that the law and all that it calls make is longer than what came in: it says more and counts as full. Else prove '..UptoSaid'. A law counts once. -/
mutual
def uptoBulk {H : Type} : DataW H → Nat
  | .lit (.string bytes) => bytes.length + 1
  | .lit _ => 1
  | .nil => 1
  | .ptr d => uptoBulk d + 1
  | .slice elems spare => uptoBulkAll elems + uptoBulkAll spare + 1
  | .agg parts => uptoBulkAll parts + 1
  | .iface _ d => uptoBulk d + 1
  | .map entries => uptoBulkEntries entries + 1
  | .held _ => 1
def uptoBulkAll {H : Type} : List (DataW H) → Nat
  | [] => 0
  | d :: r => uptoBulk d + uptoBulkAll r
def uptoBulkEntries {H : Type} : List (Lit × DataW H) → Nat
  | [] => 0
  | x :: r => uptoBulkEntry x + uptoBulkEntries r
def uptoBulkEntry {H : Type} : Lit × DataW H → Nat
  | (.string bytes, d) => bytes.length + uptoBulk d + 1
  | (_, d) => uptoBulk d + 1
 end
def uptoSmall : (H : Type) → List (DataW H) → Bool := fun _ ds => decide (uptoBulkAll ds ≤ 1048576)
def OpenSpec.upto (s : _root_.Go.ChangeSpec) : _root_.Go.OpenSpec := { _root_.Go.OpenSpec.ofChange s with cond := some uptoSmall }

/-- 'laws.FnExactRunes', WHERE WHAT IT READS IS OF BULK AT MOST 1048576: true; the input reads as it did. -/
def fnExactRunesUptoRow : OpenClaim := { program := "ytlefbfdeelldjaa", sum := "7aa0b28fa6a1657c12f0450f8a2851843ff0009f8a3e6bac1db95fb7bb90622f", func := "loop.example/g00382/laws.FnExactRunes", spec := "fnExactRunes", apart := false, narrowed := true }
def FnExactRunesUptoSaid : Prop := fnExactRunesUptoRow.holds Try.pinned (OpenSpec.upto fnExactRunesSpec)

/-- 'laws.FnRuneBytes', WHERE WHAT IT READS IS OF BULK AT MOST 1048576: true; the input reads as it did. -/
def fnRuneBytesUptoRow : OpenClaim := { program := "ytlefbfdeelldjaa", sum := "7aa0b28fa6a1657c12f0450f8a2851843ff0009f8a3e6bac1db95fb7bb90622f", func := "loop.example/g00382/laws.FnRuneBytes", spec := "fnRuneBytes", apart := false, narrowed := true }
def FnRuneBytesUptoSaid : Prop := fnRuneBytesUptoRow.holds Try.pinned (OpenSpec.upto fnRuneBytesSpec)

/-- 'laws.FnRunes', WHERE WHAT IT READS IS OF BULK AT MOST 1048576: true; the input reads as it did. -/
def fnRunesUptoRow : OpenClaim := { program := "ytlefbfdeelldjaa", sum := "7aa0b28fa6a1657c12f0450f8a2851843ff0009f8a3e6bac1db95fb7bb90622f", func := "loop.example/g00382/laws.FnRunes", spec := "fnRunes", apart := false, narrowed := true }
def FnRunesUptoSaid : Prop := fnRunesUptoRow.holds Try.pinned (OpenSpec.upto fnRunesSpec)

/-- 'laws.FnExactWholeNeg', WHERE WHAT IT READS IS OF BULK AT MOST 1048576: true; the input reads as it did. -/
def fnExactWholeNegUptoRow : OpenClaim := { program := "ytlefbfdeelldjaa", sum := "7aa0b28fa6a1657c12f0450f8a2851843ff0009f8a3e6bac1db95fb7bb90622f", func := "loop.example/g00382/laws.FnExactWholeNeg", spec := "fnExactWholeNeg", unfollowed := true, recurses := true, apart := false, narrowed := true }
def FnExactWholeNegUptoSaid : Prop := fnExactWholeNegUptoRow.holds Try.pinned (OpenSpec.upto fnExactWholeNegSpec)

/-- 'laws.FnExactWholeCmp', WHERE WHAT IT READS IS OF BULK AT MOST 1048576: true; the input reads as it did. -/
def fnExactWholeCmpUptoRow : OpenClaim := { program := "ytlefbfdeelldjaa", sum := "7aa0b28fa6a1657c12f0450f8a2851843ff0009f8a3e6bac1db95fb7bb90622f", func := "loop.example/g00382/laws.FnExactWholeCmp", spec := "fnExactWholeCmp", unfollowed := true, recurses := true, apart := false, narrowed := true }
def FnExactWholeCmpUptoSaid : Prop := fnExactWholeCmpUptoRow.holds Try.pinned (OpenSpec.upto fnExactWholeCmpSpec)

/-- 'laws.FnExactNatShl', WHERE WHAT IT READS IS OF BULK AT MOST 1048576: true; the input reads as it did. -/
def fnExactNatShlUptoRow : OpenClaim := { program := "ytlefbfdeelldjaa", sum := "7aa0b28fa6a1657c12f0450f8a2851843ff0009f8a3e6bac1db95fb7bb90622f", func := "loop.example/g00382/laws.FnExactNatShl", spec := "fnExactNatShl", unfollowed := true, recurses := true, apart := false, narrowed := true }
def FnExactNatShlUptoSaid : Prop := fnExactNatShlUptoRow.holds Try.pinned (OpenSpec.upto fnExactNatShlSpec)

/-- 'laws.FnExactNatText', WHERE WHAT IT READS IS OF BULK AT MOST 1048576: true; the input reads as it did. -/
def fnExactNatTextUptoRow : OpenClaim := { program := "ytlefbfdeelldjaa", sum := "7aa0b28fa6a1657c12f0450f8a2851843ff0009f8a3e6bac1db95fb7bb90622f", func := "loop.example/g00382/laws.FnExactNatText", spec := "fnExactNatText", unfollowed := true, recurses := true, apart := false, narrowed := true }
def FnExactNatTextUptoSaid : Prop := fnExactNatTextUptoRow.holds Try.pinned (OpenSpec.upto fnExactNatTextSpec)

/-- 'laws.FnExactDyTop', WHERE WHAT IT READS IS OF BULK AT MOST 1048576: true; the input reads as it did. -/
def fnExactDyTopUptoRow : OpenClaim := { program := "ytlefbfdeelldjaa", sum := "7aa0b28fa6a1657c12f0450f8a2851843ff0009f8a3e6bac1db95fb7bb90622f", func := "loop.example/g00382/laws.FnExactDyTop", spec := "fnExactDyTop", unfollowed := true, recurses := true, apart := false, narrowed := true }
def FnExactDyTopUptoSaid : Prop := fnExactDyTopUptoRow.holds Try.pinned (OpenSpec.upto fnExactDyTopSpec)

/-- 'laws.FnExactDyNeg', WHERE WHAT IT READS IS OF BULK AT MOST 1048576: true; the input reads as it did. -/
def fnExactDyNegUptoRow : OpenClaim := { program := "ytlefbfdeelldjaa", sum := "7aa0b28fa6a1657c12f0450f8a2851843ff0009f8a3e6bac1db95fb7bb90622f", func := "loop.example/g00382/laws.FnExactDyNeg", spec := "fnExactDyNeg", unfollowed := true, recurses := true, apart := false, narrowed := true }
def FnExactDyNegUptoSaid : Prop := fnExactDyNegUptoRow.holds Try.pinned (OpenSpec.upto fnExactDyNegSpec)

/-- 'laws.FnExactWholeText', WHERE WHAT IT READS IS OF BULK AT MOST 1048576: true; the input reads as it did. -/
def fnExactWholeTextUptoRow : OpenClaim := { program := "ytlefbfdeelldjaa", sum := "7aa0b28fa6a1657c12f0450f8a2851843ff0009f8a3e6bac1db95fb7bb90622f", func := "loop.example/g00382/laws.FnExactWholeText", spec := "fnExactWholeText", unfollowed := true, recurses := true, apart := false, narrowed := true }
def FnExactWholeTextUptoSaid : Prop := fnExactWholeTextUptoRow.holds Try.pinned (OpenSpec.upto fnExactWholeTextSpec)

/-- 'laws.FnExactPlain', WHERE WHAT IT READS IS OF BULK AT MOST 1048576: true; the input reads as it did. -/
def fnExactPlainUptoRow : OpenClaim := { program := "ytlefbfdeelldjaa", sum := "7aa0b28fa6a1657c12f0450f8a2851843ff0009f8a3e6bac1db95fb7bb90622f", func := "loop.example/g00382/laws.FnExactPlain", spec := "fnExactPlain", apart := false, narrowed := true }
def FnExactPlainUptoSaid : Prop := fnExactPlainUptoRow.holds Try.pinned (OpenSpec.upto fnExactPlainSpec)

end Rows
end Go.Proofs.Ytlefbfdeelldjaa
