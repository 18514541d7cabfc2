/-
  No cell of these rows narrows 'for every input' (looked for: loops, veiled, ifaces, maps, wideKeys, modest, calm, conditions, laid).
  DERIVED. THE GIVEN ROWS OF THIS SEAT. 7 by the template 'for every input the law returns true; each argument reads behind the call as it read before'; 0 by the template 'total and deterministic' (their statements: YtgjpahofopoflaaTotals.lean).
  GIVEN WITH THE SEED: the statements are not yours to turn. If you find one false, say at which input.
  Laid BY PROGRAM, IN A SANDBOX (cutbox-rows.mjs): the forced cells as the released guide's own fill.sh prints them over the translation 32c9d8765c320bd6… (all of the seat's roots in one cut). By AI agents, Wed Nov 11 2026. No macro, syntax, notation, axiom, sorry.
-/
import Derived.Test.YtgjpahofopoflaaChecked
import GoSem.Claim
import GoSem.ClaimJoined
import GoSem.ClaimMapViews
import Derived.JoinedTies
import Derived.KernelRfl
namespace Go.Proofs.Ytgjpahofopoflaa
/- THE CELL 'sum', in the pinned program and in every row, IS THE sha256 OF THE DUMP (.gsa) THAT YtgjpahofopoflaaProg.lean LOADS. Nothing in Lean hashes anything: it is a label: what it is worth is what the hold of that sum in a sandbox is worth. -/
noncomputable def Try.pinned : Pinned := { name := "ytgjpahofopoflaa", sum := "32c9d8765c320bd6c365ded3ead650cef36facf89311db4e374c9426e8443651", checked := Try.checked }
namespace Rows
def none {H : Type} : Left H := { results := [], args := [] }

/-- 'laws.FnExactFlCmp': WHATEVER THE INPUT: true; the input reads as it did. -/
def fnExactFlCmpSpec : ChangeSpec := { name := "fnExactFlCmp", fn := fun _ => fun
  | [d1, d2] => { results := [.lit (.bool true)], args := [d1, d2] }
  | _ => none }
def fnExactFlCmpRow : OpenClaim := { program := "ytgjpahofopoflaa", sum := "32c9d8765c320bd6c365ded3ead650cef36facf89311db4e374c9426e8443651", func := "loop.example/g00382/laws.FnExactFlCmp", spec := "fnExactFlCmp", unfollowed := true, recurses := true, apart := false }
def FnExactFlCmpSaid : Prop := fnExactFlCmpRow.holds Try.pinned (OpenSpec.ofChange fnExactFlCmpSpec)

/-- ITS FALSE NEIGHBOUR: 'it returns false'. Refute it at one input. -/
def fnExactFlCmpWrong : ChangeSpec := { name := "fnExactFlCmp", fn := fun _ => fun
  | [d1, d2] => { results := [.lit (.bool false)], args := [d1, d2] }
  | _ => none }
def FnExactFlCmpWrongFalsely : Prop := fnExactFlCmpRow.holds Try.pinned (OpenSpec.ofChange fnExactFlCmpWrong)

/-- 'laws.FnExactDyCmp': WHATEVER THE INPUT: true; the input reads as it did. -/
def fnExactDyCmpSpec : ChangeSpec := { name := "fnExactDyCmp", fn := fun _ => fun
  | [d1, d2] => { results := [.lit (.bool true)], args := [d1, d2] }
  | _ => none }
def fnExactDyCmpRow : OpenClaim := { program := "ytgjpahofopoflaa", sum := "32c9d8765c320bd6c365ded3ead650cef36facf89311db4e374c9426e8443651", func := "loop.example/g00382/laws.FnExactDyCmp", spec := "fnExactDyCmp", unfollowed := true, recurses := true, apart := false }
def FnExactDyCmpSaid : Prop := fnExactDyCmpRow.holds Try.pinned (OpenSpec.ofChange fnExactDyCmpSpec)

/-- ITS FALSE NEIGHBOUR: 'it returns false'. Refute it at one input. -/
def fnExactDyCmpWrong : ChangeSpec := { name := "fnExactDyCmp", fn := fun _ => fun
  | [d1, d2] => { results := [.lit (.bool false)], args := [d1, d2] }
  | _ => none }
def FnExactDyCmpWrongFalsely : Prop := fnExactDyCmpRow.holds Try.pinned (OpenSpec.ofChange fnExactDyCmpWrong)

/-- 'laws.FnNatGcds': WHATEVER THE INPUT: true; the input reads as it did. -/
def fnNatGcdsSpec : ChangeSpec := { name := "fnNatGcds", fn := fun _ => fun
  | [d] => { results := [.lit (.bool true)], args := [d] }
  | _ => none }
def fnNatGcdsRow : OpenClaim := { program := "ytgjpahofopoflaa", sum := "32c9d8765c320bd6c365ded3ead650cef36facf89311db4e374c9426e8443651", func := "loop.example/g00382/laws.FnNatGcds", spec := "fnNatGcds", unfollowed := true, recurses := true, apart := false }
def FnNatGcdsSaid : Prop := fnNatGcdsRow.holds Try.pinned (OpenSpec.ofChange fnNatGcdsSpec)

/-- ITS FALSE NEIGHBOUR: 'it returns false'. Refute it at one input. -/
def fnNatGcdsWrong : ChangeSpec := { name := "fnNatGcds", fn := fun _ => fun
  | [d] => { results := [.lit (.bool false)], args := [d] }
  | _ => none }
def FnNatGcdsWrongFalsely : Prop := fnNatGcdsRow.holds Try.pinned (OpenSpec.ofChange fnNatGcdsWrong)

/-- 'laws.FnExactNatDiv': WHATEVER THE INPUT: true; the input reads as it did. -/
def fnExactNatDivSpec : ChangeSpec := { name := "fnExactNatDiv", fn := fun _ => fun
  | [d1, d2] => { results := [.lit (.bool true)], args := [d1, d2] }
  | _ => none }
def fnExactNatDivRow : OpenClaim := { program := "ytgjpahofopoflaa", sum := "32c9d8765c320bd6c365ded3ead650cef36facf89311db4e374c9426e8443651", func := "loop.example/g00382/laws.FnExactNatDiv", spec := "fnExactNatDiv", unfollowed := true, recurses := true, apart := false }
def FnExactNatDivSaid : Prop := fnExactNatDivRow.holds Try.pinned (OpenSpec.ofChange fnExactNatDivSpec)

/-- ITS FALSE NEIGHBOUR: 'it returns false'. Refute it at one input. -/
def fnExactNatDivWrong : ChangeSpec := { name := "fnExactNatDiv", fn := fun _ => fun
  | [d1, d2] => { results := [.lit (.bool false)], args := [d1, d2] }
  | _ => none }
def FnExactNatDivWrongFalsely : Prop := fnExactNatDivRow.holds Try.pinned (OpenSpec.ofChange fnExactNatDivWrong)

/-- 'laws.FnDyTops': WHATEVER THE INPUT: true; the input reads as it did. -/
def fnDyTopsSpec : ChangeSpec := { name := "fnDyTops", fn := fun _ => fun
  | [d] => { results := [.lit (.bool true)], args := [d] }
  | _ => none }
def fnDyTopsRow : OpenClaim := { program := "ytgjpahofopoflaa", sum := "32c9d8765c320bd6c365ded3ead650cef36facf89311db4e374c9426e8443651", func := "loop.example/g00382/laws.FnDyTops", spec := "fnDyTops", unfollowed := true, recurses := true, apart := false }
def FnDyTopsSaid : Prop := fnDyTopsRow.holds Try.pinned (OpenSpec.ofChange fnDyTopsSpec)

/-- ITS FALSE NEIGHBOUR: 'it returns false'. Refute it at one input. -/
def fnDyTopsWrong : ChangeSpec := { name := "fnDyTops", fn := fun _ => fun
  | [d] => { results := [.lit (.bool false)], args := [d] }
  | _ => none }
def FnDyTopsWrongFalsely : Prop := fnDyTopsRow.holds Try.pinned (OpenSpec.ofChange fnDyTopsWrong)

/-- 'laws.FnExactNatGcd': WHATEVER THE INPUT: true; the input reads as it did. -/
def fnExactNatGcdSpec : ChangeSpec := { name := "fnExactNatGcd", fn := fun _ => fun
  | [d1, d2] => { results := [.lit (.bool true)], args := [d1, d2] }
  | _ => none }
def fnExactNatGcdRow : OpenClaim := { program := "ytgjpahofopoflaa", sum := "32c9d8765c320bd6c365ded3ead650cef36facf89311db4e374c9426e8443651", func := "loop.example/g00382/laws.FnExactNatGcd", spec := "fnExactNatGcd", unfollowed := true, recurses := true, apart := false }
def FnExactNatGcdSaid : Prop := fnExactNatGcdRow.holds Try.pinned (OpenSpec.ofChange fnExactNatGcdSpec)

/-- ITS FALSE NEIGHBOUR: 'it returns false'. Refute it at one input. -/
def fnExactNatGcdWrong : ChangeSpec := { name := "fnExactNatGcd", fn := fun _ => fun
  | [d1, d2] => { results := [.lit (.bool false)], args := [d1, d2] }
  | _ => none }
def FnExactNatGcdWrongFalsely : Prop := fnExactNatGcdRow.holds Try.pinned (OpenSpec.ofChange fnExactNatGcdWrong)

/-- 'laws.FnPacks': WHATEVER THE INPUT: true; the input reads as it did. -/
def fnPacksSpec : ChangeSpec := { name := "fnPacks", fn := fun _ => fun
  | [d] => { results := [.lit (.bool true)], args := [d] }
  | _ => none }
def fnPacksRow : OpenClaim := { program := "ytgjpahofopoflaa", sum := "32c9d8765c320bd6c365ded3ead650cef36facf89311db4e374c9426e8443651", func := "loop.example/g00382/laws.FnPacks", spec := "fnPacks", unfollowed := true, recurses := true, apart := false }
def FnPacksSaid : Prop := fnPacksRow.holds Try.pinned (OpenSpec.ofChange fnPacksSpec)

/-- ITS FALSE NEIGHBOUR: 'it returns false'. Refute it at one input. -/
def fnPacksWrong : ChangeSpec := { name := "fnPacks", fn := fun _ => fun
  | [d] => { results := [.lit (.bool false)], args := [d] }
  | _ => none }
def FnPacksWrongFalsely : Prop := fnPacksRow.holds Try.pinned (OpenSpec.ofChange fnPacksWrong)

/- THE SECOND FORM. 'bulk': how many values and letters a reading holds, each counted each time it is reached (what is shared counts as often as it is met; a slice's spare places count too). A statement '..UptoSaid' is the law's where the arguments, and the package variables that the reading takes, are together of bulk at most 1048576: NARROWER than '..Said'. Prove '..Said' where nothing that the law and all that it calls make is longer than what came in: it says more and counts as full. Else prove '..UptoSaid'. A law counts once. -/
mutual
def uptoBulk {H : Type} : DataW H → Nat
  | .lit (.string bytes) => bytes.length + 1
  | .lit _ => 1
  | .nil => 1
  | .ptr d => uptoBulk d + 1
  | .slice elems spare => uptoBulkAll elems + uptoBulkAll spare + 1
  | .agg parts => uptoBulkAll parts + 1
  | .iface _ d => uptoBulk d + 1
  | .map entries => uptoBulkEntries entries + 1
  | .held _ => 1
def uptoBulkAll {H : Type} : List (DataW H) → Nat
  | [] => 0
  | d :: r => uptoBulk d + uptoBulkAll r
def uptoBulkEntries {H : Type} : List (Lit × DataW H) → Nat
  | [] => 0
  | x :: r => uptoBulkEntry x + uptoBulkEntries r
def uptoBulkEntry {H : Type} : Lit × DataW H → Nat
  | (.string bytes, d) => bytes.length + uptoBulk d + 1
  | (_, d) => uptoBulk d + 1
 end
def uptoSmall : (H : Type) → List (DataW H) → Bool := fun _ ds => decide (uptoBulkAll ds ≤ 1048576)
def OpenSpec.upto (s : _root_.Go.ChangeSpec) : _root_.Go.OpenSpec := { _root_.Go.OpenSpec.ofChange s with cond := some uptoSmall }

/-- 'laws.FnExactFlCmp', WHERE WHAT IT READS IS OF BULK AT MOST 1048576: true; the input reads as it did. -/
def fnExactFlCmpUptoRow : OpenClaim := { program := "ytgjpahofopoflaa", sum := "32c9d8765c320bd6c365ded3ead650cef36facf89311db4e374c9426e8443651", func := "loop.example/g00382/laws.FnExactFlCmp", spec := "fnExactFlCmp", unfollowed := true, recurses := true, apart := false, narrowed := true }
def FnExactFlCmpUptoSaid : Prop := fnExactFlCmpUptoRow.holds Try.pinned (OpenSpec.upto fnExactFlCmpSpec)

/-- 'laws.FnExactDyCmp', WHERE WHAT IT READS IS OF BULK AT MOST 1048576: true; the input reads as it did. -/
def fnExactDyCmpUptoRow : OpenClaim := { program := "ytgjpahofopoflaa", sum := "32c9d8765c320bd6c365ded3ead650cef36facf89311db4e374c9426e8443651", func := "loop.example/g00382/laws.FnExactDyCmp", spec := "fnExactDyCmp", unfollowed := true, recurses := true, apart := false, narrowed := true }
def FnExactDyCmpUptoSaid : Prop := fnExactDyCmpUptoRow.holds Try.pinned (OpenSpec.upto fnExactDyCmpSpec)

/-- 'laws.FnNatGcds', WHERE WHAT IT READS IS OF BULK AT MOST 1048576: true; the input reads as it did. -/
def fnNatGcdsUptoRow : OpenClaim := { program := "ytgjpahofopoflaa", sum := "32c9d8765c320bd6c365ded3ead650cef36facf89311db4e374c9426e8443651", func := "loop.example/g00382/laws.FnNatGcds", spec := "fnNatGcds", unfollowed := true, recurses := true, apart := false, narrowed := true }
def FnNatGcdsUptoSaid : Prop := fnNatGcdsUptoRow.holds Try.pinned (OpenSpec.upto fnNatGcdsSpec)

/-- 'laws.FnExactNatDiv', WHERE WHAT IT READS IS OF BULK AT MOST 1048576: true; the input reads as it did. -/
def fnExactNatDivUptoRow : OpenClaim := { program := "ytgjpahofopoflaa", sum := "32c9d8765c320bd6c365ded3ead650cef36facf89311db4e374c9426e8443651", func := "loop.example/g00382/laws.FnExactNatDiv", spec := "fnExactNatDiv", unfollowed := true, recurses := true, apart := false, narrowed := true }
def FnExactNatDivUptoSaid : Prop := fnExactNatDivUptoRow.holds Try.pinned (OpenSpec.upto fnExactNatDivSpec)

/-- 'laws.FnDyTops', WHERE WHAT IT READS IS OF BULK AT MOST 1048576: true; the input reads as it did. -/
def fnDyTopsUptoRow : OpenClaim := { program := "ytgjpahofopoflaa", sum := "32c9d8765c320bd6c365ded3ead650cef36facf89311db4e374c9426e8443651", func := "loop.example/g00382/laws.FnDyTops", spec := "fnDyTops", unfollowed := true, recurses := true, apart := false, narrowed := true }
def FnDyTopsUptoSaid : Prop := fnDyTopsUptoRow.holds Try.pinned (OpenSpec.upto fnDyTopsSpec)

/-- 'laws.FnExactNatGcd', WHERE WHAT IT READS IS OF BULK AT MOST 1048576: true; the input reads as it did. -/
def fnExactNatGcdUptoRow : OpenClaim := { program := "ytgjpahofopoflaa", sum := "32c9d8765c320bd6c365ded3ead650cef36facf89311db4e374c9426e8443651", func := "loop.example/g00382/laws.FnExactNatGcd", spec := "fnExactNatGcd", unfollowed := true, recurses := true, apart := false, narrowed := true }
def FnExactNatGcdUptoSaid : Prop := fnExactNatGcdUptoRow.holds Try.pinned (OpenSpec.upto fnExactNatGcdSpec)

/-- 'laws.FnPacks', WHERE WHAT IT READS IS OF BULK AT MOST 1048576: true; the input reads as it did. -/
def fnPacksUptoRow : OpenClaim := { program := "ytgjpahofopoflaa", sum := "32c9d8765c320bd6c365ded3ead650cef36facf89311db4e374c9426e8443651", func := "loop.example/g00382/laws.FnPacks", spec := "fnPacks", unfollowed := true, recurses := true, apart := false, narrowed := true }
def FnPacksUptoSaid : Prop := fnPacksUptoRow.holds Try.pinned (OpenSpec.upto fnPacksSpec)

end Rows
end Go.Proofs.Ytgjpahofopoflaa
