/-
  No cell of these rows narrows 'for every input' (looked for: loops, veiled, ifaces, maps, wideKeys, modest, calm, conditions, laid).
  DERIVED. THE GIVEN ROWS OF THIS SEAT. 11 by the template 'for every input the law returns true; each argument reads behind the call as it read before'; 0 by the template 'total and deterministic' (their statements: YtjfafkjffjgenaaTotals.lean).
  GIVEN WITH THE SEED: the statements are not yours to turn. If you find one false, say at which input.
  Laid BY PROGRAM, IN A SANDBOX (cutbox-rows.mjs): the forced cells as the released guide's own fill.sh prints them over the translation 0f566eba3b8a4182… (all of the seat's roots in one cut). By AI agents, Wed Nov 11 2026. No macro, syntax, notation, axiom, sorry.
-/
import Derived.Test.YtjfafkjffjgenaaChecked
import GoSem.Claim
import GoSem.ClaimJoined
import GoSem.ClaimMapViews
import Derived.JoinedTies
import Derived.KernelRfl
namespace Go.Proofs.Ytjfafkjffjgenaa
/- THE CELL 'sum', in the pinned program and in every row, IS THE sha256 OF THE DUMP (.gsa) THAT YtjfafkjffjgenaaProg.lean LOADS. Nothing in Lean hashes anything: it is a label: what it is worth is what the hold of that sum in a sandbox is worth. -/
noncomputable def Try.pinned : Pinned := { name := "ytjfafkjffjgenaa", sum := "0f566eba3b8a4182c0340ee2cac8f1bf821fbcc0588616bdb9e3cb482f970482", checked := Try.checked }
namespace Rows
def none {H : Type} : Left H := { results := [], args := [] }

/-- 'laws.FnExactWholeOk': WHATEVER THE INPUT: true; the input reads as it did. -/
def fnExactWholeOkSpec : ChangeSpec := { name := "fnExactWholeOk", fn := fun _ => fun
  | [d] => { results := [.lit (.bool true)], args := [d] }
  | _ => none }
def fnExactWholeOkRow : OpenClaim := { program := "ytjfafkjffjgenaa", sum := "0f566eba3b8a4182c0340ee2cac8f1bf821fbcc0588616bdb9e3cb482f970482", func := "loop.example/g00382/laws.FnExactWholeOk", spec := "fnExactWholeOk", unfollowed := true, recurses := true, apart := false }
def FnExactWholeOkSaid : Prop := fnExactWholeOkRow.holds Try.pinned (OpenSpec.ofChange fnExactWholeOkSpec)

/-- ITS FALSE NEIGHBOUR: 'it returns false'. Refute it at one input. -/
def fnExactWholeOkWrong : ChangeSpec := { name := "fnExactWholeOk", fn := fun _ => fun
  | [d] => { results := [.lit (.bool false)], args := [d] }
  | _ => none }
def FnExactWholeOkWrongFalsely : Prop := fnExactWholeOkRow.holds Try.pinned (OpenSpec.ofChange fnExactWholeOkWrong)

/-- 'laws.FnExactRuneAt': WHATEVER THE INPUT: true; the input reads as it did. -/
def fnExactRuneAtSpec : ChangeSpec := { name := "fnExactRuneAt", fn := fun _ => fun
  | [d1, d2] => { results := [.lit (.bool true)], args := [d1, d2] }
  | _ => none }
def fnExactRuneAtRow : OpenClaim := { program := "ytjfafkjffjgenaa", sum := "0f566eba3b8a4182c0340ee2cac8f1bf821fbcc0588616bdb9e3cb482f970482", func := "loop.example/g00382/laws.FnExactRuneAt", spec := "fnExactRuneAt", apart := false }
def FnExactRuneAtSaid : Prop := fnExactRuneAtRow.holds Try.pinned (OpenSpec.ofChange fnExactRuneAtSpec)

/-- ITS FALSE NEIGHBOUR: 'it returns false'. Refute it at one input. -/
def fnExactRuneAtWrong : ChangeSpec := { name := "fnExactRuneAt", fn := fun _ => fun
  | [d1, d2] => { results := [.lit (.bool false)], args := [d1, d2] }
  | _ => none }
def FnExactRuneAtWrongFalsely : Prop := fnExactRuneAtRow.holds Try.pinned (OpenSpec.ofChange fnExactRuneAtWrong)

/-- 'laws.FnExactFlNext': WHATEVER THE INPUT: true; the input reads as it did. -/
def fnExactFlNextSpec : ChangeSpec := { name := "fnExactFlNext", fn := fun _ => fun
  | [d] => { results := [.lit (.bool true)], args := [d] }
  | _ => none }
def fnExactFlNextRow : OpenClaim := { program := "ytjfafkjffjgenaa", sum := "0f566eba3b8a4182c0340ee2cac8f1bf821fbcc0588616bdb9e3cb482f970482", func := "loop.example/g00382/laws.FnExactFlNext", spec := "fnExactFlNext", apart := false }
def FnExactFlNextSaid : Prop := fnExactFlNextRow.holds Try.pinned (OpenSpec.ofChange fnExactFlNextSpec)

/-- ITS FALSE NEIGHBOUR: 'it returns false'. Refute it at one input. -/
def fnExactFlNextWrong : ChangeSpec := { name := "fnExactFlNext", fn := fun _ => fun
  | [d] => { results := [.lit (.bool false)], args := [d] }
  | _ => none }
def FnExactFlNextWrongFalsely : Prop := fnExactFlNextRow.holds Try.pinned (OpenSpec.ofChange fnExactFlNextWrong)

/-- 'laws.FnExactNatBits': WHATEVER THE INPUT: true; the input reads as it did. -/
def fnExactNatBitsSpec : ChangeSpec := { name := "fnExactNatBits", fn := fun _ => fun
  | [d] => { results := [.lit (.bool true)], args := [d] }
  | _ => none }
def fnExactNatBitsRow : OpenClaim := { program := "ytjfafkjffjgenaa", sum := "0f566eba3b8a4182c0340ee2cac8f1bf821fbcc0588616bdb9e3cb482f970482", func := "loop.example/g00382/laws.FnExactNatBits", spec := "fnExactNatBits", unfollowed := true, recurses := true, apart := false }
def FnExactNatBitsSaid : Prop := fnExactNatBitsRow.holds Try.pinned (OpenSpec.ofChange fnExactNatBitsSpec)

/-- ITS FALSE NEIGHBOUR: 'it returns false'. Refute it at one input. -/
def fnExactNatBitsWrong : ChangeSpec := { name := "fnExactNatBits", fn := fun _ => fun
  | [d] => { results := [.lit (.bool false)], args := [d] }
  | _ => none }
def FnExactNatBitsWrongFalsely : Prop := fnExactNatBitsRow.holds Try.pinned (OpenSpec.ofChange fnExactNatBitsWrong)

/-- 'laws.FnExactClean': WHATEVER THE INPUT: true; the input reads as it did. -/
def fnExactCleanSpec : ChangeSpec := { name := "fnExactClean", fn := fun _ => fun
  | [d] => { results := [.lit (.bool true)], args := [d] }
  | _ => none }
def fnExactCleanRow : OpenClaim := { program := "ytjfafkjffjgenaa", sum := "0f566eba3b8a4182c0340ee2cac8f1bf821fbcc0588616bdb9e3cb482f970482", func := "loop.example/g00382/laws.FnExactClean", spec := "fnExactClean", apart := false }
def FnExactCleanSaid : Prop := fnExactCleanRow.holds Try.pinned (OpenSpec.ofChange fnExactCleanSpec)

/-- ITS FALSE NEIGHBOUR: 'it returns false'. Refute it at one input. -/
def fnExactCleanWrong : ChangeSpec := { name := "fnExactClean", fn := fun _ => fun
  | [d] => { results := [.lit (.bool false)], args := [d] }
  | _ => none }
def FnExactCleanWrongFalsely : Prop := fnExactCleanRow.holds Try.pinned (OpenSpec.ofChange fnExactCleanWrong)

/-- 'laws.FnExactNatCmp': WHATEVER THE INPUT: true; the input reads as it did. -/
def fnExactNatCmpSpec : ChangeSpec := { name := "fnExactNatCmp", fn := fun _ => fun
  | [d1, d2] => { results := [.lit (.bool true)], args := [d1, d2] }
  | _ => none }
def fnExactNatCmpRow : OpenClaim := { program := "ytjfafkjffjgenaa", sum := "0f566eba3b8a4182c0340ee2cac8f1bf821fbcc0588616bdb9e3cb482f970482", func := "loop.example/g00382/laws.FnExactNatCmp", spec := "fnExactNatCmp", unfollowed := true, recurses := true, apart := false }
def FnExactNatCmpSaid : Prop := fnExactNatCmpRow.holds Try.pinned (OpenSpec.ofChange fnExactNatCmpSpec)

/-- ITS FALSE NEIGHBOUR: 'it returns false'. Refute it at one input. -/
def fnExactNatCmpWrong : ChangeSpec := { name := "fnExactNatCmp", fn := fun _ => fun
  | [d1, d2] => { results := [.lit (.bool false)], args := [d1, d2] }
  | _ => none }
def FnExactNatCmpWrongFalsely : Prop := fnExactNatCmpRow.holds Try.pinned (OpenSpec.ofChange fnExactNatCmpWrong)

/-- 'laws.FnExactNatInt': WHATEVER THE INPUT: true; the input reads as it did. -/
def fnExactNatIntSpec : ChangeSpec := { name := "fnExactNatInt", fn := fun _ => fun
  | [d] => { results := [.lit (.bool true)], args := [d] }
  | _ => none }
def fnExactNatIntRow : OpenClaim := { program := "ytjfafkjffjgenaa", sum := "0f566eba3b8a4182c0340ee2cac8f1bf821fbcc0588616bdb9e3cb482f970482", func := "loop.example/g00382/laws.FnExactNatInt", spec := "fnExactNatInt", unfollowed := true, recurses := true, apart := false }
def FnExactNatIntSaid : Prop := fnExactNatIntRow.holds Try.pinned (OpenSpec.ofChange fnExactNatIntSpec)

/-- ITS FALSE NEIGHBOUR: 'it returns false'. Refute it at one input. -/
def fnExactNatIntWrong : ChangeSpec := { name := "fnExactNatInt", fn := fun _ => fun
  | [d] => { results := [.lit (.bool false)], args := [d] }
  | _ => none }
def FnExactNatIntWrongFalsely : Prop := fnExactNatIntRow.holds Try.pinned (OpenSpec.ofChange fnExactNatIntWrong)

/-- 'laws.FnExactDyOk': WHATEVER THE INPUT: true; the input reads as it did. -/
def fnExactDyOkSpec : ChangeSpec := { name := "fnExactDyOk", fn := fun _ => fun
  | [d] => { results := [.lit (.bool true)], args := [d] }
  | _ => none }
def fnExactDyOkRow : OpenClaim := { program := "ytjfafkjffjgenaa", sum := "0f566eba3b8a4182c0340ee2cac8f1bf821fbcc0588616bdb9e3cb482f970482", func := "loop.example/g00382/laws.FnExactDyOk", spec := "fnExactDyOk", unfollowed := true, recurses := true, apart := false }
def FnExactDyOkSaid : Prop := fnExactDyOkRow.holds Try.pinned (OpenSpec.ofChange fnExactDyOkSpec)

/-- ITS FALSE NEIGHBOUR: 'it returns false'. Refute it at one input. -/
def fnExactDyOkWrong : ChangeSpec := { name := "fnExactDyOk", fn := fun _ => fun
  | [d] => { results := [.lit (.bool false)], args := [d] }
  | _ => none }
def FnExactDyOkWrongFalsely : Prop := fnExactDyOkRow.holds Try.pinned (OpenSpec.ofChange fnExactDyOkWrong)

/-- 'laws.FnExactDecOk': WHATEVER THE INPUT: true; the input reads as it did. -/
def fnExactDecOkSpec : ChangeSpec := { name := "fnExactDecOk", fn := fun _ => fun
  | [d] => { results := [.lit (.bool true)], args := [d] }
  | _ => none }
def fnExactDecOkRow : OpenClaim := { program := "ytjfafkjffjgenaa", sum := "0f566eba3b8a4182c0340ee2cac8f1bf821fbcc0588616bdb9e3cb482f970482", func := "loop.example/g00382/laws.FnExactDecOk", spec := "fnExactDecOk", unfollowed := true, recurses := true, apart := false }
def FnExactDecOkSaid : Prop := fnExactDecOkRow.holds Try.pinned (OpenSpec.ofChange fnExactDecOkSpec)

/-- ITS FALSE NEIGHBOUR: 'it returns false'. Refute it at one input. -/
def fnExactDecOkWrong : ChangeSpec := { name := "fnExactDecOk", fn := fun _ => fun
  | [d] => { results := [.lit (.bool false)], args := [d] }
  | _ => none }
def FnExactDecOkWrongFalsely : Prop := fnExactDecOkRow.holds Try.pinned (OpenSpec.ofChange fnExactDecOkWrong)

/-- 'laws.FnExactNatShr': WHATEVER THE INPUT: true; the input reads as it did. -/
def fnExactNatShrSpec : ChangeSpec := { name := "fnExactNatShr", fn := fun _ => fun
  | [d1, d2] => { results := [.lit (.bool true)], args := [d1, d2] }
  | _ => none }
def fnExactNatShrRow : OpenClaim := { program := "ytjfafkjffjgenaa", sum := "0f566eba3b8a4182c0340ee2cac8f1bf821fbcc0588616bdb9e3cb482f970482", func := "loop.example/g00382/laws.FnExactNatShr", spec := "fnExactNatShr", unfollowed := true, recurses := true, apart := false }
def FnExactNatShrSaid : Prop := fnExactNatShrRow.holds Try.pinned (OpenSpec.ofChange fnExactNatShrSpec)

/-- ITS FALSE NEIGHBOUR: 'it returns false'. Refute it at one input. -/
def fnExactNatShrWrong : ChangeSpec := { name := "fnExactNatShr", fn := fun _ => fun
  | [d1, d2] => { results := [.lit (.bool false)], args := [d1, d2] }
  | _ => none }
def FnExactNatShrWrongFalsely : Prop := fnExactNatShrRow.holds Try.pinned (OpenSpec.ofChange fnExactNatShrWrong)

/-- 'laws.FnExactWholeOf': WHATEVER THE INPUT: true; the input reads as it did. -/
def fnExactWholeOfSpec : ChangeSpec := { name := "fnExactWholeOf", fn := fun _ => fun
  | [d] => { results := [.lit (.bool true)], args := [d] }
  | _ => none }
def fnExactWholeOfRow : OpenClaim := { program := "ytjfafkjffjgenaa", sum := "0f566eba3b8a4182c0340ee2cac8f1bf821fbcc0588616bdb9e3cb482f970482", func := "loop.example/g00382/laws.FnExactWholeOf", spec := "fnExactWholeOf", apart := false }
def FnExactWholeOfSaid : Prop := fnExactWholeOfRow.holds Try.pinned (OpenSpec.ofChange fnExactWholeOfSpec)

/-- ITS FALSE NEIGHBOUR: 'it returns false'. Refute it at one input. -/
def fnExactWholeOfWrong : ChangeSpec := { name := "fnExactWholeOf", fn := fun _ => fun
  | [d] => { results := [.lit (.bool false)], args := [d] }
  | _ => none }
def FnExactWholeOfWrongFalsely : Prop := fnExactWholeOfRow.holds Try.pinned (OpenSpec.ofChange fnExactWholeOfWrong)

/- THE SECOND FORM. 'bulk': how many values and letters a reading holds, each counted each time it is reached (what is shared counts as often as it is met; a slice's spare places count too). A statement '..UptoSaid' is the law's where the arguments, and the package variables that the reading takes, are together of bulk at most 1048576: NARROWER than '..Said'. Prove '..Said' where nothing that the law and all that it calls make is longer than what came in: it says more and counts as full. Else prove '..UptoSaid'. A law counts once. -/
mutual
def uptoBulk {H : Type} : DataW H → Nat
  | .lit (.string bytes) => bytes.length + 1
  | .lit _ => 1
  | .nil => 1
  | .ptr d => uptoBulk d + 1
  | .slice elems spare => uptoBulkAll elems + uptoBulkAll spare + 1
  | .agg parts => uptoBulkAll parts + 1
  | .iface _ d => uptoBulk d + 1
  | .map entries => uptoBulkEntries entries + 1
  | .held _ => 1
def uptoBulkAll {H : Type} : List (DataW H) → Nat
  | [] => 0
  | d :: r => uptoBulk d + uptoBulkAll r
def uptoBulkEntries {H : Type} : List (Lit × DataW H) → Nat
  | [] => 0
  | x :: r => uptoBulkEntry x + uptoBulkEntries r
def uptoBulkEntry {H : Type} : Lit × DataW H → Nat
  | (.string bytes, d) => bytes.length + uptoBulk d + 1
  | (_, d) => uptoBulk d + 1
 end
def uptoSmall : (H : Type) → List (DataW H) → Bool := fun _ ds => decide (uptoBulkAll ds ≤ 1048576)
def OpenSpec.upto (s : _root_.Go.ChangeSpec) : _root_.Go.OpenSpec := { _root_.Go.OpenSpec.ofChange s with cond := some uptoSmall }

/-- 'laws.FnExactWholeOk', WHERE WHAT IT READS IS OF BULK AT MOST 1048576: true; the input reads as it did. -/
def fnExactWholeOkUptoRow : OpenClaim := { program := "ytjfafkjffjgenaa", sum := "0f566eba3b8a4182c0340ee2cac8f1bf821fbcc0588616bdb9e3cb482f970482", func := "loop.example/g00382/laws.FnExactWholeOk", spec := "fnExactWholeOk", unfollowed := true, recurses := true, apart := false, narrowed := true }
def FnExactWholeOkUptoSaid : Prop := fnExactWholeOkUptoRow.holds Try.pinned (OpenSpec.upto fnExactWholeOkSpec)

/-- 'laws.FnExactRuneAt', WHERE WHAT IT READS IS OF BULK AT MOST 1048576: true; the input reads as it did. -/
def fnExactRuneAtUptoRow : OpenClaim := { program := "ytjfafkjffjgenaa", sum := "0f566eba3b8a4182c0340ee2cac8f1bf821fbcc0588616bdb9e3cb482f970482", func := "loop.example/g00382/laws.FnExactRuneAt", spec := "fnExactRuneAt", apart := false, narrowed := true }
def FnExactRuneAtUptoSaid : Prop := fnExactRuneAtUptoRow.holds Try.pinned (OpenSpec.upto fnExactRuneAtSpec)

/-- 'laws.FnExactFlNext', WHERE WHAT IT READS IS OF BULK AT MOST 1048576: true; the input reads as it did. -/
def fnExactFlNextUptoRow : OpenClaim := { program := "ytjfafkjffjgenaa", sum := "0f566eba3b8a4182c0340ee2cac8f1bf821fbcc0588616bdb9e3cb482f970482", func := "loop.example/g00382/laws.FnExactFlNext", spec := "fnExactFlNext", apart := false, narrowed := true }
def FnExactFlNextUptoSaid : Prop := fnExactFlNextUptoRow.holds Try.pinned (OpenSpec.upto fnExactFlNextSpec)

/-- 'laws.FnExactNatBits', WHERE WHAT IT READS IS OF BULK AT MOST 1048576: true; the input reads as it did. -/
def fnExactNatBitsUptoRow : OpenClaim := { program := "ytjfafkjffjgenaa", sum := "0f566eba3b8a4182c0340ee2cac8f1bf821fbcc0588616bdb9e3cb482f970482", func := "loop.example/g00382/laws.FnExactNatBits", spec := "fnExactNatBits", unfollowed := true, recurses := true, apart := false, narrowed := true }
def FnExactNatBitsUptoSaid : Prop := fnExactNatBitsUptoRow.holds Try.pinned (OpenSpec.upto fnExactNatBitsSpec)

/-- 'laws.FnExactClean', WHERE WHAT IT READS IS OF BULK AT MOST 1048576: true; the input reads as it did. -/
def fnExactCleanUptoRow : OpenClaim := { program := "ytjfafkjffjgenaa", sum := "0f566eba3b8a4182c0340ee2cac8f1bf821fbcc0588616bdb9e3cb482f970482", func := "loop.example/g00382/laws.FnExactClean", spec := "fnExactClean", apart := false, narrowed := true }
def FnExactCleanUptoSaid : Prop := fnExactCleanUptoRow.holds Try.pinned (OpenSpec.upto fnExactCleanSpec)

/-- 'laws.FnExactNatCmp', WHERE WHAT IT READS IS OF BULK AT MOST 1048576: true; the input reads as it did. -/
def fnExactNatCmpUptoRow : OpenClaim := { program := "ytjfafkjffjgenaa", sum := "0f566eba3b8a4182c0340ee2cac8f1bf821fbcc0588616bdb9e3cb482f970482", func := "loop.example/g00382/laws.FnExactNatCmp", spec := "fnExactNatCmp", unfollowed := true, recurses := true, apart := false, narrowed := true }
def FnExactNatCmpUptoSaid : Prop := fnExactNatCmpUptoRow.holds Try.pinned (OpenSpec.upto fnExactNatCmpSpec)

/-- 'laws.FnExactNatInt', WHERE WHAT IT READS IS OF BULK AT MOST 1048576: true; the input reads as it did. -/
def fnExactNatIntUptoRow : OpenClaim := { program := "ytjfafkjffjgenaa", sum := "0f566eba3b8a4182c0340ee2cac8f1bf821fbcc0588616bdb9e3cb482f970482", func := "loop.example/g00382/laws.FnExactNatInt", spec := "fnExactNatInt", unfollowed := true, recurses := true, apart := false, narrowed := true }
def FnExactNatIntUptoSaid : Prop := fnExactNatIntUptoRow.holds Try.pinned (OpenSpec.upto fnExactNatIntSpec)

/-- 'laws.FnExactDyOk', WHERE WHAT IT READS IS OF BULK AT MOST 1048576: true; the input reads as it did. -/
def fnExactDyOkUptoRow : OpenClaim := { program := "ytjfafkjffjgenaa", sum := "0f566eba3b8a4182c0340ee2cac8f1bf821fbcc0588616bdb9e3cb482f970482", func := "loop.example/g00382/laws.FnExactDyOk", spec := "fnExactDyOk", unfollowed := true, recurses := true, apart := false, narrowed := true }
def FnExactDyOkUptoSaid : Prop := fnExactDyOkUptoRow.holds Try.pinned (OpenSpec.upto fnExactDyOkSpec)

/-- 'laws.FnExactDecOk', WHERE WHAT IT READS IS OF BULK AT MOST 1048576: true; the input reads as it did. -/
def fnExactDecOkUptoRow : OpenClaim := { program := "ytjfafkjffjgenaa", sum := "0f566eba3b8a4182c0340ee2cac8f1bf821fbcc0588616bdb9e3cb482f970482", func := "loop.example/g00382/laws.FnExactDecOk", spec := "fnExactDecOk", unfollowed := true, recurses := true, apart := false, narrowed := true }
def FnExactDecOkUptoSaid : Prop := fnExactDecOkUptoRow.holds Try.pinned (OpenSpec.upto fnExactDecOkSpec)

/-- 'laws.FnExactNatShr', WHERE WHAT IT READS IS OF BULK AT MOST 1048576: true; the input reads as it did. -/
def fnExactNatShrUptoRow : OpenClaim := { program := "ytjfafkjffjgenaa", sum := "0f566eba3b8a4182c0340ee2cac8f1bf821fbcc0588616bdb9e3cb482f970482", func := "loop.example/g00382/laws.FnExactNatShr", spec := "fnExactNatShr", unfollowed := true, recurses := true, apart := false, narrowed := true }
def FnExactNatShrUptoSaid : Prop := fnExactNatShrUptoRow.holds Try.pinned (OpenSpec.upto fnExactNatShrSpec)

/-- 'laws.FnExactWholeOf', WHERE WHAT IT READS IS OF BULK AT MOST 1048576: true; the input reads as it did. -/
def fnExactWholeOfUptoRow : OpenClaim := { program := "ytjfafkjffjgenaa", sum := "0f566eba3b8a4182c0340ee2cac8f1bf821fbcc0588616bdb9e3cb482f970482", func := "loop.example/g00382/laws.FnExactWholeOf", spec := "fnExactWholeOf", apart := false, narrowed := true }
def FnExactWholeOfUptoSaid : Prop := fnExactWholeOfUptoRow.holds Try.pinned (OpenSpec.upto fnExactWholeOfSpec)

end Rows
end Go.Proofs.Ytjfafkjffjgenaa
