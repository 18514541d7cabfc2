/-
  No cell of these rows narrows 'for every input' (looked for: loops, veiled, ifaces, maps, wideKeys, modest, calm, conditions, laid).
  DERIVED. THE GIVEN ROWS OF THIS SEAT. 12 by the template 'for every input the law returns true; each argument reads behind the call as it read before'; 0 by the template 'total and deterministic' (their statements: YtnodpgddmkmngaaTotals.lean).
  GIVEN WITH THE SEED: the statements are not yours to turn. If you find one false, say at which input.
  Laid BY PROGRAM, IN A SANDBOX (cutbox-rows.mjs): the forced cells as the released guide's own fill.sh prints them over the translation c5843e595a6077cc… (all of the seat's roots in one cut). By AI agents, Wed Nov 11 2026. No macro, syntax, notation, axiom, sorry.
-/
import Derived.Test.YtnodpgddmkmngaaChecked
import GoSem.Claim
import GoSem.ClaimJoined
import GoSem.ClaimMapViews
import Derived.JoinedTies
import Derived.KernelRfl
namespace Go.Proofs.Ytnodpgddmkmngaa
/- THE CELL 'sum', in the pinned program and in every row, IS THE sha256 OF THE DUMP (.gsa) THAT YtnodpgddmkmngaaProg.lean LOADS. Nothing in Lean hashes anything: it is a label: what it is worth is what the hold of that sum in a sandbox is worth. -/
noncomputable def Try.pinned : Pinned := { name := "ytnodpgddmkmngaa", sum := "c5843e595a6077cc72c820cb2be51d34532995e979cea10cc7b8a42acd365466", checked := Try.checked }
namespace Rows
def none {H : Type} : Left H := { results := [], args := [] }

/-- 'laws.FnExactConstants': WHATEVER THE INPUT: true; the input reads as it did. -/
def fnExactConstantsSpec : ChangeSpec := { name := "fnExactConstants", fn := fun _ => fun
  | [] => { results := [.lit (.bool true)], args := [] }
  | _ => none }
def fnExactConstantsRow : OpenClaim := { program := "ytnodpgddmkmngaa", sum := "c5843e595a6077cc72c820cb2be51d34532995e979cea10cc7b8a42acd365466", func := "loop.example/g00382/laws.FnExactConstants", spec := "fnExactConstants", apart := false }
def FnExactConstantsSaid : Prop := fnExactConstantsRow.holds Try.pinned (OpenSpec.ofChange fnExactConstantsSpec)

/-- ITS FALSE NEIGHBOUR: 'it returns false'. Refute it at one input. -/
def fnExactConstantsWrong : ChangeSpec := { name := "fnExactConstants", fn := fun _ => fun
  | [] => { results := [.lit (.bool false)], args := [] }
  | _ => none }
def FnExactConstantsWrongFalsely : Prop := fnExactConstantsRow.holds Try.pinned (OpenSpec.ofChange fnExactConstantsWrong)

/-- 'laws.FnExactIsBlank': WHATEVER THE INPUT: true; the input reads as it did. -/
def fnExactIsBlankSpec : ChangeSpec := { name := "fnExactIsBlank", fn := fun _ => fun
  | [d] => { results := [.lit (.bool true)], args := [d] }
  | _ => none }
def fnExactIsBlankRow : OpenClaim := { program := "ytnodpgddmkmngaa", sum := "c5843e595a6077cc72c820cb2be51d34532995e979cea10cc7b8a42acd365466", func := "loop.example/g00382/laws.FnExactIsBlank", spec := "fnExactIsBlank", apart := false }
def FnExactIsBlankSaid : Prop := fnExactIsBlankRow.holds Try.pinned (OpenSpec.ofChange fnExactIsBlankSpec)

/-- ITS FALSE NEIGHBOUR: 'it returns false'. Refute it at one input. -/
def fnExactIsBlankWrong : ChangeSpec := { name := "fnExactIsBlank", fn := fun _ => fun
  | [d] => { results := [.lit (.bool false)], args := [d] }
  | _ => none }
def FnExactIsBlankWrongFalsely : Prop := fnExactIsBlankRow.holds Try.pinned (OpenSpec.ofChange fnExactIsBlankWrong)

/-- 'laws.FnExactSignOf': WHATEVER THE INPUT: true; the input reads as it did. -/
def fnExactSignOfSpec : ChangeSpec := { name := "fnExactSignOf", fn := fun _ => fun
  | [d] => { results := [.lit (.bool true)], args := [d] }
  | _ => none }
def fnExactSignOfRow : OpenClaim := { program := "ytnodpgddmkmngaa", sum := "c5843e595a6077cc72c820cb2be51d34532995e979cea10cc7b8a42acd365466", func := "loop.example/g00382/laws.FnExactSignOf", spec := "fnExactSignOf", apart := false }
def FnExactSignOfSaid : Prop := fnExactSignOfRow.holds Try.pinned (OpenSpec.ofChange fnExactSignOfSpec)

/-- ITS FALSE NEIGHBOUR: 'it returns false'. Refute it at one input. -/
def fnExactSignOfWrong : ChangeSpec := { name := "fnExactSignOf", fn := fun _ => fun
  | [d] => { results := [.lit (.bool false)], args := [d] }
  | _ => none }
def FnExactSignOfWrongFalsely : Prop := fnExactSignOfRow.holds Try.pinned (OpenSpec.ofChange fnExactSignOfWrong)

/-- 'laws.FnExactDigitOf': WHATEVER THE INPUT: true; the input reads as it did. -/
def fnExactDigitOfSpec : ChangeSpec := { name := "fnExactDigitOf", fn := fun _ => fun
  | [d] => { results := [.lit (.bool true)], args := [d] }
  | _ => none }
def fnExactDigitOfRow : OpenClaim := { program := "ytnodpgddmkmngaa", sum := "c5843e595a6077cc72c820cb2be51d34532995e979cea10cc7b8a42acd365466", func := "loop.example/g00382/laws.FnExactDigitOf", spec := "fnExactDigitOf", apart := false }
def FnExactDigitOfSaid : Prop := fnExactDigitOfRow.holds Try.pinned (OpenSpec.ofChange fnExactDigitOfSpec)

/-- ITS FALSE NEIGHBOUR: 'it returns false'. Refute it at one input. -/
def fnExactDigitOfWrong : ChangeSpec := { name := "fnExactDigitOf", fn := fun _ => fun
  | [d] => { results := [.lit (.bool false)], args := [d] }
  | _ => none }
def FnExactDigitOfWrongFalsely : Prop := fnExactDigitOfRow.holds Try.pinned (OpenSpec.ofChange fnExactDigitOfWrong)

/-- 'laws.FnExactFlOk': WHATEVER THE INPUT: true; the input reads as it did. -/
def fnExactFlOkSpec : ChangeSpec := { name := "fnExactFlOk", fn := fun _ => fun
  | [d] => { results := [.lit (.bool true)], args := [d] }
  | _ => none }
def fnExactFlOkRow : OpenClaim := { program := "ytnodpgddmkmngaa", sum := "c5843e595a6077cc72c820cb2be51d34532995e979cea10cc7b8a42acd365466", func := "loop.example/g00382/laws.FnExactFlOk", spec := "fnExactFlOk", apart := false }
def FnExactFlOkSaid : Prop := fnExactFlOkRow.holds Try.pinned (OpenSpec.ofChange fnExactFlOkSpec)

/-- ITS FALSE NEIGHBOUR: 'it returns false'. Refute it at one input. -/
def fnExactFlOkWrong : ChangeSpec := { name := "fnExactFlOk", fn := fun _ => fun
  | [d] => { results := [.lit (.bool false)], args := [d] }
  | _ => none }
def FnExactFlOkWrongFalsely : Prop := fnExactFlOkRow.holds Try.pinned (OpenSpec.ofChange fnExactFlOkWrong)

/-- 'laws.FnExactFlUnpack': WHATEVER THE INPUT: true; the input reads as it did. -/
def fnExactFlUnpackSpec : ChangeSpec := { name := "fnExactFlUnpack", fn := fun _ => fun
  | [d1, d2] => { results := [.lit (.bool true)], args := [d1, d2] }
  | _ => none }
def fnExactFlUnpackRow : OpenClaim := { program := "ytnodpgddmkmngaa", sum := "c5843e595a6077cc72c820cb2be51d34532995e979cea10cc7b8a42acd365466", func := "loop.example/g00382/laws.FnExactFlUnpack", spec := "fnExactFlUnpack", apart := false }
def FnExactFlUnpackSaid : Prop := fnExactFlUnpackRow.holds Try.pinned (OpenSpec.ofChange fnExactFlUnpackSpec)

/-- ITS FALSE NEIGHBOUR: 'it returns false'. Refute it at one input. -/
def fnExactFlUnpackWrong : ChangeSpec := { name := "fnExactFlUnpack", fn := fun _ => fun
  | [d1, d2] => { results := [.lit (.bool false)], args := [d1, d2] }
  | _ => none }
def FnExactFlUnpackWrongFalsely : Prop := fnExactFlUnpackRow.holds Try.pinned (OpenSpec.ofChange fnExactFlUnpackWrong)

/-- 'laws.FnExactNatOk': WHATEVER THE INPUT: true; the input reads as it did. -/
def fnExactNatOkSpec : ChangeSpec := { name := "fnExactNatOk", fn := fun _ => fun
  | [d] => { results := [.lit (.bool true)], args := [d] }
  | _ => none }
def fnExactNatOkRow : OpenClaim := { program := "ytnodpgddmkmngaa", sum := "c5843e595a6077cc72c820cb2be51d34532995e979cea10cc7b8a42acd365466", func := "loop.example/g00382/laws.FnExactNatOk", spec := "fnExactNatOk", unfollowed := true, recurses := true, apart := false }
def FnExactNatOkSaid : Prop := fnExactNatOkRow.holds Try.pinned (OpenSpec.ofChange fnExactNatOkSpec)

/-- ITS FALSE NEIGHBOUR: 'it returns false'. Refute it at one input. -/
def fnExactNatOkWrong : ChangeSpec := { name := "fnExactNatOk", fn := fun _ => fun
  | [d] => { results := [.lit (.bool false)], args := [d] }
  | _ => none }
def FnExactNatOkWrongFalsely : Prop := fnExactNatOkRow.holds Try.pinned (OpenSpec.ofChange fnExactNatOkWrong)

/-- 'laws.FnExactRuneBytes': WHATEVER THE INPUT: true; the input reads as it did. -/
def fnExactRuneBytesSpec : ChangeSpec := { name := "fnExactRuneBytes", fn := fun _ => fun
  | [d] => { results := [.lit (.bool true)], args := [d] }
  | _ => none }
def fnExactRuneBytesRow : OpenClaim := { program := "ytnodpgddmkmngaa", sum := "c5843e595a6077cc72c820cb2be51d34532995e979cea10cc7b8a42acd365466", func := "loop.example/g00382/laws.FnExactRuneBytes", spec := "fnExactRuneBytes", apart := false }
def FnExactRuneBytesSaid : Prop := fnExactRuneBytesRow.holds Try.pinned (OpenSpec.ofChange fnExactRuneBytesSpec)

/-- ITS FALSE NEIGHBOUR: 'it returns false'. Refute it at one input. -/
def fnExactRuneBytesWrong : ChangeSpec := { name := "fnExactRuneBytes", fn := fun _ => fun
  | [d] => { results := [.lit (.bool false)], args := [d] }
  | _ => none }
def FnExactRuneBytesWrongFalsely : Prop := fnExactRuneBytesRow.holds Try.pinned (OpenSpec.ofChange fnExactRuneBytesWrong)

/-- 'laws.FnExactFlNeg': WHATEVER THE INPUT: true; the input reads as it did. -/
def fnExactFlNegSpec : ChangeSpec := { name := "fnExactFlNeg", fn := fun _ => fun
  | [d] => { results := [.lit (.bool true)], args := [d] }
  | _ => none }
def fnExactFlNegRow : OpenClaim := { program := "ytnodpgddmkmngaa", sum := "c5843e595a6077cc72c820cb2be51d34532995e979cea10cc7b8a42acd365466", func := "loop.example/g00382/laws.FnExactFlNeg", spec := "fnExactFlNeg", apart := false }
def FnExactFlNegSaid : Prop := fnExactFlNegRow.holds Try.pinned (OpenSpec.ofChange fnExactFlNegSpec)

/-- ITS FALSE NEIGHBOUR: 'it returns false'. Refute it at one input. -/
def fnExactFlNegWrong : ChangeSpec := { name := "fnExactFlNeg", fn := fun _ => fun
  | [d] => { results := [.lit (.bool false)], args := [d] }
  | _ => none }
def FnExactFlNegWrongFalsely : Prop := fnExactFlNegRow.holds Try.pinned (OpenSpec.ofChange fnExactFlNegWrong)

/-- 'laws.FnExactFlPack': WHATEVER THE INPUT: true; the input reads as it did. -/
def fnExactFlPackSpec : ChangeSpec := { name := "fnExactFlPack", fn := fun _ => fun
  | [d] => { results := [.lit (.bool true)], args := [d] }
  | _ => none }
def fnExactFlPackRow : OpenClaim := { program := "ytnodpgddmkmngaa", sum := "c5843e595a6077cc72c820cb2be51d34532995e979cea10cc7b8a42acd365466", func := "loop.example/g00382/laws.FnExactFlPack", spec := "fnExactFlPack", apart := false }
def FnExactFlPackSaid : Prop := fnExactFlPackRow.holds Try.pinned (OpenSpec.ofChange fnExactFlPackSpec)

/-- ITS FALSE NEIGHBOUR: 'it returns false'. Refute it at one input. -/
def fnExactFlPackWrong : ChangeSpec := { name := "fnExactFlPack", fn := fun _ => fun
  | [d] => { results := [.lit (.bool false)], args := [d] }
  | _ => none }
def FnExactFlPackWrongFalsely : Prop := fnExactFlPackRow.holds Try.pinned (OpenSpec.ofChange fnExactFlPackWrong)

/-- 'laws.FnExactNatOf': WHATEVER THE INPUT: true; the input reads as it did. -/
def fnExactNatOfSpec : ChangeSpec := { name := "fnExactNatOf", fn := fun _ => fun
  | [d] => { results := [.lit (.bool true)], args := [d] }
  | _ => none }
def fnExactNatOfRow : OpenClaim := { program := "ytnodpgddmkmngaa", sum := "c5843e595a6077cc72c820cb2be51d34532995e979cea10cc7b8a42acd365466", func := "loop.example/g00382/laws.FnExactNatOf", spec := "fnExactNatOf", apart := false }
def FnExactNatOfSaid : Prop := fnExactNatOfRow.holds Try.pinned (OpenSpec.ofChange fnExactNatOfSpec)

/-- ITS FALSE NEIGHBOUR: 'it returns false'. Refute it at one input. -/
def fnExactNatOfWrong : ChangeSpec := { name := "fnExactNatOf", fn := fun _ => fun
  | [d] => { results := [.lit (.bool false)], args := [d] }
  | _ => none }
def FnExactNatOfWrongFalsely : Prop := fnExactNatOfRow.holds Try.pinned (OpenSpec.ofChange fnExactNatOfWrong)

/-- 'laws.FnExactNatBit': WHATEVER THE INPUT: true; the input reads as it did. -/
def fnExactNatBitSpec : ChangeSpec := { name := "fnExactNatBit", fn := fun _ => fun
  | [d1, d2] => { results := [.lit (.bool true)], args := [d1, d2] }
  | _ => none }
def fnExactNatBitRow : OpenClaim := { program := "ytnodpgddmkmngaa", sum := "c5843e595a6077cc72c820cb2be51d34532995e979cea10cc7b8a42acd365466", func := "loop.example/g00382/laws.FnExactNatBit", spec := "fnExactNatBit", unfollowed := true, recurses := true, apart := false }
def FnExactNatBitSaid : Prop := fnExactNatBitRow.holds Try.pinned (OpenSpec.ofChange fnExactNatBitSpec)

/-- ITS FALSE NEIGHBOUR: 'it returns false'. Refute it at one input. -/
def fnExactNatBitWrong : ChangeSpec := { name := "fnExactNatBit", fn := fun _ => fun
  | [d1, d2] => { results := [.lit (.bool false)], args := [d1, d2] }
  | _ => none }
def FnExactNatBitWrongFalsely : Prop := fnExactNatBitRow.holds Try.pinned (OpenSpec.ofChange fnExactNatBitWrong)

/- THE SECOND FORM. 'bulk': how many values and letters a reading holds, each counted each time it is reached (what is shared counts as often as it is met; a slice's spare places count too). A statement '..UptoSaid' is the law's where the arguments, and the package variables that the reading takes, are together of bulk at most 1048576: NARROWER than '..Said'. Prove '..Said' where nothing that the law and all that it calls make is longer than what came in: it says more and counts as full. Else prove '..UptoSaid'. A law counts once. -/
mutual
def uptoBulk {H : Type} : DataW H → Nat
  | .lit (.string bytes) => bytes.length + 1
  | .lit _ => 1
  | .nil => 1
  | .ptr d => uptoBulk d + 1
  | .slice elems spare => uptoBulkAll elems + uptoBulkAll spare + 1
  | .agg parts => uptoBulkAll parts + 1
  | .iface _ d => uptoBulk d + 1
  | .map entries => uptoBulkEntries entries + 1
  | .held _ => 1
def uptoBulkAll {H : Type} : List (DataW H) → Nat
  | [] => 0
  | d :: r => uptoBulk d + uptoBulkAll r
def uptoBulkEntries {H : Type} : List (Lit × DataW H) → Nat
  | [] => 0
  | x :: r => uptoBulkEntry x + uptoBulkEntries r
def uptoBulkEntry {H : Type} : Lit × DataW H → Nat
  | (.string bytes, d) => bytes.length + uptoBulk d + 1
  | (_, d) => uptoBulk d + 1
 end
def uptoSmall : (H : Type) → List (DataW H) → Bool := fun _ ds => decide (uptoBulkAll ds ≤ 1048576)
def OpenSpec.upto (s : _root_.Go.ChangeSpec) : _root_.Go.OpenSpec := { _root_.Go.OpenSpec.ofChange s with cond := some uptoSmall }

/-- 'laws.FnExactConstants', WHERE WHAT IT READS IS OF BULK AT MOST 1048576: true; the input reads as it did. -/
def fnExactConstantsUptoRow : OpenClaim := { program := "ytnodpgddmkmngaa", sum := "c5843e595a6077cc72c820cb2be51d34532995e979cea10cc7b8a42acd365466", func := "loop.example/g00382/laws.FnExactConstants", spec := "fnExactConstants", apart := false, narrowed := true }
def FnExactConstantsUptoSaid : Prop := fnExactConstantsUptoRow.holds Try.pinned (OpenSpec.upto fnExactConstantsSpec)

/-- 'laws.FnExactIsBlank', WHERE WHAT IT READS IS OF BULK AT MOST 1048576: true; the input reads as it did. -/
def fnExactIsBlankUptoRow : OpenClaim := { program := "ytnodpgddmkmngaa", sum := "c5843e595a6077cc72c820cb2be51d34532995e979cea10cc7b8a42acd365466", func := "loop.example/g00382/laws.FnExactIsBlank", spec := "fnExactIsBlank", apart := false, narrowed := true }
def FnExactIsBlankUptoSaid : Prop := fnExactIsBlankUptoRow.holds Try.pinned (OpenSpec.upto fnExactIsBlankSpec)

/-- 'laws.FnExactSignOf', WHERE WHAT IT READS IS OF BULK AT MOST 1048576: true; the input reads as it did. -/
def fnExactSignOfUptoRow : OpenClaim := { program := "ytnodpgddmkmngaa", sum := "c5843e595a6077cc72c820cb2be51d34532995e979cea10cc7b8a42acd365466", func := "loop.example/g00382/laws.FnExactSignOf", spec := "fnExactSignOf", apart := false, narrowed := true }
def FnExactSignOfUptoSaid : Prop := fnExactSignOfUptoRow.holds Try.pinned (OpenSpec.upto fnExactSignOfSpec)

/-- 'laws.FnExactDigitOf', WHERE WHAT IT READS IS OF BULK AT MOST 1048576: true; the input reads as it did. -/
def fnExactDigitOfUptoRow : OpenClaim := { program := "ytnodpgddmkmngaa", sum := "c5843e595a6077cc72c820cb2be51d34532995e979cea10cc7b8a42acd365466", func := "loop.example/g00382/laws.FnExactDigitOf", spec := "fnExactDigitOf", apart := false, narrowed := true }
def FnExactDigitOfUptoSaid : Prop := fnExactDigitOfUptoRow.holds Try.pinned (OpenSpec.upto fnExactDigitOfSpec)

/-- 'laws.FnExactFlOk', WHERE WHAT IT READS IS OF BULK AT MOST 1048576: true; the input reads as it did. -/
def fnExactFlOkUptoRow : OpenClaim := { program := "ytnodpgddmkmngaa", sum := "c5843e595a6077cc72c820cb2be51d34532995e979cea10cc7b8a42acd365466", func := "loop.example/g00382/laws.FnExactFlOk", spec := "fnExactFlOk", apart := false, narrowed := true }
def FnExactFlOkUptoSaid : Prop := fnExactFlOkUptoRow.holds Try.pinned (OpenSpec.upto fnExactFlOkSpec)

/-- 'laws.FnExactFlUnpack', WHERE WHAT IT READS IS OF BULK AT MOST 1048576: true; the input reads as it did. -/
def fnExactFlUnpackUptoRow : OpenClaim := { program := "ytnodpgddmkmngaa", sum := "c5843e595a6077cc72c820cb2be51d34532995e979cea10cc7b8a42acd365466", func := "loop.example/g00382/laws.FnExactFlUnpack", spec := "fnExactFlUnpack", apart := false, narrowed := true }
def FnExactFlUnpackUptoSaid : Prop := fnExactFlUnpackUptoRow.holds Try.pinned (OpenSpec.upto fnExactFlUnpackSpec)

/-- 'laws.FnExactNatOk', WHERE WHAT IT READS IS OF BULK AT MOST 1048576: true; the input reads as it did. -/
def fnExactNatOkUptoRow : OpenClaim := { program := "ytnodpgddmkmngaa", sum := "c5843e595a6077cc72c820cb2be51d34532995e979cea10cc7b8a42acd365466", func := "loop.example/g00382/laws.FnExactNatOk", spec := "fnExactNatOk", unfollowed := true, recurses := true, apart := false, narrowed := true }
def FnExactNatOkUptoSaid : Prop := fnExactNatOkUptoRow.holds Try.pinned (OpenSpec.upto fnExactNatOkSpec)

/-- 'laws.FnExactRuneBytes', WHERE WHAT IT READS IS OF BULK AT MOST 1048576: true; the input reads as it did. -/
def fnExactRuneBytesUptoRow : OpenClaim := { program := "ytnodpgddmkmngaa", sum := "c5843e595a6077cc72c820cb2be51d34532995e979cea10cc7b8a42acd365466", func := "loop.example/g00382/laws.FnExactRuneBytes", spec := "fnExactRuneBytes", apart := false, narrowed := true }
def FnExactRuneBytesUptoSaid : Prop := fnExactRuneBytesUptoRow.holds Try.pinned (OpenSpec.upto fnExactRuneBytesSpec)

/-- 'laws.FnExactFlNeg', WHERE WHAT IT READS IS OF BULK AT MOST 1048576: true; the input reads as it did. -/
def fnExactFlNegUptoRow : OpenClaim := { program := "ytnodpgddmkmngaa", sum := "c5843e595a6077cc72c820cb2be51d34532995e979cea10cc7b8a42acd365466", func := "loop.example/g00382/laws.FnExactFlNeg", spec := "fnExactFlNeg", apart := false, narrowed := true }
def FnExactFlNegUptoSaid : Prop := fnExactFlNegUptoRow.holds Try.pinned (OpenSpec.upto fnExactFlNegSpec)

/-- 'laws.FnExactFlPack', WHERE WHAT IT READS IS OF BULK AT MOST 1048576: true; the input reads as it did. -/
def fnExactFlPackUptoRow : OpenClaim := { program := "ytnodpgddmkmngaa", sum := "c5843e595a6077cc72c820cb2be51d34532995e979cea10cc7b8a42acd365466", func := "loop.example/g00382/laws.FnExactFlPack", spec := "fnExactFlPack", apart := false, narrowed := true }
def FnExactFlPackUptoSaid : Prop := fnExactFlPackUptoRow.holds Try.pinned (OpenSpec.upto fnExactFlPackSpec)

/-- 'laws.FnExactNatOf', WHERE WHAT IT READS IS OF BULK AT MOST 1048576: true; the input reads as it did. -/
def fnExactNatOfUptoRow : OpenClaim := { program := "ytnodpgddmkmngaa", sum := "c5843e595a6077cc72c820cb2be51d34532995e979cea10cc7b8a42acd365466", func := "loop.example/g00382/laws.FnExactNatOf", spec := "fnExactNatOf", apart := false, narrowed := true }
def FnExactNatOfUptoSaid : Prop := fnExactNatOfUptoRow.holds Try.pinned (OpenSpec.upto fnExactNatOfSpec)

/-- 'laws.FnExactNatBit', WHERE WHAT IT READS IS OF BULK AT MOST 1048576: true; the input reads as it did. -/
def fnExactNatBitUptoRow : OpenClaim := { program := "ytnodpgddmkmngaa", sum := "c5843e595a6077cc72c820cb2be51d34532995e979cea10cc7b8a42acd365466", func := "loop.example/g00382/laws.FnExactNatBit", spec := "fnExactNatBit", unfollowed := true, recurses := true, apart := false, narrowed := true }
def FnExactNatBitUptoSaid : Prop := fnExactNatBitUptoRow.holds Try.pinned (OpenSpec.upto fnExactNatBitSpec)

end Rows
end Go.Proofs.Ytnodpgddmkmngaa
