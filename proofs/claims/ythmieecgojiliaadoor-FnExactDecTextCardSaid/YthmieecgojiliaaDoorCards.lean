/-
  DERIVED. GIVEN WITH THE SEED: THE CARDS: each row of YthmieecgojiliaaDoorRows.lean that lists a variable, with what it lists TIED to the program's text (the seventh form; the later family's looks); each row that meets fmt, with fmt's text TOLD by the authors' own Lean function (tested against real Go, not proved from fmt's source: count such statements apart). THE CARD IS WHAT COUNTS. Prove the row's statement (the work); the ties are given (YthmieecgojiliaaDoorTie.lean); close each card by the builder's one call (the guide's Derived/Test/ToyasCard.lean, 'card_holds'). Laid BY PROGRAM, IN A SANDBOX (cutbox-door.mjs). By AI agents, Wed Nov 11 2026. No macro, syntax, notation, axiom, sorry.
-/
import Derived.Test.YthmieecgojiliaaDoorRows
import GoSem.ClaimSeven
namespace Go.Proofs.YthmieecgojiliaaDoor
namespace Rows

/-- THE TIED CARD OF 'laws.FnExactDecText'. -/
def fnExactDecTextCard : Claim7 := { stood := { row := fnExactDecTextRow, standIns := [], harness := (true, "1ec1477d71de720cdea3f59fe34c877594f53e7d940aa924feb63f4b47d02ecf"), looks := false }, kinds := [], alts := [], laidByText := true, laidKinds := [.data, .data, .data], laidTests := true, laidLooks := .later }
def FnExactDecTextCardSaid : Prop := Claim7.holds Tryd.pinned (.plain (OpenSpec.ofChange fnExactDecTextSpec)) fnExactDecTextCard

/-- THE SECOND FORM's CARD OF 'laws.FnExactDecText'. -/
def fnExactDecTextUptoCard : Claim7 := { stood := { row := fnExactDecTextUptoRow, standIns := [], harness := (true, "1ec1477d71de720cdea3f59fe34c877594f53e7d940aa924feb63f4b47d02ecf"), looks := false }, kinds := [], alts := [], laidByText := true, laidKinds := [.data, .data, .data], laidTests := true, laidLooks := .later }
def FnExactDecTextUptoCardSaid : Prop := Claim7.holds Tryd.pinned (.plain (OpenSpec.upto fnExactDecTextSpec)) fnExactDecTextUptoCard
end Rows
end Go.Proofs.YthmieecgojiliaaDoor
