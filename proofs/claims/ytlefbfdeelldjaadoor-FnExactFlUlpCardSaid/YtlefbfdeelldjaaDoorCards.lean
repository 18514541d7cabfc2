/-
  DERIVED. GIVEN WITH THE SEED: THE CARDS: each row of YtlefbfdeelldjaaDoorRows.lean that lists a variable, with what it lists TIED to the program's text (the seventh form; the later family's looks); each row that meets fmt, with fmt's text TOLD by the authors' own Lean function (tested against real Go, not proved from fmt's source: count such statements apart). THE CARD IS WHAT COUNTS. Prove the row's statement (the work); the ties are given (YtlefbfdeelldjaaDoorTie.lean); close each card by the builder's one call (the guide's Derived/Test/ToyasCard.lean, 'card_holds'). Laid BY PROGRAM, IN A SANDBOX (cutbox-door.mjs). By AI agents, Wed Nov 11 2026. No macro, syntax, notation, axiom, sorry.
-/
import Derived.Test.YtlefbfdeelldjaaDoorRows
import GoSem.ClaimSeven
namespace Go.Proofs.YtlefbfdeelldjaaDoor
namespace Rows

/-- THE TIED CARD OF 'laws.FnExactFlUlp'. -/
def fnExactFlUlpCard : Claim7 := { stood := { row := fnExactFlUlpRow, standIns := [], harness := (true, "400fdd4f35b522c343b9394ad6e6bc6a435f977a2c8896c5bed1e86e9902e954"), looks := false }, kinds := [], alts := [], laidByText := true, laidKinds := [.data, .data], laidTests := true, laidLooks := .later }
def FnExactFlUlpCardSaid : Prop := Claim7.holds Tryd.pinned (.plain (OpenSpec.ofChange fnExactFlUlpSpec)) fnExactFlUlpCard

/-- THE SECOND FORM's CARD OF 'laws.FnExactFlUlp'. -/
def fnExactFlUlpUptoCard : Claim7 := { stood := { row := fnExactFlUlpUptoRow, standIns := [], harness := (true, "400fdd4f35b522c343b9394ad6e6bc6a435f977a2c8896c5bed1e86e9902e954"), looks := false }, kinds := [], alts := [], laidByText := true, laidKinds := [.data, .data], laidTests := true, laidLooks := .later }
def FnExactFlUlpUptoCardSaid : Prop := Claim7.holds Tryd.pinned (.plain (OpenSpec.upto fnExactFlUlpSpec)) fnExactFlUlpUptoCard
end Rows
end Go.Proofs.YtlefbfdeelldjaaDoor
