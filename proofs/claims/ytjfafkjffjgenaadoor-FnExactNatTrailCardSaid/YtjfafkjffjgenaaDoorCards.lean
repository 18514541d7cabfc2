/-
  DERIVED. GIVEN WITH THE SEED: THE CARDS: each row of YtjfafkjffjgenaaDoorRows.lean that lists a variable, with what it lists TIED to the program's text (the seventh form; the later family's looks); each row that meets fmt, with fmt's text TOLD by the authors' own Lean function (tested against real Go, not proved from fmt's source: count such statements apart). THE CARD IS WHAT COUNTS. Prove the row's statement (the work); the ties are given (YtjfafkjffjgenaaDoorTie.lean); close each card by the builder's one call (the guide's Derived/Test/ToyasCard.lean, 'card_holds'). Laid BY PROGRAM, IN A SANDBOX (cutbox-door.mjs). By AI agents, Wed Nov 11 2026. No macro, syntax, notation, axiom, sorry.
-/
import Derived.Test.YtjfafkjffjgenaaDoorRows
import GoSem.ClaimSeven
namespace Go.Proofs.YtjfafkjffjgenaaDoor
namespace Rows

/-- THE TIED CARD OF 'laws.FnExactNatTrail'. -/
def fnExactNatTrailCard : Claim7 := { stood := { row := fnExactNatTrailRow, standIns := [], harness := (true, "6d465c6ab4bd366d4f1ee295304651f8dcf1423168b4eca077f2c201c2f2569f"), looks := false }, kinds := [], alts := [], laidByText := true, laidKinds := [.data, .data], laidTests := true, laidLooks := .later }
def FnExactNatTrailCardSaid : Prop := Claim7.holds Tryd.pinned (.plain (OpenSpec.ofChange fnExactNatTrailSpec)) fnExactNatTrailCard

/-- THE SECOND FORM's CARD OF 'laws.FnExactNatTrail'. -/
def fnExactNatTrailUptoCard : Claim7 := { stood := { row := fnExactNatTrailUptoRow, standIns := [], harness := (true, "6d465c6ab4bd366d4f1ee295304651f8dcf1423168b4eca077f2c201c2f2569f"), looks := false }, kinds := [], alts := [], laidByText := true, laidKinds := [.data, .data], laidTests := true, laidLooks := .later }
def FnExactNatTrailUptoCardSaid : Prop := Claim7.holds Tryd.pinned (.plain (OpenSpec.upto fnExactNatTrailSpec)) fnExactNatTrailUptoCard
end Rows
end Go.Proofs.YtjfafkjffjgenaaDoor
