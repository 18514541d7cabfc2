/-
  DERIVED. GIVEN WITH THE SEED: THE CARDS: each row of YtgjpahofopoflaaDoorRows.lean that lists a variable, with what it lists TIED to the program's text (the seventh form; the later family's looks); each row that meets fmt, with fmt's text TOLD by the authors' own Lean function (tested against real Go, not proved from fmt's source: count such statements apart). THE CARD IS WHAT COUNTS. Prove the row's statement (the work); the ties are given (YtgjpahofopoflaaDoorTie.lean); close each card by the builder's one call (the guide's Derived/Test/ToyasCard.lean, 'card_holds'). Laid BY PROGRAM, IN A SANDBOX (cutbox-door.mjs). By AI agents, Wed Nov 11 2026. No macro, syntax, notation, axiom, sorry.
-/
import Derived.Test.YtgjpahofopoflaaDoorRows
import GoSem.ClaimSeven
namespace Go.Proofs.YtgjpahofopoflaaDoor
namespace Rows

/-- THE TIED CARD OF 'laws.FnExactFlDy'. -/
def fnExactFlDyCard : Claim7 := { stood := { row := fnExactFlDyRow, standIns := [], harness := (true, "94552a1423ebd33f8fc2e7763c337fb06a4a4d3ad25ba925816191053c5b3a76"), looks := false }, kinds := [], alts := [], laidByText := true, laidKinds := [.data, .data], laidTests := true, laidLooks := .later }
def FnExactFlDyCardSaid : Prop := Claim7.holds Tryd.pinned (.plain (OpenSpec.ofChange fnExactFlDySpec)) fnExactFlDyCard

/-- THE TIED CARD OF 'laws.FnExactDyShift'. -/
def fnExactDyShiftCard : Claim7 := { stood := { row := fnExactDyShiftRow, standIns := [], harness := (true, "94552a1423ebd33f8fc2e7763c337fb06a4a4d3ad25ba925816191053c5b3a76"), looks := false }, kinds := [], alts := [], laidByText := true, laidKinds := [.data, .data], laidTests := true, laidLooks := .later }
def FnExactDyShiftCardSaid : Prop := Claim7.holds Tryd.pinned (.plain (OpenSpec.ofChange fnExactDyShiftSpec)) fnExactDyShiftCard

/-- THE TIED CARD OF 'laws.FnExactDyOf'. -/
def fnExactDyOfCard : Claim7 := { stood := { row := fnExactDyOfRow, standIns := [], harness := (true, "94552a1423ebd33f8fc2e7763c337fb06a4a4d3ad25ba925816191053c5b3a76"), looks := false }, kinds := [], alts := [], laidByText := true, laidKinds := [.data, .data], laidTests := true, laidLooks := .later }
def FnExactDyOfCardSaid : Prop := Claim7.holds Tryd.pinned (.plain (OpenSpec.ofChange fnExactDyOfSpec)) fnExactDyOfCard

/-- THE TIED CARD OF 'laws.FnExactDecText'. -/
def fnExactDecTextCard : Claim7 := { stood := { row := fnExactDecTextRow, standIns := [], harness := (true, "94552a1423ebd33f8fc2e7763c337fb06a4a4d3ad25ba925816191053c5b3a76"), looks := false }, kinds := [], alts := [], laidByText := true, laidKinds := [.data, .data, .data], laidTests := true, laidLooks := .later }
def FnExactDecTextCardSaid : Prop := Claim7.holds Tryd.pinned (.plain (OpenSpec.ofChange fnExactDecTextSpec)) fnExactDecTextCard

/-- THE TIED CARD OF 'laws.FnFlOrder'. -/
def fnFlOrderCard : Claim7 := { stood := { row := fnFlOrderRow, standIns := [], harness := (true, "94552a1423ebd33f8fc2e7763c337fb06a4a4d3ad25ba925816191053c5b3a76"), looks := false }, kinds := [], alts := [], laidByText := true, laidKinds := [.data, .data], laidTests := true, laidLooks := .later }
def FnFlOrderCardSaid : Prop := Claim7.holds Tryd.pinned (.plain (OpenSpec.ofChange fnFlOrderSpec)) fnFlOrderCard

/-- THE SECOND FORM's CARD OF 'laws.FnExactFlDy'. -/
def fnExactFlDyUptoCard : Claim7 := { stood := { row := fnExactFlDyUptoRow, standIns := [], harness := (true, "94552a1423ebd33f8fc2e7763c337fb06a4a4d3ad25ba925816191053c5b3a76"), looks := false }, kinds := [], alts := [], laidByText := true, laidKinds := [.data, .data], laidTests := true, laidLooks := .later }
def FnExactFlDyUptoCardSaid : Prop := Claim7.holds Tryd.pinned (.plain (OpenSpec.upto fnExactFlDySpec)) fnExactFlDyUptoCard

/-- THE SECOND FORM's CARD OF 'laws.FnExactDyShift'. -/
def fnExactDyShiftUptoCard : Claim7 := { stood := { row := fnExactDyShiftUptoRow, standIns := [], harness := (true, "94552a1423ebd33f8fc2e7763c337fb06a4a4d3ad25ba925816191053c5b3a76"), looks := false }, kinds := [], alts := [], laidByText := true, laidKinds := [.data, .data], laidTests := true, laidLooks := .later }
def FnExactDyShiftUptoCardSaid : Prop := Claim7.holds Tryd.pinned (.plain (OpenSpec.upto fnExactDyShiftSpec)) fnExactDyShiftUptoCard

/-- THE SECOND FORM's CARD OF 'laws.FnExactDyOf'. -/
def fnExactDyOfUptoCard : Claim7 := { stood := { row := fnExactDyOfUptoRow, standIns := [], harness := (true, "94552a1423ebd33f8fc2e7763c337fb06a4a4d3ad25ba925816191053c5b3a76"), looks := false }, kinds := [], alts := [], laidByText := true, laidKinds := [.data, .data], laidTests := true, laidLooks := .later }
def FnExactDyOfUptoCardSaid : Prop := Claim7.holds Tryd.pinned (.plain (OpenSpec.upto fnExactDyOfSpec)) fnExactDyOfUptoCard

/-- THE SECOND FORM's CARD OF 'laws.FnExactDecText'. -/
def fnExactDecTextUptoCard : Claim7 := { stood := { row := fnExactDecTextUptoRow, standIns := [], harness := (true, "94552a1423ebd33f8fc2e7763c337fb06a4a4d3ad25ba925816191053c5b3a76"), looks := false }, kinds := [], alts := [], laidByText := true, laidKinds := [.data, .data, .data], laidTests := true, laidLooks := .later }
def FnExactDecTextUptoCardSaid : Prop := Claim7.holds Tryd.pinned (.plain (OpenSpec.upto fnExactDecTextSpec)) fnExactDecTextUptoCard

/-- THE SECOND FORM's CARD OF 'laws.FnFlOrder'. -/
def fnFlOrderUptoCard : Claim7 := { stood := { row := fnFlOrderUptoRow, standIns := [], harness := (true, "94552a1423ebd33f8fc2e7763c337fb06a4a4d3ad25ba925816191053c5b3a76"), looks := false }, kinds := [], alts := [], laidByText := true, laidKinds := [.data, .data], laidTests := true, laidLooks := .later }
def FnFlOrderUptoCardSaid : Prop := Claim7.holds Tryd.pinned (.plain (OpenSpec.upto fnFlOrderSpec)) fnFlOrderUptoCard
end Rows
end Go.Proofs.YtgjpahofopoflaaDoor
