/-
  DERIVED. GIVEN WITH THE SEED: THE CARDS: each row of YtmkgoiimkfppdaaGreatDoorRows.lean that lists a variable, with what it lists TIED to the program's text (the seventh form; the later family's looks); each row that meets fmt, with fmt's text TOLD by the authors' own Lean function (tested against real Go, not proved from fmt's source: count such statements apart). THE CARD IS WHAT COUNTS. Prove the row's statement (the work); the ties are given (YtmkgoiimkfppdaaGreatDoorTie.lean); close each card by the builder's one call (the guide's Derived/Test/ToyasCard.lean, 'card_holds'). Laid BY PROGRAM, IN A SANDBOX (cutbox-door.mjs). By AI agents, Wed Nov 11 2026. No macro, syntax, notation, axiom, sorry.
-/
import Derived.Test.YtmkgoiimkfppdaaGreatDoorRows
import GoSem.ClaimSeven
namespace Go.Proofs.YtmkgoiimkfppdaaGreatDoor
namespace Rows

/-- THE TIED CARD OF 'boathouselaw19.Actions'. -/
def actionsCard : Claim7 := { stood := { row := actionsRow, standIns := [], harness := (true, "96bbffcb9510fbf5a4cda1af43f25eca995fffc13259d3f4e973c2ba0d1472fe"), looks := true }, kinds := [], alts := [], laidByText := true, laidKinds := [.data, .data, .data, .data, .pinned], laidTests := true, laidLooks := .later }
def ActionsCardSaid : Prop := Claim7.holds Tryz.pinned (.plain (OpenSpec.ofChange actionsSpec)) actionsCard

/-- THE TIED CARD OF 'boathouselaw19.ActionBack'. -/
def actionBackCard : Claim7 := { stood := { row := actionBackRow, standIns := [], harness := (true, "96bbffcb9510fbf5a4cda1af43f25eca995fffc13259d3f4e973c2ba0d1472fe"), looks := true }, kinds := [], alts := [], laidByText := true, laidKinds := [.data, .data, .data, .data, .pinned], laidTests := true, laidLooks := .later }
def ActionBackCardSaid : Prop := Claim7.holds Tryz.pinned (.plain (OpenSpec.ofChange actionBackSpec)) actionBackCard

/-- THE TIED CARD OF 'boathouselaw19.ActionTexts'. -/
def actionTextsCard : Claim7 := { stood := { row := actionTextsRow, standIns := [], harness := (true, "96bbffcb9510fbf5a4cda1af43f25eca995fffc13259d3f4e973c2ba0d1472fe"), looks := true }, kinds := [], alts := [], laidByText := true, laidKinds := [.data, .data, .data, .data, .pinned], laidTests := true, laidLooks := .later }
def ActionTextsCardSaid : Prop := Claim7.holds Tryz.pinned (.plain (OpenSpec.ofChange actionTextsSpec)) actionTextsCard

/-- THE TIED CARD OF 'boathouselaw19.ActionZeros'. -/
def actionZerosCard : Claim7 := { stood := { row := actionZerosRow, standIns := [], harness := (true, "96bbffcb9510fbf5a4cda1af43f25eca995fffc13259d3f4e973c2ba0d1472fe"), looks := true }, kinds := [], alts := [], laidByText := true, laidKinds := [.data, .data, .data, .data, .pinned], laidTests := true, laidLooks := .later }
def ActionZerosCardSaid : Prop := Claim7.holds Tryz.pinned (.plain (OpenSpec.ofChange actionZerosSpec)) actionZerosCard

/-- THE TIED CARD OF 'boathouselaw19.ActionCuts'. -/
def actionCutsCard : Claim7 := { stood := { row := actionCutsRow, standIns := [], harness := (true, "96bbffcb9510fbf5a4cda1af43f25eca995fffc13259d3f4e973c2ba0d1472fe"), looks := true }, kinds := [], alts := [], laidByText := true, laidKinds := [.data, .data, .data, .data, .pinned], laidTests := true, laidLooks := .later }
def ActionCutsCardSaid : Prop := Claim7.holds Tryz.pinned (.plain (OpenSpec.ofChange actionCutsSpec)) actionCutsCard

/-- THE SECOND FORM's CARD OF 'boathouselaw19.Actions'. -/
def actionsUptoCard : Claim7 := { stood := { row := actionsUptoRow, standIns := [], harness := (true, "96bbffcb9510fbf5a4cda1af43f25eca995fffc13259d3f4e973c2ba0d1472fe"), looks := true }, kinds := [], alts := [], laidByText := true, laidKinds := [.data, .data, .data, .data, .pinned], laidTests := true, laidLooks := .later }
def ActionsUptoCardSaid : Prop := Claim7.holds Tryz.pinned (.plain (OpenSpec.upto actionsSpec)) actionsUptoCard

/-- THE SECOND FORM's CARD OF 'boathouselaw19.ActionBack'. -/
def actionBackUptoCard : Claim7 := { stood := { row := actionBackUptoRow, standIns := [], harness := (true, "96bbffcb9510fbf5a4cda1af43f25eca995fffc13259d3f4e973c2ba0d1472fe"), looks := true }, kinds := [], alts := [], laidByText := true, laidKinds := [.data, .data, .data, .data, .pinned], laidTests := true, laidLooks := .later }
def ActionBackUptoCardSaid : Prop := Claim7.holds Tryz.pinned (.plain (OpenSpec.upto actionBackSpec)) actionBackUptoCard

/-- THE SECOND FORM's CARD OF 'boathouselaw19.ActionTexts'. -/
def actionTextsUptoCard : Claim7 := { stood := { row := actionTextsUptoRow, standIns := [], harness := (true, "96bbffcb9510fbf5a4cda1af43f25eca995fffc13259d3f4e973c2ba0d1472fe"), looks := true }, kinds := [], alts := [], laidByText := true, laidKinds := [.data, .data, .data, .data, .pinned], laidTests := true, laidLooks := .later }
def ActionTextsUptoCardSaid : Prop := Claim7.holds Tryz.pinned (.plain (OpenSpec.upto actionTextsSpec)) actionTextsUptoCard

/-- THE SECOND FORM's CARD OF 'boathouselaw19.ActionZeros'. -/
def actionZerosUptoCard : Claim7 := { stood := { row := actionZerosUptoRow, standIns := [], harness := (true, "96bbffcb9510fbf5a4cda1af43f25eca995fffc13259d3f4e973c2ba0d1472fe"), looks := true }, kinds := [], alts := [], laidByText := true, laidKinds := [.data, .data, .data, .data, .pinned], laidTests := true, laidLooks := .later }
def ActionZerosUptoCardSaid : Prop := Claim7.holds Tryz.pinned (.plain (OpenSpec.upto actionZerosSpec)) actionZerosUptoCard

/-- THE SECOND FORM's CARD OF 'boathouselaw19.ActionCuts'. -/
def actionCutsUptoCard : Claim7 := { stood := { row := actionCutsUptoRow, standIns := [], harness := (true, "96bbffcb9510fbf5a4cda1af43f25eca995fffc13259d3f4e973c2ba0d1472fe"), looks := true }, kinds := [], alts := [], laidByText := true, laidKinds := [.data, .data, .data, .data, .pinned], laidTests := true, laidLooks := .later }
def ActionCutsUptoCardSaid : Prop := Claim7.holds Tryz.pinned (.plain (OpenSpec.upto actionCutsSpec)) actionCutsUptoCard
end Rows
end Go.Proofs.YtmkgoiimkfppdaaGreatDoor
