/-
  DERIVED. GIVEN WITH THE SEED: THE CARDS: each row of YtoopepmmepmfnaaGreatDoorRows.lean that lists a variable, with what it lists TIED to the program's text (the seventh form; the later family's looks); each row that meets fmt, with fmt's text TOLD by the authors' own Lean function (tested against real Go, not proved from fmt's source: count such statements apart). THE CARD IS WHAT COUNTS. Prove the row's statement (the work); the ties are given (YtoopepmmepmfnaaGreatDoorTie.lean); close each card by the builder's one call (the guide's Derived/Test/ToyasCard.lean, 'card_holds'). Laid BY PROGRAM, IN A SANDBOX (cutbox-door.mjs). By AI agents, Wed Nov 11 2026. No macro, syntax, notation, axiom, sorry.
-/
import Derived.Test.YtoopepmmepmfnaaGreatDoorRows
import GoSem.ClaimSeven
namespace Go.Proofs.YtoopepmmepmfnaaGreatDoor
namespace Rows

/-- THE TIED CARD OF 'ogeelaw24.BoundOrder'. -/
def boundOrderCard : Claim7 := { stood := { row := boundOrderRow, standIns := [], harness := (true, "e6f71fd42d1706564b07a8072186f8591b63d7a1c2add9ce646f735f57265a2b"), looks := false }, kinds := [], alts := [], laidByText := true, laidKinds := [.data, .data, .pinned], laidTests := true, laidLooks := .later }
def BoundOrderCardSaid : Prop := Claim7.holds Tryz.pinned (.plain (OpenSpec.ofChange boundOrderSpec)) boundOrderCard

/-- THE TIED CARD OF 'ogeelaw24.BoundBoxes'. -/
def boundBoxesCard : Claim7 := { stood := { row := boundBoxesRow, standIns := [], harness := (true, "e6f71fd42d1706564b07a8072186f8591b63d7a1c2add9ce646f735f57265a2b"), looks := false }, kinds := [], alts := [], laidByText := true, laidKinds := [.data, .data, .pinned], laidTests := true, laidLooks := .later }
def BoundBoxesCardSaid : Prop := Claim7.holds Tryz.pinned (.plain (OpenSpec.ofChange boundBoxesSpec)) boundBoxesCard

/-- THE TIED CARD OF 'ogeelaw24.BoundSimplices'. -/
def boundSimplicesCard : Claim7 := { stood := { row := boundSimplicesRow, standIns := [], harness := (true, "e6f71fd42d1706564b07a8072186f8591b63d7a1c2add9ce646f735f57265a2b"), looks := false }, kinds := [], alts := [], laidByText := true, laidKinds := [.data, .data, .pinned], laidTests := true, laidLooks := .later }
def BoundSimplicesCardSaid : Prop := Claim7.holds Tryz.pinned (.plain (OpenSpec.ofChange boundSimplicesSpec)) boundSimplicesCard

/-- THE TIED CARD OF 'ogeelaw24.BoundMore'. -/
def boundMoreCard : Claim7 := { stood := { row := boundMoreRow, standIns := [], harness := (true, "e6f71fd42d1706564b07a8072186f8591b63d7a1c2add9ce646f735f57265a2b"), looks := false }, kinds := [], alts := [], laidByText := true, laidKinds := [.data, .data, .pinned], laidTests := true, laidLooks := .later }
def BoundMoreCardSaid : Prop := Claim7.holds Tryz.pinned (.plain (OpenSpec.ofChange boundMoreSpec)) boundMoreCard

/-- THE SECOND FORM's CARD OF 'ogeelaw24.BoundOrder'. -/
def boundOrderUptoCard : Claim7 := { stood := { row := boundOrderUptoRow, standIns := [], harness := (true, "e6f71fd42d1706564b07a8072186f8591b63d7a1c2add9ce646f735f57265a2b"), looks := false }, kinds := [], alts := [], laidByText := true, laidKinds := [.data, .data, .pinned], laidTests := true, laidLooks := .later }
def BoundOrderUptoCardSaid : Prop := Claim7.holds Tryz.pinned (.plain (OpenSpec.upto boundOrderSpec)) boundOrderUptoCard

/-- THE SECOND FORM's CARD OF 'ogeelaw24.BoundBoxes'. -/
def boundBoxesUptoCard : Claim7 := { stood := { row := boundBoxesUptoRow, standIns := [], harness := (true, "e6f71fd42d1706564b07a8072186f8591b63d7a1c2add9ce646f735f57265a2b"), looks := false }, kinds := [], alts := [], laidByText := true, laidKinds := [.data, .data, .pinned], laidTests := true, laidLooks := .later }
def BoundBoxesUptoCardSaid : Prop := Claim7.holds Tryz.pinned (.plain (OpenSpec.upto boundBoxesSpec)) boundBoxesUptoCard

/-- THE SECOND FORM's CARD OF 'ogeelaw24.BoundSimplices'. -/
def boundSimplicesUptoCard : Claim7 := { stood := { row := boundSimplicesUptoRow, standIns := [], harness := (true, "e6f71fd42d1706564b07a8072186f8591b63d7a1c2add9ce646f735f57265a2b"), looks := false }, kinds := [], alts := [], laidByText := true, laidKinds := [.data, .data, .pinned], laidTests := true, laidLooks := .later }
def BoundSimplicesUptoCardSaid : Prop := Claim7.holds Tryz.pinned (.plain (OpenSpec.upto boundSimplicesSpec)) boundSimplicesUptoCard

/-- THE SECOND FORM's CARD OF 'ogeelaw24.BoundMore'. -/
def boundMoreUptoCard : Claim7 := { stood := { row := boundMoreUptoRow, standIns := [], harness := (true, "e6f71fd42d1706564b07a8072186f8591b63d7a1c2add9ce646f735f57265a2b"), looks := false }, kinds := [], alts := [], laidByText := true, laidKinds := [.data, .data, .pinned], laidTests := true, laidLooks := .later }
def BoundMoreUptoCardSaid : Prop := Claim7.holds Tryz.pinned (.plain (OpenSpec.upto boundMoreSpec)) boundMoreUptoCard
end Rows
end Go.Proofs.YtoopepmmepmfnaaGreatDoor
