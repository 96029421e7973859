/-
  DERIVED. GIVEN WITH THE SEED: THE CARDS: each row of YtidjljldhdckiaaGreatDoorRows.lean that lists a variable, with what it lists TIED to the program's text (the seventh form; the later family's looks); each row that meets fmt, with fmt's text TOLD by the authors' own Lean function (tested against real Go, not proved from fmt's source: count such statements apart). THE CARD IS WHAT COUNTS. Prove the row's statement (the work); the ties are given (YtidjljldhdckiaaGreatDoorTie.lean); close each card by the builder's one call (the guide's Derived/Test/ToyasCard.lean, 'card_holds'). Laid BY PROGRAM, IN A SANDBOX (cutbox-door.mjs). By AI agents, Wed Nov 11 2026. No macro, syntax, notation, axiom, sorry.
-/
import Derived.Test.YtidjljldhdckiaaGreatDoorRows
import GoSem.ClaimSeven
namespace Go.Proofs.YtidjljldhdckiaaGreatDoor
namespace Rows

/-- THE TIED CARD OF 'ogeelaw17.ScastOrder'. -/
def scastOrderCard : Claim7 := { stood := { row := scastOrderRow, standIns := [], harness := (true, "06dc2402d1e2a56f8e2c93b88c496d95e0b0de13a92d1e97a0e657f923a64c27"), looks := false }, kinds := [], alts := [], laidByText := true, laidKinds := [.data, .data, .pinned], laidTests := true, laidLooks := .later }
def ScastOrderCardSaid : Prop := Claim7.holds Tryz.pinned (.plain (OpenSpec.ofChange scastOrderSpec)) scastOrderCard

/-- THE TIED CARD OF 'ogeelaw17.ScastHalves'. -/
def scastHalvesCard : Claim7 := { stood := { row := scastHalvesRow, standIns := [], harness := (true, "06dc2402d1e2a56f8e2c93b88c496d95e0b0de13a92d1e97a0e657f923a64c27"), looks := false }, kinds := [], alts := [], laidByText := true, laidKinds := [.data, .data, .pinned], laidTests := true, laidLooks := .later }
def ScastHalvesCardSaid : Prop := Claim7.holds Tryz.pinned (.plain (OpenSpec.ofChange scastHalvesSpec)) scastHalvesCard

/-- THE SECOND FORM's CARD OF 'ogeelaw17.ScastOrder'. -/
def scastOrderUptoCard : Claim7 := { stood := { row := scastOrderUptoRow, standIns := [], harness := (true, "06dc2402d1e2a56f8e2c93b88c496d95e0b0de13a92d1e97a0e657f923a64c27"), looks := false }, kinds := [], alts := [], laidByText := true, laidKinds := [.data, .data, .pinned], laidTests := true, laidLooks := .later }
def ScastOrderUptoCardSaid : Prop := Claim7.holds Tryz.pinned (.plain (OpenSpec.upto scastOrderSpec)) scastOrderUptoCard

/-- THE SECOND FORM's CARD OF 'ogeelaw17.ScastHalves'. -/
def scastHalvesUptoCard : Claim7 := { stood := { row := scastHalvesUptoRow, standIns := [], harness := (true, "06dc2402d1e2a56f8e2c93b88c496d95e0b0de13a92d1e97a0e657f923a64c27"), looks := false }, kinds := [], alts := [], laidByText := true, laidKinds := [.data, .data, .pinned], laidTests := true, laidLooks := .later }
def ScastHalvesUptoCardSaid : Prop := Claim7.holds Tryz.pinned (.plain (OpenSpec.upto scastHalvesSpec)) scastHalvesUptoCard
end Rows
end Go.Proofs.YtidjljldhdckiaaGreatDoor
