/-
  DERIVED. GIVEN WITH THE SEED: THE CARDS: each row of YtbkopgdpcijfbaaGreatDoorRows.lean that lists a variable, with what it lists TIED to the program's text (the seventh form; the later family's looks); each row that meets fmt, with fmt's text TOLD by the authors' own Lean function (tested against real Go, not proved from fmt's source: count such statements apart). THE CARD IS WHAT COUNTS. Prove the row's statement (the work); the ties are given (YtbkopgdpcijfbaaGreatDoorTie.lean); close each card by the builder's one call (the guide's Derived/Test/ToyasCard.lean, 'card_holds'). Laid BY PROGRAM, IN A SANDBOX (cutbox-door.mjs). By AI agents, Wed Nov 11 2026. No macro, syntax, notation, axiom, sorry.
-/
import Derived.Test.YtbkopgdpcijfbaaGreatDoorRows
import GoSem.ClaimSeven
namespace Go.Proofs.YtbkopgdpcijfbaaGreatDoor
namespace Rows

/-- THE TIED CARD OF 'ogeelaw24.BoundTriangles'. -/
def boundTrianglesCard : Claim7 := { stood := { row := boundTrianglesRow, standIns := [], harness := (true, "2da552ef81e10d175a1b91eb727867145060f81f705b951d6e22855bebbe1f0a"), looks := false }, kinds := [], alts := [], laidByText := true, laidKinds := [.data, .data, .pinned], laidTests := true, laidLooks := .later }
def BoundTrianglesCardSaid : Prop := Claim7.holds Tryz.pinned (.plain (OpenSpec.ofChange boundTrianglesSpec)) boundTrianglesCard

/-- THE TIED CARD OF 'ogeelaw24.BoundHolds'. -/
def boundHoldsCard : Claim7 := { stood := { row := boundHoldsRow, standIns := [], harness := (true, "2da552ef81e10d175a1b91eb727867145060f81f705b951d6e22855bebbe1f0a"), looks := false }, kinds := [], alts := [], laidByText := true, laidKinds := [.data, .data, .pinned], laidTests := true, laidLooks := .later }
def BoundHoldsCardSaid : Prop := Claim7.holds Tryz.pinned (.plain (OpenSpec.ofChange boundHoldsSpec)) boundHoldsCard

/-- THE TIED CARD OF 'ogeelaw21.ProdExpands'. -/
def prodExpandsCard : Claim7 := { stood := { row := prodExpandsRow, standIns := [], harness := (true, "2da552ef81e10d175a1b91eb727867145060f81f705b951d6e22855bebbe1f0a"), looks := false }, kinds := [], alts := [], laidByText := true, laidKinds := [.data, .data, .pinned], laidTests := true, laidLooks := .later }
def ProdExpandsCardSaid : Prop := Claim7.holds Tryz.pinned (.plain (OpenSpec.ofChange prodExpandsSpec)) prodExpandsCard

/-- THE TIED CARD OF 'ogeelaw21.ProdTold'. -/
def prodToldCard : Claim7 := { stood := { row := prodToldRow, standIns := [], harness := (true, "2da552ef81e10d175a1b91eb727867145060f81f705b951d6e22855bebbe1f0a"), looks := false }, kinds := [], alts := [], laidByText := true, laidKinds := [.data, .data, .pinned], laidTests := true, laidLooks := .later }
def ProdToldCardSaid : Prop := Claim7.holds Tryz.pinned (.plain (OpenSpec.ofChange prodToldSpec)) prodToldCard

/-- THE SECOND FORM's CARD OF 'ogeelaw24.BoundTriangles'. -/
def boundTrianglesUptoCard : Claim7 := { stood := { row := boundTrianglesUptoRow, standIns := [], harness := (true, "2da552ef81e10d175a1b91eb727867145060f81f705b951d6e22855bebbe1f0a"), looks := false }, kinds := [], alts := [], laidByText := true, laidKinds := [.data, .data, .pinned], laidTests := true, laidLooks := .later }
def BoundTrianglesUptoCardSaid : Prop := Claim7.holds Tryz.pinned (.plain (OpenSpec.upto boundTrianglesSpec)) boundTrianglesUptoCard

/-- THE SECOND FORM's CARD OF 'ogeelaw24.BoundHolds'. -/
def boundHoldsUptoCard : Claim7 := { stood := { row := boundHoldsUptoRow, standIns := [], harness := (true, "2da552ef81e10d175a1b91eb727867145060f81f705b951d6e22855bebbe1f0a"), looks := false }, kinds := [], alts := [], laidByText := true, laidKinds := [.data, .data, .pinned], laidTests := true, laidLooks := .later }
def BoundHoldsUptoCardSaid : Prop := Claim7.holds Tryz.pinned (.plain (OpenSpec.upto boundHoldsSpec)) boundHoldsUptoCard

/-- THE SECOND FORM's CARD OF 'ogeelaw21.ProdExpands'. -/
def prodExpandsUptoCard : Claim7 := { stood := { row := prodExpandsUptoRow, standIns := [], harness := (true, "2da552ef81e10d175a1b91eb727867145060f81f705b951d6e22855bebbe1f0a"), looks := false }, kinds := [], alts := [], laidByText := true, laidKinds := [.data, .data, .pinned], laidTests := true, laidLooks := .later }
def ProdExpandsUptoCardSaid : Prop := Claim7.holds Tryz.pinned (.plain (OpenSpec.upto prodExpandsSpec)) prodExpandsUptoCard

/-- THE SECOND FORM's CARD OF 'ogeelaw21.ProdTold'. -/
def prodToldUptoCard : Claim7 := { stood := { row := prodToldUptoRow, standIns := [], harness := (true, "2da552ef81e10d175a1b91eb727867145060f81f705b951d6e22855bebbe1f0a"), looks := false }, kinds := [], alts := [], laidByText := true, laidKinds := [.data, .data, .pinned], laidTests := true, laidLooks := .later }
def ProdToldUptoCardSaid : Prop := Claim7.holds Tryz.pinned (.plain (OpenSpec.upto prodToldSpec)) prodToldUptoCard
end Rows
end Go.Proofs.YtbkopgdpcijfbaaGreatDoor
