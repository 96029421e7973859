/-
  DERIVED. GIVEN WITH THE SEED: THE CARDS: each row of YtnjfebkelecgaaaGreatDoorRows.lean that lists a variable, with what it lists TIED to the program's text (the seventh form; the later family's looks); each row that meets fmt, with fmt's text TOLD by the authors' own Lean function (tested against real Go, not proved from fmt's source: count such statements apart). THE CARD IS WHAT COUNTS. Prove the row's statement (the work); the ties are given (YtnjfebkelecgaaaGreatDoorTie.lean); close each card by the builder's one call (the guide's Derived/Test/ToyasCard.lean, 'card_holds'). Laid BY PROGRAM, IN A SANDBOX (cutbox-door.mjs). By AI agents, Wed Nov 11 2026. No macro, syntax, notation, axiom, sorry.
-/
import Derived.Test.YtnjfebkelecgaaaGreatDoorRows
import GoSem.ClaimSeven
namespace Go.Proofs.YtnjfebkelecgaaaGreatDoor
namespace Rows

/-- THE TIED CARD OF 'ogeelaw16.SimpTo'. -/
def simpToCard : Claim7 := { stood := { row := simpToRow, standIns := [], harness := (true, "b8b20b5e200d622ba9e8c0b64e9d486d9879f6b252d1a40a5deb1a28ab58c1ac"), looks := false }, kinds := [], alts := [], laidByText := true, laidKinds := [.data, .data, .pinned], laidTests := true, laidLooks := .later }
def SimpToCardSaid : Prop := Claim7.holds Tryz.pinned (.plain (OpenSpec.ofChange simpToSpec)) simpToCard

/-- THE TIED CARD OF 'ogeelaw16.SimpRing'. -/
def simpRingCard : Claim7 := { stood := { row := simpRingRow, standIns := [], harness := (true, "b8b20b5e200d622ba9e8c0b64e9d486d9879f6b252d1a40a5deb1a28ab58c1ac"), looks := false }, kinds := [], alts := [], laidByText := true, laidKinds := [.data, .data, .pinned], laidTests := true, laidLooks := .later }
def SimpRingCardSaid : Prop := Claim7.holds Tryz.pinned (.plain (OpenSpec.ofChange simpRingSpec)) simpRingCard

/-- THE TIED CARD OF 'ogeelaw16.SimpSame'. -/
def simpSameCard : Claim7 := { stood := { row := simpSameRow, standIns := [], harness := (true, "b8b20b5e200d622ba9e8c0b64e9d486d9879f6b252d1a40a5deb1a28ab58c1ac"), looks := false }, kinds := [], alts := [], laidByText := true, laidKinds := [.data, .data, .pinned], laidTests := true, laidLooks := .later }
def SimpSameCardSaid : Prop := Claim7.holds Tryz.pinned (.plain (OpenSpec.ofChange simpSameSpec)) simpSameCard

/-- THE SECOND FORM's CARD OF 'ogeelaw16.SimpTo'. -/
def simpToUptoCard : Claim7 := { stood := { row := simpToUptoRow, standIns := [], harness := (true, "b8b20b5e200d622ba9e8c0b64e9d486d9879f6b252d1a40a5deb1a28ab58c1ac"), looks := false }, kinds := [], alts := [], laidByText := true, laidKinds := [.data, .data, .pinned], laidTests := true, laidLooks := .later }
def SimpToUptoCardSaid : Prop := Claim7.holds Tryz.pinned (.plain (OpenSpec.upto simpToSpec)) simpToUptoCard

/-- THE SECOND FORM's CARD OF 'ogeelaw16.SimpRing'. -/
def simpRingUptoCard : Claim7 := { stood := { row := simpRingUptoRow, standIns := [], harness := (true, "b8b20b5e200d622ba9e8c0b64e9d486d9879f6b252d1a40a5deb1a28ab58c1ac"), looks := false }, kinds := [], alts := [], laidByText := true, laidKinds := [.data, .data, .pinned], laidTests := true, laidLooks := .later }
def SimpRingUptoCardSaid : Prop := Claim7.holds Tryz.pinned (.plain (OpenSpec.upto simpRingSpec)) simpRingUptoCard

/-- THE SECOND FORM's CARD OF 'ogeelaw16.SimpSame'. -/
def simpSameUptoCard : Claim7 := { stood := { row := simpSameUptoRow, standIns := [], harness := (true, "b8b20b5e200d622ba9e8c0b64e9d486d9879f6b252d1a40a5deb1a28ab58c1ac"), looks := false }, kinds := [], alts := [], laidByText := true, laidKinds := [.data, .data, .pinned], laidTests := true, laidLooks := .later }
def SimpSameUptoCardSaid : Prop := Claim7.holds Tryz.pinned (.plain (OpenSpec.upto simpSameSpec)) simpSameUptoCard
end Rows
end Go.Proofs.YtnjfebkelecgaaaGreatDoor
