/-
  DERIVED. GIVEN WITH THE SEED: THE CARDS: each row of YtpfgffadgkkedaaGreatDoorRows.lean that lists a variable, with what it lists TIED to the program's text (the seventh form; the later family's looks); each row that meets fmt, with fmt's text TOLD by the authors' own Lean function (tested against real Go, not proved from fmt's source: count such statements apart). THE CARD IS WHAT COUNTS. Prove the row's statement (the work); the ties are given (YtpfgffadgkkedaaGreatDoorTie.lean); close each card by the builder's one call (the guide's Derived/Test/ToyasCard.lean, 'card_holds'). Laid BY PROGRAM, IN A SANDBOX (cutbox-door.mjs). By AI agents, Wed Nov 11 2026. No macro, syntax, notation, axiom, sorry.
-/
import Derived.Test.YtpfgffadgkkedaaGreatDoorRows
import GoSem.ClaimSeven
namespace Go.Proofs.YtpfgffadgkkedaaGreatDoor
namespace Rows

/-- THE TIED CARD OF 'ogeelaw21.ProdTold'. -/
def prodToldCard : Claim7 := { stood := { row := prodToldRow, standIns := [], harness := (true, "93c377aed0c9b32e912e44db7666fcbcb15759f56139c9623a871a1dedcecdc7"), looks := false }, kinds := [], alts := [], laidByText := true, laidKinds := [.data, .data, .pinned], laidTests := true, laidLooks := .later }
def ProdToldCardSaid : Prop := Claim7.holds Tryz.pinned (.plain (OpenSpec.ofChange prodToldSpec)) prodToldCard

/-- THE TIED CARD OF 'ogeelaw21.ProdExpands'. -/
def prodExpandsCard : Claim7 := { stood := { row := prodExpandsRow, standIns := [], harness := (true, "93c377aed0c9b32e912e44db7666fcbcb15759f56139c9623a871a1dedcecdc7"), looks := false }, kinds := [], alts := [], laidByText := true, laidKinds := [.data, .data, .pinned], laidTests := true, laidLooks := .later }
def ProdExpandsCardSaid : Prop := Claim7.holds Tryz.pinned (.plain (OpenSpec.ofChange prodExpandsSpec)) prodExpandsCard

/-- THE TIED CARD OF 'ogeelaw21.ProdHolds'. -/
def prodHoldsCard : Claim7 := { stood := { row := prodHoldsRow, standIns := [], harness := (true, "93c377aed0c9b32e912e44db7666fcbcb15759f56139c9623a871a1dedcecdc7"), looks := false }, kinds := [], alts := [], laidByText := true, laidKinds := [.data, .data, .pinned], laidTests := true, laidLooks := .later }
def ProdHoldsCardSaid : Prop := Claim7.holds Tryz.pinned (.plain (OpenSpec.ofChange prodHoldsSpec)) prodHoldsCard

/-- THE TIED CARD OF 'ogeelaw22.CertSound'. -/
def certSoundCard : Claim7 := { stood := { row := certSoundRow, standIns := [], harness := (true, "93c377aed0c9b32e912e44db7666fcbcb15759f56139c9623a871a1dedcecdc7"), looks := false }, kinds := [], alts := [], laidByText := true, laidKinds := [.data, .data, .pinned], laidTests := true, laidLooks := .later }
def CertSoundCardSaid : Prop := Claim7.holds Tryz.pinned (.plain (OpenSpec.ofChange certSoundSpec)) certSoundCard

/-- THE TIED CARD OF 'ogeelaw22.CertCovers'. -/
def certCoversCard : Claim7 := { stood := { row := certCoversRow, standIns := [], harness := (true, "93c377aed0c9b32e912e44db7666fcbcb15759f56139c9623a871a1dedcecdc7"), looks := false }, kinds := [], alts := [], laidByText := true, laidKinds := [.data, .data, .pinned], laidTests := true, laidLooks := .later }
def CertCoversCardSaid : Prop := Claim7.holds Tryz.pinned (.plain (OpenSpec.ofChange certCoversSpec)) certCoversCard

/-- THE TIED CARD OF 'ogeelaw21.ProdLines'. -/
def prodLinesCard : Claim7 := { stood := { row := prodLinesRow, standIns := [], harness := (true, "93c377aed0c9b32e912e44db7666fcbcb15759f56139c9623a871a1dedcecdc7"), looks := false }, kinds := [], alts := [], laidByText := true, laidKinds := [.data, .data, .pinned], laidTests := true, laidLooks := .later }
def ProdLinesCardSaid : Prop := Claim7.holds Tryz.pinned (.plain (OpenSpec.ofChange prodLinesSpec)) prodLinesCard

/-- THE SECOND FORM's CARD OF 'ogeelaw21.ProdTold'. -/
def prodToldUptoCard : Claim7 := { stood := { row := prodToldUptoRow, standIns := [], harness := (true, "93c377aed0c9b32e912e44db7666fcbcb15759f56139c9623a871a1dedcecdc7"), looks := false }, kinds := [], alts := [], laidByText := true, laidKinds := [.data, .data, .pinned], laidTests := true, laidLooks := .later }
def ProdToldUptoCardSaid : Prop := Claim7.holds Tryz.pinned (.plain (OpenSpec.upto prodToldSpec)) prodToldUptoCard

/-- THE SECOND FORM's CARD OF 'ogeelaw21.ProdExpands'. -/
def prodExpandsUptoCard : Claim7 := { stood := { row := prodExpandsUptoRow, standIns := [], harness := (true, "93c377aed0c9b32e912e44db7666fcbcb15759f56139c9623a871a1dedcecdc7"), looks := false }, kinds := [], alts := [], laidByText := true, laidKinds := [.data, .data, .pinned], laidTests := true, laidLooks := .later }
def ProdExpandsUptoCardSaid : Prop := Claim7.holds Tryz.pinned (.plain (OpenSpec.upto prodExpandsSpec)) prodExpandsUptoCard

/-- THE SECOND FORM's CARD OF 'ogeelaw21.ProdHolds'. -/
def prodHoldsUptoCard : Claim7 := { stood := { row := prodHoldsUptoRow, standIns := [], harness := (true, "93c377aed0c9b32e912e44db7666fcbcb15759f56139c9623a871a1dedcecdc7"), looks := false }, kinds := [], alts := [], laidByText := true, laidKinds := [.data, .data, .pinned], laidTests := true, laidLooks := .later }
def ProdHoldsUptoCardSaid : Prop := Claim7.holds Tryz.pinned (.plain (OpenSpec.upto prodHoldsSpec)) prodHoldsUptoCard

/-- THE SECOND FORM's CARD OF 'ogeelaw22.CertSound'. -/
def certSoundUptoCard : Claim7 := { stood := { row := certSoundUptoRow, standIns := [], harness := (true, "93c377aed0c9b32e912e44db7666fcbcb15759f56139c9623a871a1dedcecdc7"), looks := false }, kinds := [], alts := [], laidByText := true, laidKinds := [.data, .data, .pinned], laidTests := true, laidLooks := .later }
def CertSoundUptoCardSaid : Prop := Claim7.holds Tryz.pinned (.plain (OpenSpec.upto certSoundSpec)) certSoundUptoCard

/-- THE SECOND FORM's CARD OF 'ogeelaw22.CertCovers'. -/
def certCoversUptoCard : Claim7 := { stood := { row := certCoversUptoRow, standIns := [], harness := (true, "93c377aed0c9b32e912e44db7666fcbcb15759f56139c9623a871a1dedcecdc7"), looks := false }, kinds := [], alts := [], laidByText := true, laidKinds := [.data, .data, .pinned], laidTests := true, laidLooks := .later }
def CertCoversUptoCardSaid : Prop := Claim7.holds Tryz.pinned (.plain (OpenSpec.upto certCoversSpec)) certCoversUptoCard

/-- THE SECOND FORM's CARD OF 'ogeelaw21.ProdLines'. -/
def prodLinesUptoCard : Claim7 := { stood := { row := prodLinesUptoRow, standIns := [], harness := (true, "93c377aed0c9b32e912e44db7666fcbcb15759f56139c9623a871a1dedcecdc7"), looks := false }, kinds := [], alts := [], laidByText := true, laidKinds := [.data, .data, .pinned], laidTests := true, laidLooks := .later }
def ProdLinesUptoCardSaid : Prop := Claim7.holds Tryz.pinned (.plain (OpenSpec.upto prodLinesSpec)) prodLinesUptoCard
end Rows
end Go.Proofs.YtpfgffadgkkedaaGreatDoor
