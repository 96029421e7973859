/-
  DERIVED. GIVEN WITH THE SEED: THE CARDS: each row of YtdaadlblknpipaaGreatDoorRows.lean that lists a variable, with what it lists TIED to the program's text (the seventh form; the later family's looks); each row that meets fmt, with fmt's text TOLD by the authors' own Lean function (tested against real Go, not proved from fmt's source: count such statements apart). THE CARD IS WHAT COUNTS. Prove the row's statement (the work); the ties are given (YtdaadlblknpipaaGreatDoorTie.lean); close each card by the builder's one call (the guide's Derived/Test/ToyasCard.lean, 'card_holds'). Laid BY PROGRAM, IN A SANDBOX (cutbox-door.mjs). By AI agents, Wed Nov 11 2026. No macro, syntax, notation, axiom, sorry.
-/
import Derived.Test.YtdaadlblknpipaaGreatDoorRows
import GoSem.ClaimSeven
namespace Go.Proofs.YtdaadlblknpipaaGreatDoor
namespace Rows

/-- THE TIED CARD OF 'ogeelaw15.TriChecks'. -/
def triChecksCard : Claim7 := { stood := { row := triChecksRow, standIns := [], harness := (true, "823e0eadeac95b01015e8dbfb3c570fc08812a21d77c9865f4c287880c7096b7"), looks := false }, kinds := [], alts := [], laidByText := true, laidKinds := [.data, .data, .pinned], laidTests := true, laidLooks := .later }
def TriChecksCardSaid : Prop := Claim7.holds Tryz.pinned (.plain (OpenSpec.ofChange triChecksSpec)) triChecksCard

/-- THE TIED CARD OF 'ogeelaw15.TriWeights'. -/
def triWeightsCard : Claim7 := { stood := { row := triWeightsRow, standIns := [], harness := (true, "823e0eadeac95b01015e8dbfb3c570fc08812a21d77c9865f4c287880c7096b7"), looks := false }, kinds := [], alts := [], laidByText := true, laidKinds := [.data, .data, .pinned], laidTests := true, laidLooks := .later }
def TriWeightsCardSaid : Prop := Claim7.holds Tryz.pinned (.plain (OpenSpec.ofChange triWeightsSpec)) triWeightsCard

/-- THE TIED CARD OF 'ogeelaw15.TriHalved'. -/
def triHalvedCard : Claim7 := { stood := { row := triHalvedRow, standIns := [], harness := (true, "823e0eadeac95b01015e8dbfb3c570fc08812a21d77c9865f4c287880c7096b7"), looks := false }, kinds := [], alts := [], laidByText := true, laidKinds := [.data, .data, .pinned], laidTests := true, laidLooks := .later }
def TriHalvedCardSaid : Prop := Claim7.holds Tryz.pinned (.plain (OpenSpec.ofChange triHalvedSpec)) triHalvedCard

/-- THE TIED CARD OF 'ogeelaw15.TriParts'. -/
def triPartsCard : Claim7 := { stood := { row := triPartsRow, standIns := [], harness := (true, "823e0eadeac95b01015e8dbfb3c570fc08812a21d77c9865f4c287880c7096b7"), looks := false }, kinds := [], alts := [], laidByText := true, laidKinds := [.data, .data, .pinned], laidTests := true, laidLooks := .later }
def TriPartsCardSaid : Prop := Claim7.holds Tryz.pinned (.plain (OpenSpec.ofChange triPartsSpec)) triPartsCard

/-- THE TIED CARD OF 'ogeelaw15.TriSmaller'. -/
def triSmallerCard : Claim7 := { stood := { row := triSmallerRow, standIns := [], harness := (true, "823e0eadeac95b01015e8dbfb3c570fc08812a21d77c9865f4c287880c7096b7"), looks := false }, kinds := [], alts := [], laidByText := true, laidKinds := [.data, .data, .pinned], laidTests := true, laidLooks := .later }
def TriSmallerCardSaid : Prop := Claim7.holds Tryz.pinned (.plain (OpenSpec.ofChange triSmallerSpec)) triSmallerCard

/-- THE TIED CARD OF 'ogeelaw15.TriCorners'. -/
def triCornersCard : Claim7 := { stood := { row := triCornersRow, standIns := [], harness := (true, "823e0eadeac95b01015e8dbfb3c570fc08812a21d77c9865f4c287880c7096b7"), looks := false }, kinds := [], alts := [], laidByText := true, laidKinds := [.data, .data, .pinned], laidTests := true, laidLooks := .later }
def TriCornersCardSaid : Prop := Claim7.holds Tryz.pinned (.plain (OpenSpec.ofChange triCornersSpec)) triCornersCard

/-- THE SECOND FORM's CARD OF 'ogeelaw15.TriChecks'. -/
def triChecksUptoCard : Claim7 := { stood := { row := triChecksUptoRow, standIns := [], harness := (true, "823e0eadeac95b01015e8dbfb3c570fc08812a21d77c9865f4c287880c7096b7"), looks := false }, kinds := [], alts := [], laidByText := true, laidKinds := [.data, .data, .pinned], laidTests := true, laidLooks := .later }
def TriChecksUptoCardSaid : Prop := Claim7.holds Tryz.pinned (.plain (OpenSpec.upto triChecksSpec)) triChecksUptoCard

/-- THE SECOND FORM's CARD OF 'ogeelaw15.TriWeights'. -/
def triWeightsUptoCard : Claim7 := { stood := { row := triWeightsUptoRow, standIns := [], harness := (true, "823e0eadeac95b01015e8dbfb3c570fc08812a21d77c9865f4c287880c7096b7"), looks := false }, kinds := [], alts := [], laidByText := true, laidKinds := [.data, .data, .pinned], laidTests := true, laidLooks := .later }
def TriWeightsUptoCardSaid : Prop := Claim7.holds Tryz.pinned (.plain (OpenSpec.upto triWeightsSpec)) triWeightsUptoCard

/-- THE SECOND FORM's CARD OF 'ogeelaw15.TriHalved'. -/
def triHalvedUptoCard : Claim7 := { stood := { row := triHalvedUptoRow, standIns := [], harness := (true, "823e0eadeac95b01015e8dbfb3c570fc08812a21d77c9865f4c287880c7096b7"), looks := false }, kinds := [], alts := [], laidByText := true, laidKinds := [.data, .data, .pinned], laidTests := true, laidLooks := .later }
def TriHalvedUptoCardSaid : Prop := Claim7.holds Tryz.pinned (.plain (OpenSpec.upto triHalvedSpec)) triHalvedUptoCard

/-- THE SECOND FORM's CARD OF 'ogeelaw15.TriParts'. -/
def triPartsUptoCard : Claim7 := { stood := { row := triPartsUptoRow, standIns := [], harness := (true, "823e0eadeac95b01015e8dbfb3c570fc08812a21d77c9865f4c287880c7096b7"), looks := false }, kinds := [], alts := [], laidByText := true, laidKinds := [.data, .data, .pinned], laidTests := true, laidLooks := .later }
def TriPartsUptoCardSaid : Prop := Claim7.holds Tryz.pinned (.plain (OpenSpec.upto triPartsSpec)) triPartsUptoCard

/-- THE SECOND FORM's CARD OF 'ogeelaw15.TriSmaller'. -/
def triSmallerUptoCard : Claim7 := { stood := { row := triSmallerUptoRow, standIns := [], harness := (true, "823e0eadeac95b01015e8dbfb3c570fc08812a21d77c9865f4c287880c7096b7"), looks := false }, kinds := [], alts := [], laidByText := true, laidKinds := [.data, .data, .pinned], laidTests := true, laidLooks := .later }
def TriSmallerUptoCardSaid : Prop := Claim7.holds Tryz.pinned (.plain (OpenSpec.upto triSmallerSpec)) triSmallerUptoCard

/-- THE SECOND FORM's CARD OF 'ogeelaw15.TriCorners'. -/
def triCornersUptoCard : Claim7 := { stood := { row := triCornersUptoRow, standIns := [], harness := (true, "823e0eadeac95b01015e8dbfb3c570fc08812a21d77c9865f4c287880c7096b7"), looks := false }, kinds := [], alts := [], laidByText := true, laidKinds := [.data, .data, .pinned], laidTests := true, laidLooks := .later }
def TriCornersUptoCardSaid : Prop := Claim7.holds Tryz.pinned (.plain (OpenSpec.upto triCornersSpec)) triCornersUptoCard
end Rows
end Go.Proofs.YtdaadlblknpipaaGreatDoor
