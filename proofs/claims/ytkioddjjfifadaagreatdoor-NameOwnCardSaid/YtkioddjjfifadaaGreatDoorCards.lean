/-
  DERIVED. GIVEN WITH THE SEED: THE CARDS: each row of YtkioddjjfifadaaGreatDoorRows.lean that lists a variable, with what it lists TIED to the program's text (the seventh form; the later family's looks); each row that meets fmt, with fmt's text TOLD by the authors' own Lean function (tested against real Go, not proved from fmt's source: count such statements apart). THE CARD IS WHAT COUNTS. Prove the row's statement (the work); the ties are given (YtkioddjjfifadaaGreatDoorTie.lean); close each card by the builder's one call (the guide's Derived/Test/ToyasCard.lean, 'card_holds'). Laid BY PROGRAM, IN A SANDBOX (cutbox-door.mjs). By AI agents, Wed Nov 11 2026. No macro, syntax, notation, axiom, sorry.
-/
import Derived.Test.YtkioddjjfifadaaGreatDoorRows
import GoSem.ClaimSeven
namespace Go.Proofs.YtkioddjjfifadaaGreatDoor
namespace Rows

/-- THE TIED CARD OF 'chirographlaw13.CrlTimes'. -/
def crlTimesCard : Claim7 := { stood := { row := crlTimesRow, standIns := [], harness := (true, "9ff4df7e578219656f6b5b630179cac2500b1b5439672f092528cf8164599c15"), looks := true }, kinds := [], alts := [], laidByText := true, laidKinds := [.data, .data, .data, .data, .handle, .pinned], laidTests := true, laidLooks := .later }
def CrlTimesCardSaid : Prop := Claim7.holds Tryz.pinned (.plain (OpenSpec.ofChange crlTimesSpec)) crlTimesCard

/-- THE TIED CARD OF 'chirographlaw13.CrlAsks'. -/
def crlAsksCard : Claim7 := { stood := { row := crlAsksRow, standIns := [], harness := (true, "9ff4df7e578219656f6b5b630179cac2500b1b5439672f092528cf8164599c15"), looks := true }, kinds := [], alts := [], laidByText := true, laidKinds := [.data, .data, .data, .data, .handle, .pinned], laidTests := true, laidLooks := .later }
def CrlAsksCardSaid : Prop := Claim7.holds Tryz.pinned (.plain (OpenSpec.ofChange crlAsksSpec)) crlAsksCard

/-- THE TIED CARD OF 'chirographlaw13.CrlOwn'. -/
def crlOwnCard : Claim7 := { stood := { row := crlOwnRow, standIns := [], harness := (true, "9ff4df7e578219656f6b5b630179cac2500b1b5439672f092528cf8164599c15"), looks := true }, kinds := [], alts := [], laidByText := true, laidKinds := [.data, .data, .data, .data, .handle, .pinned], laidTests := true, laidLooks := .later }
def CrlOwnCardSaid : Prop := Claim7.holds Tryz.pinned (.plain (OpenSpec.ofChange crlOwnSpec)) crlOwnCard

/-- THE TIED CARD OF 'chirographlaw07.NameParses'. -/
def nameParsesCard : Claim7 := { stood := { row := nameParsesRow, standIns := [], harness := (true, "9ff4df7e578219656f6b5b630179cac2500b1b5439672f092528cf8164599c15"), looks := true }, kinds := [], alts := [], laidByText := true, laidKinds := [.data, .data, .data, .data, .handle, .pinned], laidTests := true, laidLooks := .later }
def NameParsesCardSaid : Prop := Claim7.holds Tryz.pinned (.plain (OpenSpec.ofChange nameParsesSpec)) nameParsesCard

/-- THE TIED CARD OF 'chirographlaw07.NameBuilds'. -/
def nameBuildsCard : Claim7 := { stood := { row := nameBuildsRow, standIns := [], harness := (true, "9ff4df7e578219656f6b5b630179cac2500b1b5439672f092528cf8164599c15"), looks := true }, kinds := [], alts := [], laidByText := true, laidKinds := [.data, .data, .data, .data, .handle, .pinned], laidTests := true, laidLooks := .later }
def NameBuildsCardSaid : Prop := Claim7.holds Tryz.pinned (.plain (OpenSpec.ofChange nameBuildsSpec)) nameBuildsCard

/-- THE TIED CARD OF 'chirographlaw07.NameShows'. -/
def nameShowsCard : Claim7 := { stood := { row := nameShowsRow, standIns := [], harness := (true, "9ff4df7e578219656f6b5b630179cac2500b1b5439672f092528cf8164599c15"), looks := true }, kinds := [], alts := [], laidByText := true, laidKinds := [.data, .data, .data, .data, .handle, .pinned], laidTests := true, laidLooks := .later }
def NameShowsCardSaid : Prop := Claim7.holds Tryz.pinned (.plain (OpenSpec.ofChange nameShowsSpec)) nameShowsCard

/-- THE TIED CARD OF 'chirographlaw07.NameBack'. -/
def nameBackCard : Claim7 := { stood := { row := nameBackRow, standIns := [], harness := (true, "9ff4df7e578219656f6b5b630179cac2500b1b5439672f092528cf8164599c15"), looks := true }, kinds := [], alts := [], laidByText := true, laidKinds := [.data, .data, .data, .data, .handle, .pinned], laidTests := true, laidLooks := .later }
def NameBackCardSaid : Prop := Claim7.holds Tryz.pinned (.plain (OpenSpec.ofChange nameBackSpec)) nameBackCard

/-- THE TIED CARD OF 'chirographlaw07.NameTurns'. -/
def nameTurnsCard : Claim7 := { stood := { row := nameTurnsRow, standIns := [], harness := (true, "9ff4df7e578219656f6b5b630179cac2500b1b5439672f092528cf8164599c15"), looks := true }, kinds := [], alts := [], laidByText := true, laidKinds := [.data, .data, .data, .data, .handle, .pinned], laidTests := true, laidLooks := .later }
def NameTurnsCardSaid : Prop := Claim7.holds Tryz.pinned (.plain (OpenSpec.ofChange nameTurnsSpec)) nameTurnsCard

/-- THE TIED CARD OF 'chirographlaw07.NameOwn'. -/
def nameOwnCard : Claim7 := { stood := { row := nameOwnRow, standIns := [], harness := (true, "9ff4df7e578219656f6b5b630179cac2500b1b5439672f092528cf8164599c15"), looks := true }, kinds := [], alts := [], laidByText := true, laidKinds := [.data, .data, .data, .data, .handle, .pinned], laidTests := true, laidLooks := .later }
def NameOwnCardSaid : Prop := Claim7.holds Tryz.pinned (.plain (OpenSpec.ofChange nameOwnSpec)) nameOwnCard

/-- THE TIED CARD OF 'chirographlaw17.SignedParses'. -/
def signedParsesCard : Claim7 := { stood := { row := signedParsesRow, standIns := [], harness := (true, "9ff4df7e578219656f6b5b630179cac2500b1b5439672f092528cf8164599c15"), looks := true }, kinds := [], alts := [], laidByText := true, laidKinds := [.data, .data, .data, .data, .handle, .pinned], laidTests := true, laidLooks := .later }
def SignedParsesCardSaid : Prop := Claim7.holds Tryz.pinned (.plain (OpenSpec.ofChange signedParsesSpec)) signedParsesCard

/-- THE TIED CARD OF 'chirographlaw17.SignedParts'. -/
def signedPartsCard : Claim7 := { stood := { row := signedPartsRow, standIns := [], harness := (true, "9ff4df7e578219656f6b5b630179cac2500b1b5439672f092528cf8164599c15"), looks := true }, kinds := [], alts := [], laidByText := true, laidKinds := [.data, .data, .data, .data, .handle, .pinned], laidTests := true, laidLooks := .later }
def SignedPartsCardSaid : Prop := Claim7.holds Tryz.pinned (.plain (OpenSpec.ofChange signedPartsSpec)) signedPartsCard

/-- THE TIED CARD OF 'chirographlaw17.SignedOnes'. -/
def signedOnesCard : Claim7 := { stood := { row := signedOnesRow, standIns := [], harness := (true, "9ff4df7e578219656f6b5b630179cac2500b1b5439672f092528cf8164599c15"), looks := true }, kinds := [], alts := [], laidByText := true, laidKinds := [.data, .data, .data, .data, .handle, .pinned], laidTests := true, laidLooks := .later }
def SignedOnesCardSaid : Prop := Claim7.holds Tryz.pinned (.plain (OpenSpec.ofChange signedOnesSpec)) signedOnesCard

/-- THE TIED CARD OF 'chirographlaw17.SignedFinds'. -/
def signedFindsCard : Claim7 := { stood := { row := signedFindsRow, standIns := [], harness := (true, "9ff4df7e578219656f6b5b630179cac2500b1b5439672f092528cf8164599c15"), looks := true }, kinds := [], alts := [], laidByText := true, laidKinds := [.data, .data, .data, .data, .handle, .pinned], laidTests := true, laidLooks := .later }
def SignedFindsCardSaid : Prop := Claim7.holds Tryz.pinned (.plain (OpenSpec.ofChange signedFindsSpec)) signedFindsCard

/-- THE TIED CARD OF 'chirographlaw17.SignedBuilt'. -/
def signedBuiltCard : Claim7 := { stood := { row := signedBuiltRow, standIns := [], harness := (true, "9ff4df7e578219656f6b5b630179cac2500b1b5439672f092528cf8164599c15"), looks := true }, kinds := [], alts := [], laidByText := true, laidKinds := [.data, .data, .data, .data, .handle, .pinned], laidTests := true, laidLooks := .later }
def SignedBuiltCardSaid : Prop := Claim7.holds Tryz.pinned (.plain (OpenSpec.ofChange signedBuiltSpec)) signedBuiltCard

/-- THE TIED CARD OF 'chirographlaw17.SignedSelf'. -/
def signedSelfCard : Claim7 := { stood := { row := signedSelfRow, standIns := [], harness := (true, "9ff4df7e578219656f6b5b630179cac2500b1b5439672f092528cf8164599c15"), looks := true }, kinds := [], alts := [], laidByText := true, laidKinds := [.data, .data, .data, .data, .handle, .pinned], laidTests := true, laidLooks := .later }
def SignedSelfCardSaid : Prop := Claim7.holds Tryz.pinned (.plain (OpenSpec.ofChange signedSelfSpec)) signedSelfCard

/-- THE TIED CARD OF 'chirographlaw17.SignedOwn'. -/
def signedOwnCard : Claim7 := { stood := { row := signedOwnRow, standIns := [], harness := (true, "9ff4df7e578219656f6b5b630179cac2500b1b5439672f092528cf8164599c15"), looks := true }, kinds := [], alts := [], laidByText := true, laidKinds := [.data, .data, .data, .data, .handle, .pinned], laidTests := true, laidLooks := .later }
def SignedOwnCardSaid : Prop := Claim7.holds Tryz.pinned (.plain (OpenSpec.ofChange signedOwnSpec)) signedOwnCard

/-- THE SECOND FORM's CARD OF 'chirographlaw13.CrlTimes'. -/
def crlTimesUptoCard : Claim7 := { stood := { row := crlTimesUptoRow, standIns := [], harness := (true, "9ff4df7e578219656f6b5b630179cac2500b1b5439672f092528cf8164599c15"), looks := true }, kinds := [], alts := [], laidByText := true, laidKinds := [.data, .data, .data, .data, .handle, .pinned], laidTests := true, laidLooks := .later }
def CrlTimesUptoCardSaid : Prop := Claim7.holds Tryz.pinned (.plain (OpenSpec.upto crlTimesSpec)) crlTimesUptoCard

/-- THE SECOND FORM's CARD OF 'chirographlaw13.CrlAsks'. -/
def crlAsksUptoCard : Claim7 := { stood := { row := crlAsksUptoRow, standIns := [], harness := (true, "9ff4df7e578219656f6b5b630179cac2500b1b5439672f092528cf8164599c15"), looks := true }, kinds := [], alts := [], laidByText := true, laidKinds := [.data, .data, .data, .data, .handle, .pinned], laidTests := true, laidLooks := .later }
def CrlAsksUptoCardSaid : Prop := Claim7.holds Tryz.pinned (.plain (OpenSpec.upto crlAsksSpec)) crlAsksUptoCard

/-- THE SECOND FORM's CARD OF 'chirographlaw13.CrlOwn'. -/
def crlOwnUptoCard : Claim7 := { stood := { row := crlOwnUptoRow, standIns := [], harness := (true, "9ff4df7e578219656f6b5b630179cac2500b1b5439672f092528cf8164599c15"), looks := true }, kinds := [], alts := [], laidByText := true, laidKinds := [.data, .data, .data, .data, .handle, .pinned], laidTests := true, laidLooks := .later }
def CrlOwnUptoCardSaid : Prop := Claim7.holds Tryz.pinned (.plain (OpenSpec.upto crlOwnSpec)) crlOwnUptoCard

/-- THE SECOND FORM's CARD OF 'chirographlaw07.NameParses'. -/
def nameParsesUptoCard : Claim7 := { stood := { row := nameParsesUptoRow, standIns := [], harness := (true, "9ff4df7e578219656f6b5b630179cac2500b1b5439672f092528cf8164599c15"), looks := true }, kinds := [], alts := [], laidByText := true, laidKinds := [.data, .data, .data, .data, .handle, .pinned], laidTests := true, laidLooks := .later }
def NameParsesUptoCardSaid : Prop := Claim7.holds Tryz.pinned (.plain (OpenSpec.upto nameParsesSpec)) nameParsesUptoCard

/-- THE SECOND FORM's CARD OF 'chirographlaw07.NameBuilds'. -/
def nameBuildsUptoCard : Claim7 := { stood := { row := nameBuildsUptoRow, standIns := [], harness := (true, "9ff4df7e578219656f6b5b630179cac2500b1b5439672f092528cf8164599c15"), looks := true }, kinds := [], alts := [], laidByText := true, laidKinds := [.data, .data, .data, .data, .handle, .pinned], laidTests := true, laidLooks := .later }
def NameBuildsUptoCardSaid : Prop := Claim7.holds Tryz.pinned (.plain (OpenSpec.upto nameBuildsSpec)) nameBuildsUptoCard

/-- THE SECOND FORM's CARD OF 'chirographlaw07.NameShows'. -/
def nameShowsUptoCard : Claim7 := { stood := { row := nameShowsUptoRow, standIns := [], harness := (true, "9ff4df7e578219656f6b5b630179cac2500b1b5439672f092528cf8164599c15"), looks := true }, kinds := [], alts := [], laidByText := true, laidKinds := [.data, .data, .data, .data, .handle, .pinned], laidTests := true, laidLooks := .later }
def NameShowsUptoCardSaid : Prop := Claim7.holds Tryz.pinned (.plain (OpenSpec.upto nameShowsSpec)) nameShowsUptoCard

/-- THE SECOND FORM's CARD OF 'chirographlaw07.NameBack'. -/
def nameBackUptoCard : Claim7 := { stood := { row := nameBackUptoRow, standIns := [], harness := (true, "9ff4df7e578219656f6b5b630179cac2500b1b5439672f092528cf8164599c15"), looks := true }, kinds := [], alts := [], laidByText := true, laidKinds := [.data, .data, .data, .data, .handle, .pinned], laidTests := true, laidLooks := .later }
def NameBackUptoCardSaid : Prop := Claim7.holds Tryz.pinned (.plain (OpenSpec.upto nameBackSpec)) nameBackUptoCard

/-- THE SECOND FORM's CARD OF 'chirographlaw07.NameTurns'. -/
def nameTurnsUptoCard : Claim7 := { stood := { row := nameTurnsUptoRow, standIns := [], harness := (true, "9ff4df7e578219656f6b5b630179cac2500b1b5439672f092528cf8164599c15"), looks := true }, kinds := [], alts := [], laidByText := true, laidKinds := [.data, .data, .data, .data, .handle, .pinned], laidTests := true, laidLooks := .later }
def NameTurnsUptoCardSaid : Prop := Claim7.holds Tryz.pinned (.plain (OpenSpec.upto nameTurnsSpec)) nameTurnsUptoCard

/-- THE SECOND FORM's CARD OF 'chirographlaw07.NameOwn'. -/
def nameOwnUptoCard : Claim7 := { stood := { row := nameOwnUptoRow, standIns := [], harness := (true, "9ff4df7e578219656f6b5b630179cac2500b1b5439672f092528cf8164599c15"), looks := true }, kinds := [], alts := [], laidByText := true, laidKinds := [.data, .data, .data, .data, .handle, .pinned], laidTests := true, laidLooks := .later }
def NameOwnUptoCardSaid : Prop := Claim7.holds Tryz.pinned (.plain (OpenSpec.upto nameOwnSpec)) nameOwnUptoCard

/-- THE SECOND FORM's CARD OF 'chirographlaw17.SignedParses'. -/
def signedParsesUptoCard : Claim7 := { stood := { row := signedParsesUptoRow, standIns := [], harness := (true, "9ff4df7e578219656f6b5b630179cac2500b1b5439672f092528cf8164599c15"), looks := true }, kinds := [], alts := [], laidByText := true, laidKinds := [.data, .data, .data, .data, .handle, .pinned], laidTests := true, laidLooks := .later }
def SignedParsesUptoCardSaid : Prop := Claim7.holds Tryz.pinned (.plain (OpenSpec.upto signedParsesSpec)) signedParsesUptoCard

/-- THE SECOND FORM's CARD OF 'chirographlaw17.SignedParts'. -/
def signedPartsUptoCard : Claim7 := { stood := { row := signedPartsUptoRow, standIns := [], harness := (true, "9ff4df7e578219656f6b5b630179cac2500b1b5439672f092528cf8164599c15"), looks := true }, kinds := [], alts := [], laidByText := true, laidKinds := [.data, .data, .data, .data, .handle, .pinned], laidTests := true, laidLooks := .later }
def SignedPartsUptoCardSaid : Prop := Claim7.holds Tryz.pinned (.plain (OpenSpec.upto signedPartsSpec)) signedPartsUptoCard

/-- THE SECOND FORM's CARD OF 'chirographlaw17.SignedOnes'. -/
def signedOnesUptoCard : Claim7 := { stood := { row := signedOnesUptoRow, standIns := [], harness := (true, "9ff4df7e578219656f6b5b630179cac2500b1b5439672f092528cf8164599c15"), looks := true }, kinds := [], alts := [], laidByText := true, laidKinds := [.data, .data, .data, .data, .handle, .pinned], laidTests := true, laidLooks := .later }
def SignedOnesUptoCardSaid : Prop := Claim7.holds Tryz.pinned (.plain (OpenSpec.upto signedOnesSpec)) signedOnesUptoCard

/-- THE SECOND FORM's CARD OF 'chirographlaw17.SignedFinds'. -/
def signedFindsUptoCard : Claim7 := { stood := { row := signedFindsUptoRow, standIns := [], harness := (true, "9ff4df7e578219656f6b5b630179cac2500b1b5439672f092528cf8164599c15"), looks := true }, kinds := [], alts := [], laidByText := true, laidKinds := [.data, .data, .data, .data, .handle, .pinned], laidTests := true, laidLooks := .later }
def SignedFindsUptoCardSaid : Prop := Claim7.holds Tryz.pinned (.plain (OpenSpec.upto signedFindsSpec)) signedFindsUptoCard

/-- THE SECOND FORM's CARD OF 'chirographlaw17.SignedBuilt'. -/
def signedBuiltUptoCard : Claim7 := { stood := { row := signedBuiltUptoRow, standIns := [], harness := (true, "9ff4df7e578219656f6b5b630179cac2500b1b5439672f092528cf8164599c15"), looks := true }, kinds := [], alts := [], laidByText := true, laidKinds := [.data, .data, .data, .data, .handle, .pinned], laidTests := true, laidLooks := .later }
def SignedBuiltUptoCardSaid : Prop := Claim7.holds Tryz.pinned (.plain (OpenSpec.upto signedBuiltSpec)) signedBuiltUptoCard

/-- THE SECOND FORM's CARD OF 'chirographlaw17.SignedSelf'. -/
def signedSelfUptoCard : Claim7 := { stood := { row := signedSelfUptoRow, standIns := [], harness := (true, "9ff4df7e578219656f6b5b630179cac2500b1b5439672f092528cf8164599c15"), looks := true }, kinds := [], alts := [], laidByText := true, laidKinds := [.data, .data, .data, .data, .handle, .pinned], laidTests := true, laidLooks := .later }
def SignedSelfUptoCardSaid : Prop := Claim7.holds Tryz.pinned (.plain (OpenSpec.upto signedSelfSpec)) signedSelfUptoCard

/-- THE SECOND FORM's CARD OF 'chirographlaw17.SignedOwn'. -/
def signedOwnUptoCard : Claim7 := { stood := { row := signedOwnUptoRow, standIns := [], harness := (true, "9ff4df7e578219656f6b5b630179cac2500b1b5439672f092528cf8164599c15"), looks := true }, kinds := [], alts := [], laidByText := true, laidKinds := [.data, .data, .data, .data, .handle, .pinned], laidTests := true, laidLooks := .later }
def SignedOwnUptoCardSaid : Prop := Claim7.holds Tryz.pinned (.plain (OpenSpec.upto signedOwnSpec)) signedOwnUptoCard
end Rows
end Go.Proofs.YtkioddjjfifadaaGreatDoor
