/-
  DERIVED. GIVEN WITH THE SEED: THE CARDS: each row of YtolmfeknhoiepaaGreatDoorRows.lean that lists a variable, with what it lists TIED to the program's text (the seventh form; the later family's looks); each row that meets fmt, with fmt's text TOLD by the authors' own Lean function (tested against real Go, not proved from fmt's source: count such statements apart). THE CARD IS WHAT COUNTS. Prove the row's statement (the work); the ties are given (YtolmfeknhoiepaaGreatDoorTie.lean); close each card by the builder's one call (the guide's Derived/Test/ToyasCard.lean, 'card_holds'). Laid BY PROGRAM, IN A SANDBOX (cutbox-door.mjs). By AI agents, Wed Nov 11 2026. No macro, syntax, notation, axiom, sorry.
-/
import Derived.Test.YtolmfeknhoiepaaGreatDoorRows
import GoSem.ClaimSeven
namespace Go.Proofs.YtolmfeknhoiepaaGreatDoor
namespace Rows

/-- THE TIED CARD OF 'tompionlaw19.HistoryReplies'. -/
def historyRepliesCard : Claim7 := { stood := { row := historyRepliesRow, standIns := [], harness := (true, "d4a271adc168c6489305ca6282ab7a0b7281f28c7d92f8f325ed2f41020c523a"), looks := false }, kinds := [], alts := [], laidByText := true, laidKinds := [.data, .data, .pinned], laidTests := true, laidLooks := .later }
def HistoryRepliesCardSaid : Prop := Claim7.holds Tryz.pinned (.plain (OpenSpec.ofChange historyRepliesSpec)) historyRepliesCard

/-- THE TIED CARD OF 'tompionlaw19.HistoryStands'. -/
def historyStandsCard : Claim7 := { stood := { row := historyStandsRow, standIns := [], harness := (true, "d4a271adc168c6489305ca6282ab7a0b7281f28c7d92f8f325ed2f41020c523a"), looks := false }, kinds := [], alts := [], laidByText := true, laidKinds := [.data, .data, .pinned], laidTests := true, laidLooks := .later }
def HistoryStandsCardSaid : Prop := Claim7.holds Tryz.pinned (.plain (OpenSpec.ofChange historyStandsSpec)) historyStandsCard

/-- THE TIED CARD OF 'tompionlaw19.HistoryPlaces'. -/
def historyPlacesCard : Claim7 := { stood := { row := historyPlacesRow, standIns := [], harness := (true, "d4a271adc168c6489305ca6282ab7a0b7281f28c7d92f8f325ed2f41020c523a"), looks := false }, kinds := [], alts := [], laidByText := true, laidKinds := [.data, .data, .pinned], laidTests := true, laidLooks := .later }
def HistoryPlacesCardSaid : Prop := Claim7.holds Tryz.pinned (.plain (OpenSpec.ofChange historyPlacesSpec)) historyPlacesCard

/-- THE TIED CARD OF 'tompionlaw19.HistoryCalm'. -/
def historyCalmCard : Claim7 := { stood := { row := historyCalmRow, standIns := [], harness := (true, "d4a271adc168c6489305ca6282ab7a0b7281f28c7d92f8f325ed2f41020c523a"), looks := false }, kinds := [], alts := [], laidByText := true, laidKinds := [.data, .data, .pinned], laidTests := true, laidLooks := .later }
def HistoryCalmCardSaid : Prop := Claim7.holds Tryz.pinned (.plain (OpenSpec.ofChange historyCalmSpec)) historyCalmCard

/-- THE TIED CARD OF 'tompionlaw19.HistoryFewer'. -/
def historyFewerCard : Claim7 := { stood := { row := historyFewerRow, standIns := [], harness := (true, "d4a271adc168c6489305ca6282ab7a0b7281f28c7d92f8f325ed2f41020c523a"), looks := false }, kinds := [], alts := [], laidByText := true, laidKinds := [.data, .data, .pinned], laidTests := true, laidLooks := .later }
def HistoryFewerCardSaid : Prop := Claim7.holds Tryz.pinned (.plain (OpenSpec.ofChange historyFewerSpec)) historyFewerCard

/-- THE TIED CARD OF 'tompionlaw09.OplogStays'. -/
def oplogStaysCard : Claim7 := { stood := { row := oplogStaysRow, standIns := [], harness := (true, "d4a271adc168c6489305ca6282ab7a0b7281f28c7d92f8f325ed2f41020c523a"), looks := false }, kinds := [], alts := [], laidByText := true, laidKinds := [.data, .data, .pinned], laidTests := true, laidLooks := .later }
def OplogStaysCardSaid : Prop := Claim7.holds Tryz.pinned (.plain (OpenSpec.ofChange oplogStaysSpec)) oplogStaysCard

/-- THE TIED CARD OF 'tompionlaw09.OplogDue'. -/
def oplogDueCard : Claim7 := { stood := { row := oplogDueRow, standIns := [], harness := (true, "d4a271adc168c6489305ca6282ab7a0b7281f28c7d92f8f325ed2f41020c523a"), looks := false }, kinds := [], alts := [], laidByText := true, laidKinds := [.data, .data, .pinned], laidTests := true, laidLooks := .later }
def OplogDueCardSaid : Prop := Claim7.holds Tryz.pinned (.plain (OpenSpec.ofChange oplogDueSpec)) oplogDueCard

/-- THE TIED CARD OF 'tompionlaw09.OplogNil'. -/
def oplogNilCard : Claim7 := { stood := { row := oplogNilRow, standIns := [], harness := (true, "d4a271adc168c6489305ca6282ab7a0b7281f28c7d92f8f325ed2f41020c523a"), looks := false }, kinds := [], alts := [], laidByText := true, laidKinds := [.data, .data, .pinned], laidTests := true, laidLooks := .later }
def OplogNilCardSaid : Prop := Claim7.holds Tryz.pinned (.plain (OpenSpec.ofChange oplogNilSpec)) oplogNilCard

/-- THE SECOND FORM's CARD OF 'tompionlaw19.HistoryReplies'. -/
def historyRepliesUptoCard : Claim7 := { stood := { row := historyRepliesUptoRow, standIns := [], harness := (true, "d4a271adc168c6489305ca6282ab7a0b7281f28c7d92f8f325ed2f41020c523a"), looks := false }, kinds := [], alts := [], laidByText := true, laidKinds := [.data, .data, .pinned], laidTests := true, laidLooks := .later }
def HistoryRepliesUptoCardSaid : Prop := Claim7.holds Tryz.pinned (.plain (OpenSpec.upto historyRepliesSpec)) historyRepliesUptoCard

/-- THE SECOND FORM's CARD OF 'tompionlaw19.HistoryStands'. -/
def historyStandsUptoCard : Claim7 := { stood := { row := historyStandsUptoRow, standIns := [], harness := (true, "d4a271adc168c6489305ca6282ab7a0b7281f28c7d92f8f325ed2f41020c523a"), looks := false }, kinds := [], alts := [], laidByText := true, laidKinds := [.data, .data, .pinned], laidTests := true, laidLooks := .later }
def HistoryStandsUptoCardSaid : Prop := Claim7.holds Tryz.pinned (.plain (OpenSpec.upto historyStandsSpec)) historyStandsUptoCard

/-- THE SECOND FORM's CARD OF 'tompionlaw19.HistoryPlaces'. -/
def historyPlacesUptoCard : Claim7 := { stood := { row := historyPlacesUptoRow, standIns := [], harness := (true, "d4a271adc168c6489305ca6282ab7a0b7281f28c7d92f8f325ed2f41020c523a"), looks := false }, kinds := [], alts := [], laidByText := true, laidKinds := [.data, .data, .pinned], laidTests := true, laidLooks := .later }
def HistoryPlacesUptoCardSaid : Prop := Claim7.holds Tryz.pinned (.plain (OpenSpec.upto historyPlacesSpec)) historyPlacesUptoCard

/-- THE SECOND FORM's CARD OF 'tompionlaw19.HistoryCalm'. -/
def historyCalmUptoCard : Claim7 := { stood := { row := historyCalmUptoRow, standIns := [], harness := (true, "d4a271adc168c6489305ca6282ab7a0b7281f28c7d92f8f325ed2f41020c523a"), looks := false }, kinds := [], alts := [], laidByText := true, laidKinds := [.data, .data, .pinned], laidTests := true, laidLooks := .later }
def HistoryCalmUptoCardSaid : Prop := Claim7.holds Tryz.pinned (.plain (OpenSpec.upto historyCalmSpec)) historyCalmUptoCard

/-- THE SECOND FORM's CARD OF 'tompionlaw19.HistoryFewer'. -/
def historyFewerUptoCard : Claim7 := { stood := { row := historyFewerUptoRow, standIns := [], harness := (true, "d4a271adc168c6489305ca6282ab7a0b7281f28c7d92f8f325ed2f41020c523a"), looks := false }, kinds := [], alts := [], laidByText := true, laidKinds := [.data, .data, .pinned], laidTests := true, laidLooks := .later }
def HistoryFewerUptoCardSaid : Prop := Claim7.holds Tryz.pinned (.plain (OpenSpec.upto historyFewerSpec)) historyFewerUptoCard

/-- THE SECOND FORM's CARD OF 'tompionlaw09.OplogStays'. -/
def oplogStaysUptoCard : Claim7 := { stood := { row := oplogStaysUptoRow, standIns := [], harness := (true, "d4a271adc168c6489305ca6282ab7a0b7281f28c7d92f8f325ed2f41020c523a"), looks := false }, kinds := [], alts := [], laidByText := true, laidKinds := [.data, .data, .pinned], laidTests := true, laidLooks := .later }
def OplogStaysUptoCardSaid : Prop := Claim7.holds Tryz.pinned (.plain (OpenSpec.upto oplogStaysSpec)) oplogStaysUptoCard

/-- THE SECOND FORM's CARD OF 'tompionlaw09.OplogDue'. -/
def oplogDueUptoCard : Claim7 := { stood := { row := oplogDueUptoRow, standIns := [], harness := (true, "d4a271adc168c6489305ca6282ab7a0b7281f28c7d92f8f325ed2f41020c523a"), looks := false }, kinds := [], alts := [], laidByText := true, laidKinds := [.data, .data, .pinned], laidTests := true, laidLooks := .later }
def OplogDueUptoCardSaid : Prop := Claim7.holds Tryz.pinned (.plain (OpenSpec.upto oplogDueSpec)) oplogDueUptoCard

/-- THE SECOND FORM's CARD OF 'tompionlaw09.OplogNil'. -/
def oplogNilUptoCard : Claim7 := { stood := { row := oplogNilUptoRow, standIns := [], harness := (true, "d4a271adc168c6489305ca6282ab7a0b7281f28c7d92f8f325ed2f41020c523a"), looks := false }, kinds := [], alts := [], laidByText := true, laidKinds := [.data, .data, .pinned], laidTests := true, laidLooks := .later }
def OplogNilUptoCardSaid : Prop := Claim7.holds Tryz.pinned (.plain (OpenSpec.upto oplogNilSpec)) oplogNilUptoCard
end Rows
end Go.Proofs.YtolmfeknhoiepaaGreatDoor
