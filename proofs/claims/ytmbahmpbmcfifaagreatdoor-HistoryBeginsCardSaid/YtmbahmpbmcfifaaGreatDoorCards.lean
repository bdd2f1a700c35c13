/-
  DERIVED. GIVEN WITH THE SEED: THE CARDS: each row of YtmbahmpbmcfifaaGreatDoorRows.lean that lists a variable, with what it lists TIED to the program's text (the seventh form; the later family's looks); each row that meets fmt, with fmt's text TOLD by the authors' own Lean function (tested against real Go, not proved from fmt's source: count such statements apart). THE CARD IS WHAT COUNTS. Prove the row's statement (the work); the ties are given (YtmbahmpbmcfifaaGreatDoorTie.lean); close each card by the builder's one call (the guide's Derived/Test/ToyasCard.lean, 'card_holds'). Laid BY PROGRAM, IN A SANDBOX (cutbox-door.mjs). By AI agents, Wed Nov 11 2026. No macro, syntax, notation, axiom, sorry.
-/
import Derived.Test.YtmbahmpbmcfifaaGreatDoorRows
import GoSem.ClaimSeven
namespace Go.Proofs.YtmbahmpbmcfifaaGreatDoor
namespace Rows

/-- THE TIED CARD OF 'passimlaw11.HistoryLinks'. -/
def historyLinksCard : Claim7 := { stood := { row := historyLinksRow, standIns := [], harness := (true, "c6f5ef03cacdaa5786be4a559b5b3e2a8c0d2d0acca104687f08453d77253f70"), looks := true }, kinds := [], alts := [], laidByText := true, laidKinds := [.data, .data], laidTests := true, laidLooks := .later }
def HistoryLinksCardSaid : Prop := Claim7.holds Tryz.pinned (.plain (OpenSpec.ofChange historyLinksSpec)) historyLinksCard

/-- THE TIED CARD OF 'passimlaw11.HistoryTerms'. -/
def historyTermsCard : Claim7 := { stood := { row := historyTermsRow, standIns := [], harness := (true, "c6f5ef03cacdaa5786be4a559b5b3e2a8c0d2d0acca104687f08453d77253f70"), looks := true }, kinds := [], alts := [], laidByText := true, laidKinds := [.data, .data], laidTests := true, laidLooks := .later }
def HistoryTermsCardSaid : Prop := Claim7.holds Tryz.pinned (.plain (OpenSpec.ofChange historyTermsSpec)) historyTermsCard

/-- THE TIED CARD OF 'passimlaw11.HistoryLines'. -/
def historyLinesCard : Claim7 := { stood := { row := historyLinesRow, standIns := [], harness := (true, "c6f5ef03cacdaa5786be4a559b5b3e2a8c0d2d0acca104687f08453d77253f70"), looks := true }, kinds := [], alts := [], laidByText := true, laidKinds := [.data, .data], laidTests := true, laidLooks := .later }
def HistoryLinesCardSaid : Prop := Claim7.holds Tryz.pinned (.plain (OpenSpec.ofChange historyLinesSpec)) historyLinesCard

/-- THE TIED CARD OF 'passimlaw11.HistoryBegins'. -/
def historyBeginsCard : Claim7 := { stood := { row := historyBeginsRow, standIns := [], harness := (true, "c6f5ef03cacdaa5786be4a559b5b3e2a8c0d2d0acca104687f08453d77253f70"), looks := true }, kinds := [], alts := [], laidByText := true, laidKinds := [.data, .data], laidTests := true, laidLooks := .later }
def HistoryBeginsCardSaid : Prop := Claim7.holds Tryz.pinned (.plain (OpenSpec.ofChange historyBeginsSpec)) historyBeginsCard

/-- THE TIED CARD OF 'passimlaw11.HistoryPlays'. -/
def historyPlaysCard : Claim7 := { stood := { row := historyPlaysRow, standIns := [], harness := (true, "c6f5ef03cacdaa5786be4a559b5b3e2a8c0d2d0acca104687f08453d77253f70"), looks := true }, kinds := [], alts := [], laidByText := true, laidKinds := [.data, .data], laidTests := true, laidLooks := .later }
def HistoryPlaysCardSaid : Prop := Claim7.holds Tryz.pinned (.plain (OpenSpec.ofChange historyPlaysSpec)) historyPlaysCard

/-- THE TIED CARD OF 'passimlaw11.HistoryOrder'. -/
def historyOrderCard : Claim7 := { stood := { row := historyOrderRow, standIns := [], harness := (true, "c6f5ef03cacdaa5786be4a559b5b3e2a8c0d2d0acca104687f08453d77253f70"), looks := true }, kinds := [], alts := [], laidByText := true, laidKinds := [.data, .data], laidTests := true, laidLooks := .later }
def HistoryOrderCardSaid : Prop := Claim7.holds Tryz.pinned (.plain (OpenSpec.ofChange historyOrderSpec)) historyOrderCard

/-- THE TIED CARD OF 'passimlaw11.HistoryLeft'. -/
def historyLeftCard : Claim7 := { stood := { row := historyLeftRow, standIns := [], harness := (true, "c6f5ef03cacdaa5786be4a559b5b3e2a8c0d2d0acca104687f08453d77253f70"), looks := true }, kinds := [], alts := [], laidByText := true, laidKinds := [.data, .data], laidTests := true, laidLooks := .later }
def HistoryLeftCardSaid : Prop := Claim7.holds Tryz.pinned (.plain (OpenSpec.ofChange historyLeftSpec)) historyLeftCard

/-- THE SECOND FORM's CARD OF 'passimlaw11.HistoryLinks'. -/
def historyLinksUptoCard : Claim7 := { stood := { row := historyLinksUptoRow, standIns := [], harness := (true, "c6f5ef03cacdaa5786be4a559b5b3e2a8c0d2d0acca104687f08453d77253f70"), looks := true }, kinds := [], alts := [], laidByText := true, laidKinds := [.data, .data], laidTests := true, laidLooks := .later }
def HistoryLinksUptoCardSaid : Prop := Claim7.holds Tryz.pinned (.plain (OpenSpec.upto historyLinksSpec)) historyLinksUptoCard

/-- THE SECOND FORM's CARD OF 'passimlaw11.HistoryTerms'. -/
def historyTermsUptoCard : Claim7 := { stood := { row := historyTermsUptoRow, standIns := [], harness := (true, "c6f5ef03cacdaa5786be4a559b5b3e2a8c0d2d0acca104687f08453d77253f70"), looks := true }, kinds := [], alts := [], laidByText := true, laidKinds := [.data, .data], laidTests := true, laidLooks := .later }
def HistoryTermsUptoCardSaid : Prop := Claim7.holds Tryz.pinned (.plain (OpenSpec.upto historyTermsSpec)) historyTermsUptoCard

/-- THE SECOND FORM's CARD OF 'passimlaw11.HistoryLines'. -/
def historyLinesUptoCard : Claim7 := { stood := { row := historyLinesUptoRow, standIns := [], harness := (true, "c6f5ef03cacdaa5786be4a559b5b3e2a8c0d2d0acca104687f08453d77253f70"), looks := true }, kinds := [], alts := [], laidByText := true, laidKinds := [.data, .data], laidTests := true, laidLooks := .later }
def HistoryLinesUptoCardSaid : Prop := Claim7.holds Tryz.pinned (.plain (OpenSpec.upto historyLinesSpec)) historyLinesUptoCard

/-- THE SECOND FORM's CARD OF 'passimlaw11.HistoryBegins'. -/
def historyBeginsUptoCard : Claim7 := { stood := { row := historyBeginsUptoRow, standIns := [], harness := (true, "c6f5ef03cacdaa5786be4a559b5b3e2a8c0d2d0acca104687f08453d77253f70"), looks := true }, kinds := [], alts := [], laidByText := true, laidKinds := [.data, .data], laidTests := true, laidLooks := .later }
def HistoryBeginsUptoCardSaid : Prop := Claim7.holds Tryz.pinned (.plain (OpenSpec.upto historyBeginsSpec)) historyBeginsUptoCard

/-- THE SECOND FORM's CARD OF 'passimlaw11.HistoryPlays'. -/
def historyPlaysUptoCard : Claim7 := { stood := { row := historyPlaysUptoRow, standIns := [], harness := (true, "c6f5ef03cacdaa5786be4a559b5b3e2a8c0d2d0acca104687f08453d77253f70"), looks := true }, kinds := [], alts := [], laidByText := true, laidKinds := [.data, .data], laidTests := true, laidLooks := .later }
def HistoryPlaysUptoCardSaid : Prop := Claim7.holds Tryz.pinned (.plain (OpenSpec.upto historyPlaysSpec)) historyPlaysUptoCard

/-- THE SECOND FORM's CARD OF 'passimlaw11.HistoryOrder'. -/
def historyOrderUptoCard : Claim7 := { stood := { row := historyOrderUptoRow, standIns := [], harness := (true, "c6f5ef03cacdaa5786be4a559b5b3e2a8c0d2d0acca104687f08453d77253f70"), looks := true }, kinds := [], alts := [], laidByText := true, laidKinds := [.data, .data], laidTests := true, laidLooks := .later }
def HistoryOrderUptoCardSaid : Prop := Claim7.holds Tryz.pinned (.plain (OpenSpec.upto historyOrderSpec)) historyOrderUptoCard

/-- THE SECOND FORM's CARD OF 'passimlaw11.HistoryLeft'. -/
def historyLeftUptoCard : Claim7 := { stood := { row := historyLeftUptoRow, standIns := [], harness := (true, "c6f5ef03cacdaa5786be4a559b5b3e2a8c0d2d0acca104687f08453d77253f70"), looks := true }, kinds := [], alts := [], laidByText := true, laidKinds := [.data, .data], laidTests := true, laidLooks := .later }
def HistoryLeftUptoCardSaid : Prop := Claim7.holds Tryz.pinned (.plain (OpenSpec.upto historyLeftSpec)) historyLeftUptoCard
end Rows
end Go.Proofs.YtmbahmpbmcfifaaGreatDoor
