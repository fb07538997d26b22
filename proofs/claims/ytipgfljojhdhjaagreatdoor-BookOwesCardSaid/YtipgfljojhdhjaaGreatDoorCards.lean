/-
  DERIVED. GIVEN WITH THE SEED: THE CARDS: each row of YtipgfljojhdhjaaGreatDoorRows.lean that lists a variable, with what it lists TIED to the program's text (the seventh form; the later family's looks); each row that meets fmt, with fmt's text TOLD by the authors' own Lean function (tested against real Go, not proved from fmt's source: count such statements apart). THE CARD IS WHAT COUNTS. Prove the row's statement (the work); the ties are given (YtipgfljojhdhjaaGreatDoorTie.lean); close each card by the builder's one call (the guide's Derived/Test/ToyasCard.lean, 'card_holds'). Laid BY PROGRAM, IN A SANDBOX (cutbox-door.mjs). By AI agents, Wed Nov 11 2026. No macro, syntax, notation, axiom, sorry.
-/
import Derived.Test.YtipgfljojhdhjaaGreatDoorRows
import GoSem.ClaimSeven
namespace Go.Proofs.YtipgfljojhdhjaaGreatDoor
namespace Rows

/-- THE TIED CARD OF 'turretlaw13.BookOwes'. -/
def bookOwesCard : Claim7 := { stood := { row := bookOwesRow, standIns := [], harness := (true, "aa4043c4bdadcbd98aab7e19f20356aa217da42954c5cb6da7be4d0b83658203"), looks := true }, kinds := [], alts := [], laidByText := true, laidKinds := [.data, .data, .data, .data, .sentinel, .sentinel, .pinned], laidTests := true, laidLooks := .later }
def BookOwesCardSaid : Prop := Claim7.holds Tryz.pinned (.plain (OpenSpec.ofChange bookOwesSpec)) bookOwesCard

/-- THE TIED CARD OF 'turretlaw13.BookWrites'. -/
def bookWritesCard : Claim7 := { stood := { row := bookWritesRow, standIns := [], harness := (true, "aa4043c4bdadcbd98aab7e19f20356aa217da42954c5cb6da7be4d0b83658203"), looks := true }, kinds := [], alts := [], laidByText := true, laidKinds := [.data, .data, .data, .data, .sentinel, .sentinel, .pinned], laidTests := true, laidLooks := .later }
def BookWritesCardSaid : Prop := Claim7.holds Tryz.pinned (.plain (OpenSpec.ofChange bookWritesSpec)) bookWritesCard

/-- THE TIED CARD OF 'turretlaw13.BookReads'. -/
def bookReadsCard : Claim7 := { stood := { row := bookReadsRow, standIns := [], harness := (true, "aa4043c4bdadcbd98aab7e19f20356aa217da42954c5cb6da7be4d0b83658203"), looks := true }, kinds := [], alts := [], laidByText := true, laidKinds := [.data, .data, .data, .data, .sentinel, .sentinel, .pinned], laidTests := true, laidLooks := .later }
def BookReadsCardSaid : Prop := Claim7.holds Tryz.pinned (.plain (OpenSpec.ofChange bookReadsSpec)) bookReadsCard

/-- THE TIED CARD OF 'turretlaw13.BookLogs'. -/
def bookLogsCard : Claim7 := { stood := { row := bookLogsRow, standIns := [], harness := (true, "aa4043c4bdadcbd98aab7e19f20356aa217da42954c5cb6da7be4d0b83658203"), looks := true }, kinds := [], alts := [], laidByText := true, laidKinds := [.data, .data, .data, .data, .sentinel, .sentinel, .pinned], laidTests := true, laidLooks := .later }
def BookLogsCardSaid : Prop := Claim7.holds Tryz.pinned (.plain (OpenSpec.ofChange bookLogsSpec)) bookLogsCard

/-- THE TIED CARD OF 'turretlaw13.BookHands'. -/
def bookHandsCard : Claim7 := { stood := { row := bookHandsRow, standIns := [], harness := (true, "aa4043c4bdadcbd98aab7e19f20356aa217da42954c5cb6da7be4d0b83658203"), looks := true }, kinds := [], alts := [], laidByText := true, laidKinds := [.data, .data, .data, .data, .sentinel, .sentinel, .pinned], laidTests := true, laidLooks := .later }
def BookHandsCardSaid : Prop := Claim7.holds Tryz.pinned (.plain (OpenSpec.ofChange bookHandsSpec)) bookHandsCard

/-- THE TIED CARD OF 'turretlaw13.BookAnyOrder'. -/
def bookAnyOrderCard : Claim7 := { stood := { row := bookAnyOrderRow, standIns := [], harness := (true, "aa4043c4bdadcbd98aab7e19f20356aa217da42954c5cb6da7be4d0b83658203"), looks := true }, kinds := [], alts := [], laidByText := true, laidKinds := [.data, .data, .data, .data, .sentinel, .sentinel, .pinned], laidTests := true, laidLooks := .later }
def BookAnyOrderCardSaid : Prop := Claim7.holds Tryz.pinned (.plain (OpenSpec.ofChange bookAnyOrderSpec)) bookAnyOrderCard

/-- THE TIED CARD OF 'turretlaw13.BookOneForm'. -/
def bookOneFormCard : Claim7 := { stood := { row := bookOneFormRow, standIns := [], harness := (true, "aa4043c4bdadcbd98aab7e19f20356aa217da42954c5cb6da7be4d0b83658203"), looks := true }, kinds := [], alts := [], laidByText := true, laidKinds := [.data, .data, .data, .data, .sentinel, .sentinel, .pinned], laidTests := true, laidLooks := .later }
def BookOneFormCardSaid : Prop := Claim7.holds Tryz.pinned (.plain (OpenSpec.ofChange bookOneFormSpec)) bookOneFormCard

/-- THE TIED CARD OF 'turretlaw13.BookDamage'. -/
def bookDamageCard : Claim7 := { stood := { row := bookDamageRow, standIns := [], harness := (true, "aa4043c4bdadcbd98aab7e19f20356aa217da42954c5cb6da7be4d0b83658203"), looks := true }, kinds := [], alts := [], laidByText := true, laidKinds := [.data, .data, .data, .data, .sentinel, .sentinel, .pinned], laidTests := true, laidLooks := .later }
def BookDamageCardSaid : Prop := Claim7.holds Tryz.pinned (.plain (OpenSpec.ofChange bookDamageSpec)) bookDamageCard

/-- THE TIED CARD OF 'turretlaw13.BookRates'. -/
def bookRatesCard : Claim7 := { stood := { row := bookRatesRow, standIns := [], harness := (true, "aa4043c4bdadcbd98aab7e19f20356aa217da42954c5cb6da7be4d0b83658203"), looks := true }, kinds := [], alts := [], laidByText := true, laidKinds := [.data, .data, .data, .data, .sentinel, .sentinel, .pinned], laidTests := true, laidLooks := .later }
def BookRatesCardSaid : Prop := Claim7.holds Tryz.pinned (.plain (OpenSpec.ofChange bookRatesSpec)) bookRatesCard

/-- THE TIED CARD OF 'turretlaw13.BookMerges'. -/
def bookMergesCard : Claim7 := { stood := { row := bookMergesRow, standIns := [], harness := (true, "aa4043c4bdadcbd98aab7e19f20356aa217da42954c5cb6da7be4d0b83658203"), looks := true }, kinds := [], alts := [], laidByText := true, laidKinds := [.data, .data, .data, .data, .sentinel, .sentinel, .pinned], laidTests := true, laidLooks := .later }
def BookMergesCardSaid : Prop := Claim7.holds Tryz.pinned (.plain (OpenSpec.ofChange bookMergesSpec)) bookMergesCard

/-- THE TIED CARD OF 'turretlaw13.BookReplays'. -/
def bookReplaysCard : Claim7 := { stood := { row := bookReplaysRow, standIns := [], harness := (true, "aa4043c4bdadcbd98aab7e19f20356aa217da42954c5cb6da7be4d0b83658203"), looks := true }, kinds := [], alts := [], laidByText := true, laidKinds := [.data, .data, .data, .data, .sentinel, .sentinel, .pinned], laidTests := true, laidLooks := .later }
def BookReplaysCardSaid : Prop := Claim7.holds Tryz.pinned (.plain (OpenSpec.ofChange bookReplaysSpec)) bookReplaysCard

/-- THE SECOND FORM's CARD OF 'turretlaw13.BookOwes'. -/
def bookOwesUptoCard : Claim7 := { stood := { row := bookOwesUptoRow, standIns := [], harness := (true, "aa4043c4bdadcbd98aab7e19f20356aa217da42954c5cb6da7be4d0b83658203"), looks := true }, kinds := [], alts := [], laidByText := true, laidKinds := [.data, .data, .data, .data, .sentinel, .sentinel, .pinned], laidTests := true, laidLooks := .later }
def BookOwesUptoCardSaid : Prop := Claim7.holds Tryz.pinned (.plain (OpenSpec.upto bookOwesSpec)) bookOwesUptoCard

/-- THE SECOND FORM's CARD OF 'turretlaw13.BookWrites'. -/
def bookWritesUptoCard : Claim7 := { stood := { row := bookWritesUptoRow, standIns := [], harness := (true, "aa4043c4bdadcbd98aab7e19f20356aa217da42954c5cb6da7be4d0b83658203"), looks := true }, kinds := [], alts := [], laidByText := true, laidKinds := [.data, .data, .data, .data, .sentinel, .sentinel, .pinned], laidTests := true, laidLooks := .later }
def BookWritesUptoCardSaid : Prop := Claim7.holds Tryz.pinned (.plain (OpenSpec.upto bookWritesSpec)) bookWritesUptoCard

/-- THE SECOND FORM's CARD OF 'turretlaw13.BookReads'. -/
def bookReadsUptoCard : Claim7 := { stood := { row := bookReadsUptoRow, standIns := [], harness := (true, "aa4043c4bdadcbd98aab7e19f20356aa217da42954c5cb6da7be4d0b83658203"), looks := true }, kinds := [], alts := [], laidByText := true, laidKinds := [.data, .data, .data, .data, .sentinel, .sentinel, .pinned], laidTests := true, laidLooks := .later }
def BookReadsUptoCardSaid : Prop := Claim7.holds Tryz.pinned (.plain (OpenSpec.upto bookReadsSpec)) bookReadsUptoCard

/-- THE SECOND FORM's CARD OF 'turretlaw13.BookLogs'. -/
def bookLogsUptoCard : Claim7 := { stood := { row := bookLogsUptoRow, standIns := [], harness := (true, "aa4043c4bdadcbd98aab7e19f20356aa217da42954c5cb6da7be4d0b83658203"), looks := true }, kinds := [], alts := [], laidByText := true, laidKinds := [.data, .data, .data, .data, .sentinel, .sentinel, .pinned], laidTests := true, laidLooks := .later }
def BookLogsUptoCardSaid : Prop := Claim7.holds Tryz.pinned (.plain (OpenSpec.upto bookLogsSpec)) bookLogsUptoCard

/-- THE SECOND FORM's CARD OF 'turretlaw13.BookHands'. -/
def bookHandsUptoCard : Claim7 := { stood := { row := bookHandsUptoRow, standIns := [], harness := (true, "aa4043c4bdadcbd98aab7e19f20356aa217da42954c5cb6da7be4d0b83658203"), looks := true }, kinds := [], alts := [], laidByText := true, laidKinds := [.data, .data, .data, .data, .sentinel, .sentinel, .pinned], laidTests := true, laidLooks := .later }
def BookHandsUptoCardSaid : Prop := Claim7.holds Tryz.pinned (.plain (OpenSpec.upto bookHandsSpec)) bookHandsUptoCard

/-- THE SECOND FORM's CARD OF 'turretlaw13.BookAnyOrder'. -/
def bookAnyOrderUptoCard : Claim7 := { stood := { row := bookAnyOrderUptoRow, standIns := [], harness := (true, "aa4043c4bdadcbd98aab7e19f20356aa217da42954c5cb6da7be4d0b83658203"), looks := true }, kinds := [], alts := [], laidByText := true, laidKinds := [.data, .data, .data, .data, .sentinel, .sentinel, .pinned], laidTests := true, laidLooks := .later }
def BookAnyOrderUptoCardSaid : Prop := Claim7.holds Tryz.pinned (.plain (OpenSpec.upto bookAnyOrderSpec)) bookAnyOrderUptoCard

/-- THE SECOND FORM's CARD OF 'turretlaw13.BookOneForm'. -/
def bookOneFormUptoCard : Claim7 := { stood := { row := bookOneFormUptoRow, standIns := [], harness := (true, "aa4043c4bdadcbd98aab7e19f20356aa217da42954c5cb6da7be4d0b83658203"), looks := true }, kinds := [], alts := [], laidByText := true, laidKinds := [.data, .data, .data, .data, .sentinel, .sentinel, .pinned], laidTests := true, laidLooks := .later }
def BookOneFormUptoCardSaid : Prop := Claim7.holds Tryz.pinned (.plain (OpenSpec.upto bookOneFormSpec)) bookOneFormUptoCard

/-- THE SECOND FORM's CARD OF 'turretlaw13.BookDamage'. -/
def bookDamageUptoCard : Claim7 := { stood := { row := bookDamageUptoRow, standIns := [], harness := (true, "aa4043c4bdadcbd98aab7e19f20356aa217da42954c5cb6da7be4d0b83658203"), looks := true }, kinds := [], alts := [], laidByText := true, laidKinds := [.data, .data, .data, .data, .sentinel, .sentinel, .pinned], laidTests := true, laidLooks := .later }
def BookDamageUptoCardSaid : Prop := Claim7.holds Tryz.pinned (.plain (OpenSpec.upto bookDamageSpec)) bookDamageUptoCard

/-- THE SECOND FORM's CARD OF 'turretlaw13.BookRates'. -/
def bookRatesUptoCard : Claim7 := { stood := { row := bookRatesUptoRow, standIns := [], harness := (true, "aa4043c4bdadcbd98aab7e19f20356aa217da42954c5cb6da7be4d0b83658203"), looks := true }, kinds := [], alts := [], laidByText := true, laidKinds := [.data, .data, .data, .data, .sentinel, .sentinel, .pinned], laidTests := true, laidLooks := .later }
def BookRatesUptoCardSaid : Prop := Claim7.holds Tryz.pinned (.plain (OpenSpec.upto bookRatesSpec)) bookRatesUptoCard

/-- THE SECOND FORM's CARD OF 'turretlaw13.BookMerges'. -/
def bookMergesUptoCard : Claim7 := { stood := { row := bookMergesUptoRow, standIns := [], harness := (true, "aa4043c4bdadcbd98aab7e19f20356aa217da42954c5cb6da7be4d0b83658203"), looks := true }, kinds := [], alts := [], laidByText := true, laidKinds := [.data, .data, .data, .data, .sentinel, .sentinel, .pinned], laidTests := true, laidLooks := .later }
def BookMergesUptoCardSaid : Prop := Claim7.holds Tryz.pinned (.plain (OpenSpec.upto bookMergesSpec)) bookMergesUptoCard

/-- THE SECOND FORM's CARD OF 'turretlaw13.BookReplays'. -/
def bookReplaysUptoCard : Claim7 := { stood := { row := bookReplaysUptoRow, standIns := [], harness := (true, "aa4043c4bdadcbd98aab7e19f20356aa217da42954c5cb6da7be4d0b83658203"), looks := true }, kinds := [], alts := [], laidByText := true, laidKinds := [.data, .data, .data, .data, .sentinel, .sentinel, .pinned], laidTests := true, laidLooks := .later }
def BookReplaysUptoCardSaid : Prop := Claim7.holds Tryz.pinned (.plain (OpenSpec.upto bookReplaysSpec)) bookReplaysUptoCard
end Rows
end Go.Proofs.YtipgfljojhdhjaaGreatDoor
