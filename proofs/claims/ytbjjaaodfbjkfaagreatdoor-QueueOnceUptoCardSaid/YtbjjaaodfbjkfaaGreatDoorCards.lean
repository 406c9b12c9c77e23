/-
  DERIVED. GIVEN WITH THE SEED: THE CARDS: each row of YtbjjaaodfbjkfaaGreatDoorRows.lean that lists a variable, with what it lists TIED to the program's text (the seventh form; the later family's looks); each row that meets fmt, with fmt's text TOLD by the authors' own Lean function (tested against real Go, not proved from fmt's source: count such statements apart). THE CARD IS WHAT COUNTS. Prove the row's statement (the work); the ties are given (YtbjjaaodfbjkfaaGreatDoorTie.lean); close each card by the builder's one call (the guide's Derived/Test/ToyasCard.lean, 'card_holds'). Laid BY PROGRAM, IN A SANDBOX (cutbox-door.mjs). By AI agents, Wed Nov 11 2026. No macro, syntax, notation, axiom, sorry.
-/
import Derived.Test.YtbjjaaodfbjkfaaGreatDoorRows
import GoSem.ClaimSeven
namespace Go.Proofs.YtbjjaaodfbjkfaaGreatDoor
namespace Rows

/-- THE TIED CARD OF 'frankinglaw28.RetryMost'. -/
def retryMostCard : Claim7 := { stood := { row := retryMostRow, standIns := [], harness := (true, "343c83f809cc98175f25b0d4a5a1e4b29025dd0d98e1ef4e2945e2f9161ae020"), looks := true }, kinds := [], alts := [], laidByText := true, laidKinds := [.data, .data, .data, .data, .sentinel, .sentinel, .pinned], laidTests := true, laidLooks := .later }
def RetryMostCardSaid : Prop := Claim7.holds Tryz.pinned (.plain (OpenSpec.ofChange retryMostSpec)) retryMostCard

/-- THE TIED CARD OF 'frankinglaw22.QueueBack'. -/
def queueBackCard : Claim7 := { stood := { row := queueBackRow, standIns := [], harness := (true, "343c83f809cc98175f25b0d4a5a1e4b29025dd0d98e1ef4e2945e2f9161ae020"), looks := true }, kinds := [], alts := [], laidByText := true, laidKinds := [.data, .data, .data, .data, .sentinel, .sentinel, .pinned], laidTests := true, laidLooks := .later }
def QueueBackCardSaid : Prop := Claim7.holds Tryz.pinned (.plain (OpenSpec.ofChange queueBackSpec)) queueBackCard

/-- THE TIED CARD OF 'frankinglaw22.QueueOnce'. -/
def queueOnceCard : Claim7 := { stood := { row := queueOnceRow, standIns := [], harness := (true, "343c83f809cc98175f25b0d4a5a1e4b29025dd0d98e1ef4e2945e2f9161ae020"), looks := true }, kinds := [], alts := [], laidByText := true, laidKinds := [.data, .data, .data, .data, .sentinel, .sentinel, .pinned], laidTests := true, laidLooks := .later }
def QueueOnceCardSaid : Prop := Claim7.holds Tryz.pinned (.plain (OpenSpec.ofChange queueOnceSpec)) queueOnceCard

/-- THE TIED CARD OF 'frankinglaw22.QueueDue'. -/
def queueDueCard : Claim7 := { stood := { row := queueDueRow, standIns := [], harness := (true, "343c83f809cc98175f25b0d4a5a1e4b29025dd0d98e1ef4e2945e2f9161ae020"), looks := true }, kinds := [], alts := [], laidByText := true, laidKinds := [.data, .data, .data, .data, .sentinel, .sentinel, .pinned], laidTests := true, laidLooks := .later }
def QueueDueCardSaid : Prop := Claim7.holds Tryz.pinned (.plain (OpenSpec.ofChange queueDueSpec)) queueDueCard

/-- THE TIED CARD OF 'frankinglaw22.QueueRight'. -/
def queueRightCard : Claim7 := { stood := { row := queueRightRow, standIns := [], harness := (true, "343c83f809cc98175f25b0d4a5a1e4b29025dd0d98e1ef4e2945e2f9161ae020"), looks := true }, kinds := [], alts := [], laidByText := true, laidKinds := [.data, .data, .data, .data, .sentinel, .sentinel, .pinned], laidTests := true, laidLooks := .later }
def QueueRightCardSaid : Prop := Claim7.holds Tryz.pinned (.plain (OpenSpec.ofChange queueRightSpec)) queueRightCard

/-- THE TIED CARD OF 'frankinglaw22.QueueSnapshot'. -/
def queueSnapshotCard : Claim7 := { stood := { row := queueSnapshotRow, standIns := [], harness := (true, "343c83f809cc98175f25b0d4a5a1e4b29025dd0d98e1ef4e2945e2f9161ae020"), looks := true }, kinds := [], alts := [], laidByText := true, laidKinds := [.data, .data, .data, .data, .sentinel, .sentinel, .pinned], laidTests := true, laidLooks := .later }
def QueueSnapshotCardSaid : Prop := Claim7.holds Tryz.pinned (.plain (OpenSpec.ofChange queueSnapshotSpec)) queueSnapshotCard

/-- THE TIED CARD OF 'frankinglaw22.QueueTells'. -/
def queueTellsCard : Claim7 := { stood := { row := queueTellsRow, standIns := [], harness := (true, "343c83f809cc98175f25b0d4a5a1e4b29025dd0d98e1ef4e2945e2f9161ae020"), looks := true }, kinds := [], alts := [], laidByText := true, laidKinds := [.data, .data, .data, .data, .sentinel, .sentinel, .pinned], laidTests := true, laidLooks := .later }
def QueueTellsCardSaid : Prop := Claim7.holds Tryz.pinned (.plain (OpenSpec.ofChange queueTellsSpec)) queueTellsCard

/-- THE TIED CARD OF 'frankinglaw28.RetryTells'. -/
def retryTellsCard : Claim7 := { stood := { row := retryTellsRow, standIns := [], harness := (true, "343c83f809cc98175f25b0d4a5a1e4b29025dd0d98e1ef4e2945e2f9161ae020"), looks := true }, kinds := [], alts := [], laidByText := true, laidKinds := [.data, .data, .data, .data, .sentinel, .sentinel, .pinned], laidTests := true, laidLooks := .later }
def RetryTellsCardSaid : Prop := Claim7.holds Tryz.pinned (.plain (OpenSpec.ofChange retryTellsSpec)) retryTellsCard

/-- THE TIED CARD OF 'frankinglaw28.RetryFits'. -/
def retryFitsCard : Claim7 := { stood := { row := retryFitsRow, standIns := [], harness := (true, "343c83f809cc98175f25b0d4a5a1e4b29025dd0d98e1ef4e2945e2f9161ae020"), looks := true }, kinds := [], alts := [], laidByText := true, laidKinds := [.data, .data, .data, .data, .sentinel, .sentinel, .pinned], laidTests := true, laidLooks := .later }
def RetryFitsCardSaid : Prop := Claim7.holds Tryz.pinned (.plain (OpenSpec.ofChange retryFitsSpec)) retryFitsCard

/-- THE TIED CARD OF 'frankinglaw28.RetryNames'. -/
def retryNamesCard : Claim7 := { stood := { row := retryNamesRow, standIns := [], harness := (true, "343c83f809cc98175f25b0d4a5a1e4b29025dd0d98e1ef4e2945e2f9161ae020"), looks := true }, kinds := [], alts := [], laidByText := true, laidKinds := [.data, .data, .data, .data, .sentinel, .sentinel, .pinned], laidTests := true, laidLooks := .later }
def RetryNamesCardSaid : Prop := Claim7.holds Tryz.pinned (.plain (OpenSpec.ofChange retryNamesSpec)) retryNamesCard

/-- THE SECOND FORM's CARD OF 'frankinglaw28.RetryMost'. -/
def retryMostUptoCard : Claim7 := { stood := { row := retryMostUptoRow, standIns := [], harness := (true, "343c83f809cc98175f25b0d4a5a1e4b29025dd0d98e1ef4e2945e2f9161ae020"), looks := true }, kinds := [], alts := [], laidByText := true, laidKinds := [.data, .data, .data, .data, .sentinel, .sentinel, .pinned], laidTests := true, laidLooks := .later }
def RetryMostUptoCardSaid : Prop := Claim7.holds Tryz.pinned (.plain (OpenSpec.upto retryMostSpec)) retryMostUptoCard

/-- THE SECOND FORM's CARD OF 'frankinglaw22.QueueBack'. -/
def queueBackUptoCard : Claim7 := { stood := { row := queueBackUptoRow, standIns := [], harness := (true, "343c83f809cc98175f25b0d4a5a1e4b29025dd0d98e1ef4e2945e2f9161ae020"), looks := true }, kinds := [], alts := [], laidByText := true, laidKinds := [.data, .data, .data, .data, .sentinel, .sentinel, .pinned], laidTests := true, laidLooks := .later }
def QueueBackUptoCardSaid : Prop := Claim7.holds Tryz.pinned (.plain (OpenSpec.upto queueBackSpec)) queueBackUptoCard

/-- THE SECOND FORM's CARD OF 'frankinglaw22.QueueOnce'. -/
def queueOnceUptoCard : Claim7 := { stood := { row := queueOnceUptoRow, standIns := [], harness := (true, "343c83f809cc98175f25b0d4a5a1e4b29025dd0d98e1ef4e2945e2f9161ae020"), looks := true }, kinds := [], alts := [], laidByText := true, laidKinds := [.data, .data, .data, .data, .sentinel, .sentinel, .pinned], laidTests := true, laidLooks := .later }
def QueueOnceUptoCardSaid : Prop := Claim7.holds Tryz.pinned (.plain (OpenSpec.upto queueOnceSpec)) queueOnceUptoCard

/-- THE SECOND FORM's CARD OF 'frankinglaw22.QueueDue'. -/
def queueDueUptoCard : Claim7 := { stood := { row := queueDueUptoRow, standIns := [], harness := (true, "343c83f809cc98175f25b0d4a5a1e4b29025dd0d98e1ef4e2945e2f9161ae020"), looks := true }, kinds := [], alts := [], laidByText := true, laidKinds := [.data, .data, .data, .data, .sentinel, .sentinel, .pinned], laidTests := true, laidLooks := .later }
def QueueDueUptoCardSaid : Prop := Claim7.holds Tryz.pinned (.plain (OpenSpec.upto queueDueSpec)) queueDueUptoCard

/-- THE SECOND FORM's CARD OF 'frankinglaw22.QueueRight'. -/
def queueRightUptoCard : Claim7 := { stood := { row := queueRightUptoRow, standIns := [], harness := (true, "343c83f809cc98175f25b0d4a5a1e4b29025dd0d98e1ef4e2945e2f9161ae020"), looks := true }, kinds := [], alts := [], laidByText := true, laidKinds := [.data, .data, .data, .data, .sentinel, .sentinel, .pinned], laidTests := true, laidLooks := .later }
def QueueRightUptoCardSaid : Prop := Claim7.holds Tryz.pinned (.plain (OpenSpec.upto queueRightSpec)) queueRightUptoCard

/-- THE SECOND FORM's CARD OF 'frankinglaw22.QueueSnapshot'. -/
def queueSnapshotUptoCard : Claim7 := { stood := { row := queueSnapshotUptoRow, standIns := [], harness := (true, "343c83f809cc98175f25b0d4a5a1e4b29025dd0d98e1ef4e2945e2f9161ae020"), looks := true }, kinds := [], alts := [], laidByText := true, laidKinds := [.data, .data, .data, .data, .sentinel, .sentinel, .pinned], laidTests := true, laidLooks := .later }
def QueueSnapshotUptoCardSaid : Prop := Claim7.holds Tryz.pinned (.plain (OpenSpec.upto queueSnapshotSpec)) queueSnapshotUptoCard

/-- THE SECOND FORM's CARD OF 'frankinglaw22.QueueTells'. -/
def queueTellsUptoCard : Claim7 := { stood := { row := queueTellsUptoRow, standIns := [], harness := (true, "343c83f809cc98175f25b0d4a5a1e4b29025dd0d98e1ef4e2945e2f9161ae020"), looks := true }, kinds := [], alts := [], laidByText := true, laidKinds := [.data, .data, .data, .data, .sentinel, .sentinel, .pinned], laidTests := true, laidLooks := .later }
def QueueTellsUptoCardSaid : Prop := Claim7.holds Tryz.pinned (.plain (OpenSpec.upto queueTellsSpec)) queueTellsUptoCard

/-- THE SECOND FORM's CARD OF 'frankinglaw28.RetryTells'. -/
def retryTellsUptoCard : Claim7 := { stood := { row := retryTellsUptoRow, standIns := [], harness := (true, "343c83f809cc98175f25b0d4a5a1e4b29025dd0d98e1ef4e2945e2f9161ae020"), looks := true }, kinds := [], alts := [], laidByText := true, laidKinds := [.data, .data, .data, .data, .sentinel, .sentinel, .pinned], laidTests := true, laidLooks := .later }
def RetryTellsUptoCardSaid : Prop := Claim7.holds Tryz.pinned (.plain (OpenSpec.upto retryTellsSpec)) retryTellsUptoCard

/-- THE SECOND FORM's CARD OF 'frankinglaw28.RetryFits'. -/
def retryFitsUptoCard : Claim7 := { stood := { row := retryFitsUptoRow, standIns := [], harness := (true, "343c83f809cc98175f25b0d4a5a1e4b29025dd0d98e1ef4e2945e2f9161ae020"), looks := true }, kinds := [], alts := [], laidByText := true, laidKinds := [.data, .data, .data, .data, .sentinel, .sentinel, .pinned], laidTests := true, laidLooks := .later }
def RetryFitsUptoCardSaid : Prop := Claim7.holds Tryz.pinned (.plain (OpenSpec.upto retryFitsSpec)) retryFitsUptoCard

/-- THE SECOND FORM's CARD OF 'frankinglaw28.RetryNames'. -/
def retryNamesUptoCard : Claim7 := { stood := { row := retryNamesUptoRow, standIns := [], harness := (true, "343c83f809cc98175f25b0d4a5a1e4b29025dd0d98e1ef4e2945e2f9161ae020"), looks := true }, kinds := [], alts := [], laidByText := true, laidKinds := [.data, .data, .data, .data, .sentinel, .sentinel, .pinned], laidTests := true, laidLooks := .later }
def RetryNamesUptoCardSaid : Prop := Claim7.holds Tryz.pinned (.plain (OpenSpec.upto retryNamesSpec)) retryNamesUptoCard
end Rows
end Go.Proofs.YtbjjaaodfbjkfaaGreatDoor
