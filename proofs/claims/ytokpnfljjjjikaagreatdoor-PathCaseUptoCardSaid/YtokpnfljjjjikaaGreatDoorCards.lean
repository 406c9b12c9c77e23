/-
  DERIVED. GIVEN WITH THE SEED: THE CARDS: each row of YtokpnfljjjjikaaGreatDoorRows.lean that lists a variable, with what it lists TIED to the program's text (the seventh form; the later family's looks); each row that meets fmt, with fmt's text TOLD by the authors' own Lean function (tested against real Go, not proved from fmt's source: count such statements apart). THE CARD IS WHAT COUNTS. Prove the row's statement (the work); the ties are given (YtokpnfljjjjikaaGreatDoorTie.lean); close each card by the builder's one call (the guide's Derived/Test/ToyasCard.lean, 'card_holds'). Laid BY PROGRAM, IN A SANDBOX (cutbox-door.mjs). By AI agents, Wed Nov 11 2026. No macro, syntax, notation, axiom, sorry.
-/
import Derived.Test.YtokpnfljjjjikaaGreatDoorRows
import GoSem.ClaimSeven
namespace Go.Proofs.YtokpnfljjjjikaaGreatDoor
namespace Rows

/-- THE TIED CARD OF 'frankinglaw16.CommandLong'. -/
def commandLongCard : Claim7 := { stood := { row := commandLongRow, standIns := [], harness := (true, "9031d144ad9cf906b83994141cf47fbbb060a9d763a18da80e743944f5cd60e5"), looks := true }, kinds := [], alts := [], laidByText := true, laidKinds := [.data, .data, .data, .data, .sentinel, .sentinel, .data, .pinned], laidTests := true, laidLooks := .later }
def CommandLongCardSaid : Prop := Claim7.holds Tryz.pinned (.plain (OpenSpec.ofChange commandLongSpec)) commandLongCard

/-- THE TIED CARD OF 'frankinglaw15.PathAgain'. -/
def pathAgainCard : Claim7 := { stood := { row := pathAgainRow, standIns := [], harness := (true, "9031d144ad9cf906b83994141cf47fbbb060a9d763a18da80e743944f5cd60e5"), looks := true }, kinds := [], alts := [], laidByText := true, laidKinds := [.data, .data, .data, .data, .sentinel, .sentinel, .pinned], laidTests := true, laidLooks := .later }
def PathAgainCardSaid : Prop := Claim7.holds Tryz.pinned (.plain (OpenSpec.ofChange pathAgainSpec)) pathAgainCard

/-- THE TIED CARD OF 'frankinglaw15.PathBack'. -/
def pathBackCard : Claim7 := { stood := { row := pathBackRow, standIns := [], harness := (true, "9031d144ad9cf906b83994141cf47fbbb060a9d763a18da80e743944f5cd60e5"), looks := true }, kinds := [], alts := [], laidByText := true, laidKinds := [.data, .data, .data, .data, .sentinel, .sentinel, .pinned], laidTests := true, laidLooks := .later }
def PathBackCardSaid : Prop := Claim7.holds Tryz.pinned (.plain (OpenSpec.ofChange pathBackSpec)) pathBackCard

/-- THE TIED CARD OF 'frankinglaw15.PathTells'. -/
def pathTellsCard : Claim7 := { stood := { row := pathTellsRow, standIns := [], harness := (true, "9031d144ad9cf906b83994141cf47fbbb060a9d763a18da80e743944f5cd60e5"), looks := true }, kinds := [], alts := [], laidByText := true, laidKinds := [.data, .data, .data, .data, .sentinel, .sentinel, .pinned], laidTests := true, laidLooks := .later }
def PathTellsCardSaid : Prop := Claim7.holds Tryz.pinned (.plain (OpenSpec.ofChange pathTellsSpec)) pathTellsCard

/-- THE TIED CARD OF 'frankinglaw16.CommandBack'. -/
def commandBackCard : Claim7 := { stood := { row := commandBackRow, standIns := [], harness := (true, "9031d144ad9cf906b83994141cf47fbbb060a9d763a18da80e743944f5cd60e5"), looks := true }, kinds := [], alts := [], laidByText := true, laidKinds := [.data, .data, .data, .data, .sentinel, .sentinel, .data, .pinned], laidTests := true, laidLooks := .later }
def CommandBackCardSaid : Prop := Claim7.holds Tryz.pinned (.plain (OpenSpec.ofChange commandBackSpec)) commandBackCard

/-- THE TIED CARD OF 'frankinglaw16.CommandAgain'. -/
def commandAgainCard : Claim7 := { stood := { row := commandAgainRow, standIns := [], harness := (true, "9031d144ad9cf906b83994141cf47fbbb060a9d763a18da80e743944f5cd60e5"), looks := true }, kinds := [], alts := [], laidByText := true, laidKinds := [.data, .data, .data, .data, .sentinel, .sentinel, .data, .pinned], laidTests := true, laidLooks := .later }
def CommandAgainCardSaid : Prop := Claim7.holds Tryz.pinned (.plain (OpenSpec.ofChange commandAgainSpec)) commandAgainCard

/-- THE TIED CARD OF 'frankinglaw16.CommandCase'. -/
def commandCaseCard : Claim7 := { stood := { row := commandCaseRow, standIns := [], harness := (true, "9031d144ad9cf906b83994141cf47fbbb060a9d763a18da80e743944f5cd60e5"), looks := true }, kinds := [], alts := [], laidByText := true, laidKinds := [.data, .data, .data, .data, .sentinel, .sentinel, .data, .pinned], laidTests := true, laidLooks := .later }
def CommandCaseCardSaid : Prop := Claim7.holds Tryz.pinned (.plain (OpenSpec.ofChange commandCaseSpec)) commandCaseCard

/-- THE TIED CARD OF 'frankinglaw16.CommandBlanks'. -/
def commandBlanksCard : Claim7 := { stood := { row := commandBlanksRow, standIns := [], harness := (true, "9031d144ad9cf906b83994141cf47fbbb060a9d763a18da80e743944f5cd60e5"), looks := true }, kinds := [], alts := [], laidByText := true, laidKinds := [.data, .data, .data, .data, .sentinel, .sentinel, .data, .pinned], laidTests := true, laidLooks := .later }
def CommandBlanksCardSaid : Prop := Claim7.holds Tryz.pinned (.plain (OpenSpec.ofChange commandBlanksSpec)) commandBlanksCard

/-- THE TIED CARD OF 'frankinglaw16.CommandTells'. -/
def commandTellsCard : Claim7 := { stood := { row := commandTellsRow, standIns := [], harness := (true, "9031d144ad9cf906b83994141cf47fbbb060a9d763a18da80e743944f5cd60e5"), looks := true }, kinds := [], alts := [], laidByText := true, laidKinds := [.data, .data, .data, .data, .sentinel, .sentinel, .data, .pinned], laidTests := true, laidLooks := .later }
def CommandTellsCardSaid : Prop := Claim7.holds Tryz.pinned (.plain (OpenSpec.ofChange commandTellsSpec)) commandTellsCard

/-- THE TIED CARD OF 'frankinglaw15.PathCase'. -/
def pathCaseCard : Claim7 := { stood := { row := pathCaseRow, standIns := [], harness := (true, "9031d144ad9cf906b83994141cf47fbbb060a9d763a18da80e743944f5cd60e5"), looks := true }, kinds := [], alts := [], laidByText := true, laidKinds := [.data, .data, .data, .data, .sentinel, .sentinel, .pinned, .pinned], laidTests := true, laidLooks := .later }
def PathCaseCardSaid : Prop := Claim7.holds Tryz.pinned (.plain (OpenSpec.ofChange pathCaseSpec)) pathCaseCard

/-- THE SECOND FORM's CARD OF 'frankinglaw16.CommandLong'. -/
def commandLongUptoCard : Claim7 := { stood := { row := commandLongUptoRow, standIns := [], harness := (true, "9031d144ad9cf906b83994141cf47fbbb060a9d763a18da80e743944f5cd60e5"), looks := true }, kinds := [], alts := [], laidByText := true, laidKinds := [.data, .data, .data, .data, .sentinel, .sentinel, .data, .pinned], laidTests := true, laidLooks := .later }
def CommandLongUptoCardSaid : Prop := Claim7.holds Tryz.pinned (.plain (OpenSpec.upto commandLongSpec)) commandLongUptoCard

/-- THE SECOND FORM's CARD OF 'frankinglaw15.PathAgain'. -/
def pathAgainUptoCard : Claim7 := { stood := { row := pathAgainUptoRow, standIns := [], harness := (true, "9031d144ad9cf906b83994141cf47fbbb060a9d763a18da80e743944f5cd60e5"), looks := true }, kinds := [], alts := [], laidByText := true, laidKinds := [.data, .data, .data, .data, .sentinel, .sentinel, .pinned], laidTests := true, laidLooks := .later }
def PathAgainUptoCardSaid : Prop := Claim7.holds Tryz.pinned (.plain (OpenSpec.upto pathAgainSpec)) pathAgainUptoCard

/-- THE SECOND FORM's CARD OF 'frankinglaw15.PathBack'. -/
def pathBackUptoCard : Claim7 := { stood := { row := pathBackUptoRow, standIns := [], harness := (true, "9031d144ad9cf906b83994141cf47fbbb060a9d763a18da80e743944f5cd60e5"), looks := true }, kinds := [], alts := [], laidByText := true, laidKinds := [.data, .data, .data, .data, .sentinel, .sentinel, .pinned], laidTests := true, laidLooks := .later }
def PathBackUptoCardSaid : Prop := Claim7.holds Tryz.pinned (.plain (OpenSpec.upto pathBackSpec)) pathBackUptoCard

/-- THE SECOND FORM's CARD OF 'frankinglaw15.PathTells'. -/
def pathTellsUptoCard : Claim7 := { stood := { row := pathTellsUptoRow, standIns := [], harness := (true, "9031d144ad9cf906b83994141cf47fbbb060a9d763a18da80e743944f5cd60e5"), looks := true }, kinds := [], alts := [], laidByText := true, laidKinds := [.data, .data, .data, .data, .sentinel, .sentinel, .pinned], laidTests := true, laidLooks := .later }
def PathTellsUptoCardSaid : Prop := Claim7.holds Tryz.pinned (.plain (OpenSpec.upto pathTellsSpec)) pathTellsUptoCard

/-- THE SECOND FORM's CARD OF 'frankinglaw16.CommandBack'. -/
def commandBackUptoCard : Claim7 := { stood := { row := commandBackUptoRow, standIns := [], harness := (true, "9031d144ad9cf906b83994141cf47fbbb060a9d763a18da80e743944f5cd60e5"), looks := true }, kinds := [], alts := [], laidByText := true, laidKinds := [.data, .data, .data, .data, .sentinel, .sentinel, .data, .pinned], laidTests := true, laidLooks := .later }
def CommandBackUptoCardSaid : Prop := Claim7.holds Tryz.pinned (.plain (OpenSpec.upto commandBackSpec)) commandBackUptoCard

/-- THE SECOND FORM's CARD OF 'frankinglaw16.CommandAgain'. -/
def commandAgainUptoCard : Claim7 := { stood := { row := commandAgainUptoRow, standIns := [], harness := (true, "9031d144ad9cf906b83994141cf47fbbb060a9d763a18da80e743944f5cd60e5"), looks := true }, kinds := [], alts := [], laidByText := true, laidKinds := [.data, .data, .data, .data, .sentinel, .sentinel, .data, .pinned], laidTests := true, laidLooks := .later }
def CommandAgainUptoCardSaid : Prop := Claim7.holds Tryz.pinned (.plain (OpenSpec.upto commandAgainSpec)) commandAgainUptoCard

/-- THE SECOND FORM's CARD OF 'frankinglaw16.CommandCase'. -/
def commandCaseUptoCard : Claim7 := { stood := { row := commandCaseUptoRow, standIns := [], harness := (true, "9031d144ad9cf906b83994141cf47fbbb060a9d763a18da80e743944f5cd60e5"), looks := true }, kinds := [], alts := [], laidByText := true, laidKinds := [.data, .data, .data, .data, .sentinel, .sentinel, .data, .pinned], laidTests := true, laidLooks := .later }
def CommandCaseUptoCardSaid : Prop := Claim7.holds Tryz.pinned (.plain (OpenSpec.upto commandCaseSpec)) commandCaseUptoCard

/-- THE SECOND FORM's CARD OF 'frankinglaw16.CommandBlanks'. -/
def commandBlanksUptoCard : Claim7 := { stood := { row := commandBlanksUptoRow, standIns := [], harness := (true, "9031d144ad9cf906b83994141cf47fbbb060a9d763a18da80e743944f5cd60e5"), looks := true }, kinds := [], alts := [], laidByText := true, laidKinds := [.data, .data, .data, .data, .sentinel, .sentinel, .data, .pinned], laidTests := true, laidLooks := .later }
def CommandBlanksUptoCardSaid : Prop := Claim7.holds Tryz.pinned (.plain (OpenSpec.upto commandBlanksSpec)) commandBlanksUptoCard

/-- THE SECOND FORM's CARD OF 'frankinglaw16.CommandTells'. -/
def commandTellsUptoCard : Claim7 := { stood := { row := commandTellsUptoRow, standIns := [], harness := (true, "9031d144ad9cf906b83994141cf47fbbb060a9d763a18da80e743944f5cd60e5"), looks := true }, kinds := [], alts := [], laidByText := true, laidKinds := [.data, .data, .data, .data, .sentinel, .sentinel, .data, .pinned], laidTests := true, laidLooks := .later }
def CommandTellsUptoCardSaid : Prop := Claim7.holds Tryz.pinned (.plain (OpenSpec.upto commandTellsSpec)) commandTellsUptoCard

/-- THE SECOND FORM's CARD OF 'frankinglaw15.PathCase'. -/
def pathCaseUptoCard : Claim7 := { stood := { row := pathCaseUptoRow, standIns := [], harness := (true, "9031d144ad9cf906b83994141cf47fbbb060a9d763a18da80e743944f5cd60e5"), looks := true }, kinds := [], alts := [], laidByText := true, laidKinds := [.data, .data, .data, .data, .sentinel, .sentinel, .pinned, .pinned], laidTests := true, laidLooks := .later }
def PathCaseUptoCardSaid : Prop := Claim7.holds Tryz.pinned (.plain (OpenSpec.upto pathCaseSpec)) pathCaseUptoCard
end Rows
end Go.Proofs.YtokpnfljjjjikaaGreatDoor
