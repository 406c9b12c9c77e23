/-
  DERIVED. GIVEN WITH THE SEED: THE CARDS: each row of YtokpnfljjjjikaaDoorRows.lean that lists a variable, with what it lists TIED to the program's text (the seventh form; the later family's looks); each row that meets fmt, with fmt's text TOLD by the authors' own Lean function (tested against real Go, not proved from fmt's source: count such statements apart). THE CARD IS WHAT COUNTS. Prove the row's statement (the work); the ties are given (YtokpnfljjjjikaaDoorTie.lean); close each card by the builder's one call (the guide's Derived/Test/ToyasCard.lean, 'card_holds'). Laid BY PROGRAM, IN A SANDBOX (cutbox-door.mjs). By AI agents, Wed Nov 11 2026. No macro, syntax, notation, axiom, sorry.
-/
import Derived.Test.YtokpnfljjjjikaaDoorRows
import GoSem.ClaimSeven
namespace Go.Proofs.YtokpnfljjjjikaaDoor
namespace Rows

/-- THE TIED CARD OF 'frankinglaw15.PathFront'. -/
def pathFrontCard : Claim7 := { stood := { row := pathFrontRow, standIns := [], harness := (true, "ba859958a6d0f3c12e5b13fba247a87a19a113d331b001a24ac0ac8196226f43"), looks := true }, kinds := [], alts := [], laidByText := true, laidKinds := [.data, .data, .data, .data, .sentinel, .sentinel, .pinned], laidTests := true, laidLooks := .later }
def PathFrontCardSaid : Prop := Claim7.holds Tryd.pinned (.plain (OpenSpec.ofChange pathFrontSpec)) pathFrontCard

/-- THE TIED CARD OF 'frankinglaw15.PathLimits'. -/
def pathLimitsCard : Claim7 := { stood := { row := pathLimitsRow, standIns := [], harness := (true, "ba859958a6d0f3c12e5b13fba247a87a19a113d331b001a24ac0ac8196226f43"), looks := true }, kinds := [], alts := [], laidByText := true, laidKinds := [.data, .data, .data, .data, .sentinel, .sentinel, .pinned], laidTests := true, laidLooks := .later }
def PathLimitsCardSaid : Prop := Claim7.holds Tryd.pinned (.plain (OpenSpec.ofChange pathLimitsSpec)) pathLimitsCard

/-- THE SECOND FORM's CARD OF 'frankinglaw15.PathFront'. -/
def pathFrontUptoCard : Claim7 := { stood := { row := pathFrontUptoRow, standIns := [], harness := (true, "ba859958a6d0f3c12e5b13fba247a87a19a113d331b001a24ac0ac8196226f43"), looks := true }, kinds := [], alts := [], laidByText := true, laidKinds := [.data, .data, .data, .data, .sentinel, .sentinel, .pinned], laidTests := true, laidLooks := .later }
def PathFrontUptoCardSaid : Prop := Claim7.holds Tryd.pinned (.plain (OpenSpec.upto pathFrontSpec)) pathFrontUptoCard

/-- THE SECOND FORM's CARD OF 'frankinglaw15.PathLimits'. -/
def pathLimitsUptoCard : Claim7 := { stood := { row := pathLimitsUptoRow, standIns := [], harness := (true, "ba859958a6d0f3c12e5b13fba247a87a19a113d331b001a24ac0ac8196226f43"), looks := true }, kinds := [], alts := [], laidByText := true, laidKinds := [.data, .data, .data, .data, .sentinel, .sentinel, .pinned], laidTests := true, laidLooks := .later }
def PathLimitsUptoCardSaid : Prop := Claim7.holds Tryd.pinned (.plain (OpenSpec.upto pathLimitsSpec)) pathLimitsUptoCard
end Rows
end Go.Proofs.YtokpnfljjjjikaaDoor
