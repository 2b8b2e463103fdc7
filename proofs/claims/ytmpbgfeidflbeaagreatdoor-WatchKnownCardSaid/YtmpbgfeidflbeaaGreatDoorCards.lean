/-
  DERIVED. GIVEN WITH THE SEED: THE CARDS: each row of YtmpbgfeidflbeaaGreatDoorRows.lean that lists a variable, with what it lists TIED to the program's text (the seventh form; the later family's looks); each row that meets fmt, with fmt's text TOLD by the authors' own Lean function (tested against real Go, not proved from fmt's source: count such statements apart). THE CARD IS WHAT COUNTS. Prove the row's statement (the work); the ties are given (YtmpbgfeidflbeaaGreatDoorTie.lean); close each card by the builder's one call (the guide's Derived/Test/ToyasCard.lean, 'card_holds'). Laid BY PROGRAM, IN A SANDBOX (cutbox-door.mjs). By AI agents, Wed Nov 11 2026. No macro, syntax, notation, axiom, sorry.
-/
import Derived.Test.YtmpbgfeidflbeaaGreatDoorRows
import GoSem.ClaimSeven
namespace Go.Proofs.YtmpbgfeidflbeaaGreatDoor
namespace Rows

/-- THE TIED CARD OF 'barragelaw12.WatchKnown'. -/
def watchKnownCard : Claim7 := { stood := { row := watchKnownRow, standIns := [], harness := (true, "f04804f77e7fe5e775d066c806e0c8e0ce21ba0e14da87b88a4dd399121435ce"), looks := true }, kinds := [], alts := [], laidByText := true, laidKinds := [.handle, .data, .data, .data, .pinned, .data, .sentinel, .sentinel, .data], laidTests := true, laidLooks := .later }
def WatchKnownCardSaid : Prop := Claim7.holds Tryz.pinned (.plain (OpenSpec.ofChange watchKnownSpec)) watchKnownCard

/-- THE SECOND FORM's CARD OF 'barragelaw12.WatchKnown'. -/
def watchKnownUptoCard : Claim7 := { stood := { row := watchKnownUptoRow, standIns := [], harness := (true, "f04804f77e7fe5e775d066c806e0c8e0ce21ba0e14da87b88a4dd399121435ce"), looks := true }, kinds := [], alts := [], laidByText := true, laidKinds := [.handle, .data, .data, .data, .pinned, .data, .sentinel, .sentinel, .data], laidTests := true, laidLooks := .later }
def WatchKnownUptoCardSaid : Prop := Claim7.holds Tryz.pinned (.plain (OpenSpec.upto watchKnownSpec)) watchKnownUptoCard
end Rows
end Go.Proofs.YtmpbgfeidflbeaaGreatDoor
