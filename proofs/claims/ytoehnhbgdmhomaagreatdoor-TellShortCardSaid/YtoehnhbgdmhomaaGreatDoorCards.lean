/-
  DERIVED. GIVEN WITH THE SEED: THE CARDS: each row of YtoehnhbgdmhomaaGreatDoorRows.lean that lists a variable, with what it lists TIED to the program's text (the seventh form; the later family's looks); each row that meets fmt, with fmt's text TOLD by the authors' own Lean function (tested against real Go, not proved from fmt's source: count such statements apart). THE CARD IS WHAT COUNTS. Prove the row's statement (the work); the ties are given (YtoehnhbgdmhomaaGreatDoorTie.lean); close each card by the builder's one call (the guide's Derived/Test/ToyasCard.lean, 'card_holds'). Laid BY PROGRAM, IN A SANDBOX (cutbox-door.mjs). By AI agents, Wed Nov 11 2026. No macro, syntax, notation, axiom, sorry.
-/
import Derived.Test.YtoehnhbgdmhomaaGreatDoorRows
import GoSem.ClaimSeven
namespace Go.Proofs.YtoehnhbgdmhomaaGreatDoor
namespace Rows

/-- THE TIED CARD OF 'doppelgangerlaw05.TellShort'. -/
def tellShortCard : Claim7 := { stood := { row := tellShortRow, standIns := [], harness := (true, "180033a6cb8f0178ce6c5f8530523e1232fd90e75a47912ca216169266b70f92"), looks := true }, kinds := [], alts := [], laidByText := true, laidKinds := [.data, .data, .data, .data, .sentinel, .sentinel, .pinned], laidTests := true, laidLooks := .later }
def TellShortCardSaid : Prop := Claim7.holds Tryz.pinned (.plain (OpenSpec.ofChange tellShortSpec)) tellShortCard

/-- THE SECOND FORM's CARD OF 'doppelgangerlaw05.TellShort'. -/
def tellShortUptoCard : Claim7 := { stood := { row := tellShortUptoRow, standIns := [], harness := (true, "180033a6cb8f0178ce6c5f8530523e1232fd90e75a47912ca216169266b70f92"), looks := true }, kinds := [], alts := [], laidByText := true, laidKinds := [.data, .data, .data, .data, .sentinel, .sentinel, .pinned], laidTests := true, laidLooks := .later }
def TellShortUptoCardSaid : Prop := Claim7.holds Tryz.pinned (.plain (OpenSpec.upto tellShortSpec)) tellShortUptoCard
end Rows
end Go.Proofs.YtoehnhbgdmhomaaGreatDoor
