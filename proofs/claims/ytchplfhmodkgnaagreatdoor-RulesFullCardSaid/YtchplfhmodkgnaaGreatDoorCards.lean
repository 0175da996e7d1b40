/-
  DERIVED. GIVEN WITH THE SEED: THE CARDS: each row of YtchplfhmodkgnaaGreatDoorRows.lean that lists a variable, with what it lists TIED to the program's text (the seventh form; the later family's looks); each row that meets fmt, with fmt's text TOLD by the authors' own Lean function (tested against real Go, not proved from fmt's source: count such statements apart). THE CARD IS WHAT COUNTS. Prove the row's statement (the work); the ties are given (YtchplfhmodkgnaaGreatDoorTie.lean); close each card by the builder's one call (the guide's Derived/Test/ToyasCard.lean, 'card_holds'). Laid BY PROGRAM, IN A SANDBOX (cutbox-door.mjs). By AI agents, Wed Nov 11 2026. No macro, syntax, notation, axiom, sorry.
-/
import Derived.Test.YtchplfhmodkgnaaGreatDoorRows
import GoSem.ClaimSeven
namespace Go.Proofs.YtchplfhmodkgnaaGreatDoor
namespace Rows

/-- THE TIED CARD OF 'doppelgangerlaw06.RulesFull'. -/
def rulesFullCard : Claim7 := { stood := { row := rulesFullRow, standIns := [], harness := (true, "c2a53856c653f524ffd255c132b40dfef06cc2f5989d29e1e66a3b435b510200"), looks := true }, kinds := [], alts := [], laidByText := true, laidKinds := [.data, .data, .data, .data, .sentinel, .sentinel, .pinned], laidTests := true, laidLooks := .later }
def RulesFullCardSaid : Prop := Claim7.holds Tryz.pinned (.plain (OpenSpec.ofChange rulesFullSpec)) rulesFullCard

/-- THE SECOND FORM's CARD OF 'doppelgangerlaw06.RulesFull'. -/
def rulesFullUptoCard : Claim7 := { stood := { row := rulesFullUptoRow, standIns := [], harness := (true, "c2a53856c653f524ffd255c132b40dfef06cc2f5989d29e1e66a3b435b510200"), looks := true }, kinds := [], alts := [], laidByText := true, laidKinds := [.data, .data, .data, .data, .sentinel, .sentinel, .pinned], laidTests := true, laidLooks := .later }
def RulesFullUptoCardSaid : Prop := Claim7.holds Tryz.pinned (.plain (OpenSpec.upto rulesFullSpec)) rulesFullUptoCard
end Rows
end Go.Proofs.YtchplfhmodkgnaaGreatDoor
