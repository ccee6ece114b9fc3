/-
  DERIVED. GIVEN WITH THE SEED: THE CARDS: each row of YtbphnakpnnijeaaGreatDoorRows.lean that lists a variable, with what it lists TIED to the program's text (the seventh form; the later family's looks); each row that meets fmt, with fmt's text TOLD by the authors' own Lean function (tested against real Go, not proved from fmt's source: count such statements apart). THE CARD IS WHAT COUNTS. Prove the row's statement (the work); the ties are given (YtbphnakpnnijeaaGreatDoorTie.lean); close each card by the builder's one call (the guide's Derived/Test/ToyasCard.lean, 'card_holds'). Laid BY PROGRAM, IN A SANDBOX (cutbox-door.mjs). By AI agents, Wed Nov 11 2026. No macro, syntax, notation, axiom, sorry.
-/
import Derived.Test.YtbphnakpnnijeaaGreatDoorRows
import GoSem.ClaimSeven
namespace Go.Proofs.YtbphnakpnnijeaaGreatDoor
namespace Rows

/-- THE TIED CARD OF 'prompterlaw30.JudgePrefixes'. -/
def judgePrefixesCard : Claim7 := { stood := { row := judgePrefixesRow, standIns := [], harness := (true, "3d014d23376c87addcf98cb1adbc105127374964b5327d26bdc3993e7f6a471a"), looks := true }, kinds := [], alts := [], laidByText := true, laidKinds := [.handle], laidTests := true, laidLooks := .later }
def JudgePrefixesCardSaid : Prop := Claim7.holds Tryz.pinned (.plain (OpenSpec.ofChange judgePrefixesSpec)) judgePrefixesCard

/-- THE SECOND FORM's CARD OF 'prompterlaw30.JudgePrefixes'. -/
def judgePrefixesUptoCard : Claim7 := { stood := { row := judgePrefixesUptoRow, standIns := [], harness := (true, "3d014d23376c87addcf98cb1adbc105127374964b5327d26bdc3993e7f6a471a"), looks := true }, kinds := [], alts := [], laidByText := true, laidKinds := [.handle], laidTests := true, laidLooks := .later }
def JudgePrefixesUptoCardSaid : Prop := Claim7.holds Tryz.pinned (.plain (OpenSpec.upto judgePrefixesSpec)) judgePrefixesUptoCard
end Rows
end Go.Proofs.YtbphnakpnnijeaaGreatDoor
