/-
  DERIVED. GIVEN WITH THE SEED: THE CARDS: each row of YtjhfbmhblpjigaaGreatDoorRows.lean that lists a variable, with what it lists TIED to the program's text (the seventh form; the later family's looks); each row that meets fmt, with fmt's text TOLD by the authors' own Lean function (tested against real Go, not proved from fmt's source: count such statements apart). THE CARD IS WHAT COUNTS. Prove the row's statement (the work); the ties are given (YtjhfbmhblpjigaaGreatDoorTie.lean); close each card by the builder's one call (the guide's Derived/Test/ToyasCard.lean, 'card_holds'). Laid BY PROGRAM, IN A SANDBOX (cutbox-door.mjs). By AI agents, Wed Nov 11 2026. No macro, syntax, notation, axiom, sorry.
-/
import Derived.Test.YtjhfbmhblpjigaaGreatDoorRows
import GoSem.ClaimSeven
namespace Go.Proofs.YtjhfbmhblpjigaaGreatDoor
namespace Rows

/-- THE TIED CARD OF 'flashlaw2.CodecsAgree'. -/
def codecsAgreeCard : Claim7 := { stood := { row := codecsAgreeRow, standIns := [], harness := (true, "f7c75bb8cc0d0edd941f1f61a5ae9262bcee06a9bcd6aecaff48a552bb8d4b6b"), looks := true }, kinds := [], alts := [], laidByText := true, laidKinds := [.data, .data, .data, .data, .sentinel, .sentinel, .pinned], laidTests := true, laidLooks := .later }
def CodecsAgreeCardSaid : Prop := Claim7.holds Tryz.pinned (.plain (OpenSpec.ofChange codecsAgreeSpec)) codecsAgreeCard

/-- THE SECOND FORM's CARD OF 'flashlaw2.CodecsAgree'. -/
def codecsAgreeUptoCard : Claim7 := { stood := { row := codecsAgreeUptoRow, standIns := [], harness := (true, "f7c75bb8cc0d0edd941f1f61a5ae9262bcee06a9bcd6aecaff48a552bb8d4b6b"), looks := true }, kinds := [], alts := [], laidByText := true, laidKinds := [.data, .data, .data, .data, .sentinel, .sentinel, .pinned], laidTests := true, laidLooks := .later }
def CodecsAgreeUptoCardSaid : Prop := Claim7.holds Tryz.pinned (.plain (OpenSpec.upto codecsAgreeSpec)) codecsAgreeUptoCard
end Rows
end Go.Proofs.YtjhfbmhblpjigaaGreatDoor
