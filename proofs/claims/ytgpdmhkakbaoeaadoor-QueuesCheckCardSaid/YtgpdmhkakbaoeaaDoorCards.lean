/-
  DERIVED. GIVEN WITH THE SEED: THE CARDS: each row of YtgpdmhkakbaoeaaDoorRows.lean that lists a variable, with what it lists TIED to the program's text (the seventh form; the later family's looks); each row that meets fmt, with fmt's text TOLD by the authors' own Lean function (tested against real Go, not proved from fmt's source: count such statements apart). THE CARD IS WHAT COUNTS. Prove the row's statement (the work); the ties are given (YtgpdmhkakbaoeaaDoorTie.lean); close each card by the builder's one call (the guide's Derived/Test/ToyasCard.lean, 'card_holds'). Laid BY PROGRAM, IN A SANDBOX (cutbox-door.mjs). By AI agents, Wed Nov 11 2026. No macro, syntax, notation, axiom, sorry.
-/
import Derived.Test.YtgpdmhkakbaoeaaDoorRows
import GoSem.ClaimSeven
namespace Go.Proofs.YtgpdmhkakbaoeaaDoor
namespace Rows

/-- THE TIED CARD OF 'flashlaw2.QueuesCheck'. -/
def queuesCheckCard : Claim7 := { stood := { row := queuesCheckRow, standIns := [], harness := (true, "a8436c82e44e96a23b782db90afc4d47d46171ec19cd25e374f2a3a21c7625fc"), looks := false }, kinds := [], alts := [], laidByText := true, laidKinds := [.data, .pinned], laidTests := true, laidLooks := .later }
def QueuesCheckCardSaid : Prop := Claim7.holds Tryd.pinned (.plain (OpenSpec.ofChange queuesCheckSpec)) queuesCheckCard

/-- THE SECOND FORM's CARD OF 'flashlaw2.QueuesCheck'. -/
def queuesCheckUptoCard : Claim7 := { stood := { row := queuesCheckUptoRow, standIns := [], harness := (true, "a8436c82e44e96a23b782db90afc4d47d46171ec19cd25e374f2a3a21c7625fc"), looks := false }, kinds := [], alts := [], laidByText := true, laidKinds := [.data, .pinned], laidTests := true, laidLooks := .later }
def QueuesCheckUptoCardSaid : Prop := Claim7.holds Tryd.pinned (.plain (OpenSpec.upto queuesCheckSpec)) queuesCheckUptoCard
end Rows
end Go.Proofs.YtgpdmhkakbaoeaaDoor
