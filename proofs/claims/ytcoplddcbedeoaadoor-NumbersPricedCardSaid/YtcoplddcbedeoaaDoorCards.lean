/-
  DERIVED. GIVEN WITH THE SEED: THE CARDS: each row of YtcoplddcbedeoaaDoorRows.lean that lists a variable, with what it lists TIED to the program's text (the seventh form; the later family's looks); each row that meets fmt, with fmt's text TOLD by the authors' own Lean function (tested against real Go, not proved from fmt's source: count such statements apart). THE CARD IS WHAT COUNTS. Prove the row's statement (the work); the ties are given (YtcoplddcbedeoaaDoorTie.lean); close each card by the builder's one call (the guide's Derived/Test/ToyasCard.lean, 'card_holds'). Laid BY PROGRAM, IN A SANDBOX (cutbox-door.mjs). By AI agents, Wed Nov 11 2026. No macro, syntax, notation, axiom, sorry.
-/
import Derived.Test.YtcoplddcbedeoaaDoorRows
import GoSem.ClaimSeven
namespace Go.Proofs.YtcoplddcbedeoaaDoor
namespace Rows

/-- THE TIED CARD OF 'flashlaw2.NumbersPriced'. -/
def numbersPricedCard : Claim7 := { stood := { row := numbersPricedRow, standIns := [], harness := (true, "08140fffff50b7edecc1f03b93d3f7d99bc5dc7bfaab9fc0c622a87e0960cc78"), looks := false }, kinds := [], alts := [], laidByText := true, laidKinds := [.data, .pinned], laidTests := true, laidLooks := .later }
def NumbersPricedCardSaid : Prop := Claim7.holds Tryd.pinned (.plain (OpenSpec.ofChange numbersPricedSpec)) numbersPricedCard

/-- THE SECOND FORM's CARD OF 'flashlaw2.NumbersPriced'. -/
def numbersPricedUptoCard : Claim7 := { stood := { row := numbersPricedUptoRow, standIns := [], harness := (true, "08140fffff50b7edecc1f03b93d3f7d99bc5dc7bfaab9fc0c622a87e0960cc78"), looks := false }, kinds := [], alts := [], laidByText := true, laidKinds := [.data, .pinned], laidTests := true, laidLooks := .later }
def NumbersPricedUptoCardSaid : Prop := Claim7.holds Tryd.pinned (.plain (OpenSpec.upto numbersPricedSpec)) numbersPricedUptoCard
end Rows
end Go.Proofs.YtcoplddcbedeoaaDoor
