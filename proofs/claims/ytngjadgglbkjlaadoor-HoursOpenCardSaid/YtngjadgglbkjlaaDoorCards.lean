/-
  DERIVED. GIVEN WITH THE SEED: THE CARDS: each row of YtngjadgglbkjlaaDoorRows.lean that lists a variable, with what it lists TIED to the program's text (the seventh form; the later family's looks); each row that meets fmt, with fmt's text TOLD by the authors' own Lean function (tested against real Go, not proved from fmt's source: count such statements apart). THE CARD IS WHAT COUNTS. Prove the row's statement (the work); the ties are given (YtngjadgglbkjlaaDoorTie.lean); close each card by the builder's one call (the guide's Derived/Test/ToyasCard.lean, 'card_holds'). Laid BY PROGRAM, IN A SANDBOX (cutbox-door.mjs). By AI agents, Wed Nov 11 2026. No macro, syntax, notation, axiom, sorry.
-/
import Derived.Test.YtngjadgglbkjlaaDoorRows
import GoSem.ClaimSeven
namespace Go.Proofs.YtngjadgglbkjlaaDoor
namespace Rows

/-- THE TIED CARD OF 'flashlaw2.PatternsShare'. -/
def patternsShareCard : Claim7 := { stood := { row := patternsShareRow, standIns := [], harness := (true, "ea813309171e532c61daeca9820aeb3c730e3bd1001ef2e24230c31c3e5236d6"), looks := false }, kinds := [], alts := [], laidByText := true, laidKinds := [.data], laidTests := true, laidLooks := .later }
def PatternsShareCardSaid : Prop := Claim7.holds Tryd.pinned (.plain (OpenSpec.ofChange patternsShareSpec)) patternsShareCard

/-- THE TIED CARD OF 'flashlaw2.PatternsMatch'. -/
def patternsMatchCard : Claim7 := { stood := { row := patternsMatchRow, standIns := [], harness := (true, "ea813309171e532c61daeca9820aeb3c730e3bd1001ef2e24230c31c3e5236d6"), looks := false }, kinds := [], alts := [], laidByText := true, laidKinds := [.data, .data, .pinned], laidTests := true, laidLooks := .later }
def PatternsMatchCardSaid : Prop := Claim7.holds Tryd.pinned (.plain (OpenSpec.ofChange patternsMatchSpec)) patternsMatchCard

/-- THE TIED CARD OF 'flashlaw2.HoursOpen'. -/
def hoursOpenCard : Claim7 := { stood := { row := hoursOpenRow, standIns := [], harness := (true, "ea813309171e532c61daeca9820aeb3c730e3bd1001ef2e24230c31c3e5236d6"), looks := false }, kinds := [], alts := [], laidByText := true, laidKinds := [.data, .data, .pinned], laidTests := true, laidLooks := .later }
def HoursOpenCardSaid : Prop := Claim7.holds Tryd.pinned (.plain (OpenSpec.ofChange hoursOpenSpec)) hoursOpenCard

/-- THE SECOND FORM's CARD OF 'flashlaw2.PatternsShare'. -/
def patternsShareUptoCard : Claim7 := { stood := { row := patternsShareUptoRow, standIns := [], harness := (true, "ea813309171e532c61daeca9820aeb3c730e3bd1001ef2e24230c31c3e5236d6"), looks := false }, kinds := [], alts := [], laidByText := true, laidKinds := [.data], laidTests := true, laidLooks := .later }
def PatternsShareUptoCardSaid : Prop := Claim7.holds Tryd.pinned (.plain (OpenSpec.upto patternsShareSpec)) patternsShareUptoCard

/-- THE SECOND FORM's CARD OF 'flashlaw2.PatternsMatch'. -/
def patternsMatchUptoCard : Claim7 := { stood := { row := patternsMatchUptoRow, standIns := [], harness := (true, "ea813309171e532c61daeca9820aeb3c730e3bd1001ef2e24230c31c3e5236d6"), looks := false }, kinds := [], alts := [], laidByText := true, laidKinds := [.data, .data, .pinned], laidTests := true, laidLooks := .later }
def PatternsMatchUptoCardSaid : Prop := Claim7.holds Tryd.pinned (.plain (OpenSpec.upto patternsMatchSpec)) patternsMatchUptoCard

/-- THE SECOND FORM's CARD OF 'flashlaw2.HoursOpen'. -/
def hoursOpenUptoCard : Claim7 := { stood := { row := hoursOpenUptoRow, standIns := [], harness := (true, "ea813309171e532c61daeca9820aeb3c730e3bd1001ef2e24230c31c3e5236d6"), looks := false }, kinds := [], alts := [], laidByText := true, laidKinds := [.data, .data, .pinned], laidTests := true, laidLooks := .later }
def HoursOpenUptoCardSaid : Prop := Claim7.holds Tryd.pinned (.plain (OpenSpec.upto hoursOpenSpec)) hoursOpenUptoCard
end Rows
end Go.Proofs.YtngjadgglbkjlaaDoor
