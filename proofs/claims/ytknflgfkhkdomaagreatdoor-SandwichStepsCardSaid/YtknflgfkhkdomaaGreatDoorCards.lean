/-
  DERIVED. GIVEN WITH THE SEED: THE CARDS: each row of YtknflgfkhkdomaaGreatDoorRows.lean that lists a variable, with what it lists TIED to the program's text (the seventh form; the later family's looks); each row that meets fmt, with fmt's text TOLD by the authors' own Lean function (tested against real Go, not proved from fmt's source: count such statements apart). THE CARD IS WHAT COUNTS. Prove the row's statement (the work); the ties are given (YtknflgfkhkdomaaGreatDoorTie.lean); close each card by the builder's one call (the guide's Derived/Test/ToyasCard.lean, 'card_holds'). Laid BY PROGRAM, IN A SANDBOX (cutbox-door.mjs). By AI agents, Wed Nov 11 2026. No macro, syntax, notation, axiom, sorry.
-/
import Derived.Test.YtknflgfkhkdomaaGreatDoorRows
import GoSem.ClaimSeven
namespace Go.Proofs.YtknflgfkhkdomaaGreatDoor
namespace Rows

/-- THE TIED CARD OF 'croupierlaw22.SandwichSteps'. -/
def sandwichStepsCard : Claim7 := { stood := { row := sandwichStepsRow, standIns := [], harness := (true, "b996595ae78ac4bb5a9cb240bbfa74248480c32d19bd0ed046c29046e392a09e"), looks := true }, kinds := [], alts := [], laidByText := true, laidKinds := [.data, .data, .data, .sentinel, .sentinel], laidTests := true, laidLooks := .later }
def SandwichStepsCardSaid : Prop := Claim7.holds Tryz.pinned (.plain (OpenSpec.ofChange sandwichStepsSpec)) sandwichStepsCard

/-- THE SECOND FORM's CARD OF 'croupierlaw22.SandwichSteps'. -/
def sandwichStepsUptoCard : Claim7 := { stood := { row := sandwichStepsUptoRow, standIns := [], harness := (true, "b996595ae78ac4bb5a9cb240bbfa74248480c32d19bd0ed046c29046e392a09e"), looks := true }, kinds := [], alts := [], laidByText := true, laidKinds := [.data, .data, .data, .sentinel, .sentinel], laidTests := true, laidLooks := .later }
def SandwichStepsUptoCardSaid : Prop := Claim7.holds Tryz.pinned (.plain (OpenSpec.upto sandwichStepsSpec)) sandwichStepsUptoCard
end Rows
end Go.Proofs.YtknflgfkhkdomaaGreatDoor
