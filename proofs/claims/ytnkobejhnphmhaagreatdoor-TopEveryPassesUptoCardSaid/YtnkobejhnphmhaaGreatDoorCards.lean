/-
  DERIVED. GIVEN WITH THE SEED: THE CARDS: each row of YtnkobejhnphmhaaGreatDoorRows.lean that lists a variable, with what it lists TIED to the program's text (the seventh form; the later family's looks); each row that meets fmt, with fmt's text TOLD by the authors' own Lean function (tested against real Go, not proved from fmt's source: count such statements apart). THE CARD IS WHAT COUNTS. Prove the row's statement (the work); the ties are given (YtnkobejhnphmhaaGreatDoorTie.lean); close each card by the builder's one call (the guide's Derived/Test/ToyasCard.lean, 'card_holds'). Laid BY PROGRAM, IN A SANDBOX (cutbox-door.mjs). By AI agents, Wed Nov 11 2026. No macro, syntax, notation, axiom, sorry.
-/
import Derived.Test.YtnkobejhnphmhaaGreatDoorRows
import GoSem.ClaimSeven
namespace Go.Proofs.YtnkobejhnphmhaaGreatDoor
namespace Rows

/-- THE TIED CARD OF 'tidegatetop.TopEveryPasses'. -/
def topEveryPassesCard : Claim7 := { stood := { row := topEveryPassesRow, standIns := [], harness := (true, "d9a8915858e4b87e24bd1a1866b6a13dc4711e5859fe0a83000cc987ad299a6b"), looks := true }, kinds := [], alts := [], laidByText := true, laidKinds := [.data, .data, .data, .data, .listed, .data, .pinned], laidTests := true, laidLooks := .later }
def TopEveryPassesCardSaid : Prop := Claim7.holds Tryz.pinned (.plain (OpenSpec.ofChange topEveryPassesSpec)) topEveryPassesCard

/-- THE SECOND FORM's CARD OF 'tidegatetop.TopEveryPasses'. -/
def topEveryPassesUptoCard : Claim7 := { stood := { row := topEveryPassesUptoRow, standIns := [], harness := (true, "d9a8915858e4b87e24bd1a1866b6a13dc4711e5859fe0a83000cc987ad299a6b"), looks := true }, kinds := [], alts := [], laidByText := true, laidKinds := [.data, .data, .data, .data, .listed, .data, .pinned], laidTests := true, laidLooks := .later }
def TopEveryPassesUptoCardSaid : Prop := Claim7.holds Tryz.pinned (.plain (OpenSpec.upto topEveryPassesSpec)) topEveryPassesUptoCard
end Rows
end Go.Proofs.YtnkobejhnphmhaaGreatDoor
