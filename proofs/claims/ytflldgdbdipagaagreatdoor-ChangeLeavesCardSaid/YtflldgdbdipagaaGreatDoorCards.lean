/-
  DERIVED. GIVEN WITH THE SEED: THE CARDS: each row of YtflldgdbdipagaaGreatDoorRows.lean that lists a variable, with what it lists TIED to the program's text (the seventh form; the later family's looks); each row that meets fmt, with fmt's text TOLD by the authors' own Lean function (tested against real Go, not proved from fmt's source: count such statements apart). THE CARD IS WHAT COUNTS. Prove the row's statement (the work); the ties are given (YtflldgdbdipagaaGreatDoorTie.lean); close each card by the builder's one call (the guide's Derived/Test/ToyasCard.lean, 'card_holds'). Laid BY PROGRAM, IN A SANDBOX (cutbox-door.mjs). By AI agents, Wed Nov 11 2026. No macro, syntax, notation, axiom, sorry.
-/
import Derived.Test.YtflldgdbdipagaaGreatDoorRows
import GoSem.ClaimSeven
namespace Go.Proofs.YtflldgdbdipagaaGreatDoor
namespace Rows

/-- THE TIED CARD OF 'koinelaw31.ChangeLeaves'. -/
def changeLeavesCard : Claim7 := { stood := { row := changeLeavesRow, standIns := [], harness := (true, "915a496613a176821487f518a9a993a8bad40bfc0d0d5274e15d8c30bf768589"), looks := true }, kinds := [], alts := [], laidByText := true, laidKinds := [.data], laidTests := true, laidLooks := .later }
def ChangeLeavesCardSaid : Prop := Claim7.holds Tryz.pinned (.plain (OpenSpec.ofChange changeLeavesSpec)) changeLeavesCard

/-- THE SECOND FORM's CARD OF 'koinelaw31.ChangeLeaves'. -/
def changeLeavesUptoCard : Claim7 := { stood := { row := changeLeavesUptoRow, standIns := [], harness := (true, "915a496613a176821487f518a9a993a8bad40bfc0d0d5274e15d8c30bf768589"), looks := true }, kinds := [], alts := [], laidByText := true, laidKinds := [.data], laidTests := true, laidLooks := .later }
def ChangeLeavesUptoCardSaid : Prop := Claim7.holds Tryz.pinned (.plain (OpenSpec.upto changeLeavesSpec)) changeLeavesUptoCard
end Rows
end Go.Proofs.YtflldgdbdipagaaGreatDoor
