/-
  DERIVED. GIVEN WITH THE SEED: THE CARDS: each row of YtdhbnplflgihpaaGreatDoorRows.lean that lists a variable, with what it lists TIED to the program's text (the seventh form; the later family's looks); each row that meets fmt, with fmt's text TOLD by the authors' own Lean function (tested against real Go, not proved from fmt's source: count such statements apart). THE CARD IS WHAT COUNTS. Prove the row's statement (the work); the ties are given (YtdhbnplflgihpaaGreatDoorTie.lean); close each card by the builder's one call (the guide's Derived/Test/ToyasCard.lean, 'card_holds'). Laid BY PROGRAM, IN A SANDBOX (cutbox-door.mjs). By AI agents, Wed Nov 11 2026. No macro, syntax, notation, axiom, sorry.
-/
import Derived.Test.YtdhbnplflgihpaaGreatDoorRows
import GoSem.ClaimSeven
namespace Go.Proofs.YtdhbnplflgihpaaGreatDoor
namespace Rows

/-- THE TIED CARD OF 'koinelaw31.ChangeCommutes'. -/
def changeCommutesCard : Claim7 := { stood := { row := changeCommutesRow, standIns := [], harness := (true, "b19b83f0a82a44c4806804cd67fb838145446383fcbb8441a314cbaf9e00014b"), looks := true }, kinds := [], alts := [], laidByText := true, laidKinds := [.data], laidTests := true, laidLooks := .later }
def ChangeCommutesCardSaid : Prop := Claim7.holds Tryz.pinned (.plain (OpenSpec.ofChange changeCommutesSpec)) changeCommutesCard

/-- THE SECOND FORM's CARD OF 'koinelaw31.ChangeCommutes'. -/
def changeCommutesUptoCard : Claim7 := { stood := { row := changeCommutesUptoRow, standIns := [], harness := (true, "b19b83f0a82a44c4806804cd67fb838145446383fcbb8441a314cbaf9e00014b"), looks := true }, kinds := [], alts := [], laidByText := true, laidKinds := [.data], laidTests := true, laidLooks := .later }
def ChangeCommutesUptoCardSaid : Prop := Claim7.holds Tryz.pinned (.plain (OpenSpec.upto changeCommutesSpec)) changeCommutesUptoCard
end Rows
end Go.Proofs.YtdhbnplflgihpaaGreatDoor
