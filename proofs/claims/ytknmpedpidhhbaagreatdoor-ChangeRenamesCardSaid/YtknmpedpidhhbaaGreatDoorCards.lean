/-
  DERIVED. GIVEN WITH THE SEED: THE CARDS: each row of YtknmpedpidhhbaaGreatDoorRows.lean that lists a variable, with what it lists TIED to the program's text (the seventh form; the later family's looks); each row that meets fmt, with fmt's text TOLD by the authors' own Lean function (tested against real Go, not proved from fmt's source: count such statements apart). THE CARD IS WHAT COUNTS. Prove the row's statement (the work); the ties are given (YtknmpedpidhhbaaGreatDoorTie.lean); close each card by the builder's one call (the guide's Derived/Test/ToyasCard.lean, 'card_holds'). Laid BY PROGRAM, IN A SANDBOX (cutbox-door.mjs). By AI agents, Wed Nov 11 2026. No macro, syntax, notation, axiom, sorry.
-/
import Derived.Test.YtknmpedpidhhbaaGreatDoorRows
import GoSem.ClaimSeven
namespace Go.Proofs.YtknmpedpidhhbaaGreatDoor
namespace Rows

/-- THE TIED CARD OF 'koinelaw31.ChangeRenames'. -/
def changeRenamesCard : Claim7 := { stood := { row := changeRenamesRow, standIns := [], harness := (true, "bccf966972ec312b1f34b6eb669a9db1fbce665fc064add68bfa35b4ee100656"), looks := true }, kinds := [], alts := [], laidByText := true, laidKinds := [.data], laidTests := true, laidLooks := .later }
def ChangeRenamesCardSaid : Prop := Claim7.holds Tryz.pinned (.plain (OpenSpec.ofChange changeRenamesSpec)) changeRenamesCard

/-- THE SECOND FORM's CARD OF 'koinelaw31.ChangeRenames'. -/
def changeRenamesUptoCard : Claim7 := { stood := { row := changeRenamesUptoRow, standIns := [], harness := (true, "bccf966972ec312b1f34b6eb669a9db1fbce665fc064add68bfa35b4ee100656"), looks := true }, kinds := [], alts := [], laidByText := true, laidKinds := [.data], laidTests := true, laidLooks := .later }
def ChangeRenamesUptoCardSaid : Prop := Claim7.holds Tryz.pinned (.plain (OpenSpec.upto changeRenamesSpec)) changeRenamesUptoCard
end Rows
end Go.Proofs.YtknmpedpidhhbaaGreatDoor
