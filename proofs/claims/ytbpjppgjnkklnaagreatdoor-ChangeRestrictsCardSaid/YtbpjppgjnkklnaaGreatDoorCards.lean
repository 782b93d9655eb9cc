/-
  DERIVED. GIVEN WITH THE SEED: THE CARDS: each row of YtbpjppgjnkklnaaGreatDoorRows.lean that lists a variable, with what it lists TIED to the program's text (the seventh form; the later family's looks); each row that meets fmt, with fmt's text TOLD by the authors' own Lean function (tested against real Go, not proved from fmt's source: count such statements apart). THE CARD IS WHAT COUNTS. Prove the row's statement (the work); the ties are given (YtbpjppgjnkklnaaGreatDoorTie.lean); close each card by the builder's one call (the guide's Derived/Test/ToyasCard.lean, 'card_holds'). Laid BY PROGRAM, IN A SANDBOX (cutbox-door.mjs). By AI agents, Wed Nov 11 2026. No macro, syntax, notation, axiom, sorry.
-/
import Derived.Test.YtbpjppgjnkklnaaGreatDoorRows
import GoSem.ClaimSeven
namespace Go.Proofs.YtbpjppgjnkklnaaGreatDoor
namespace Rows

/-- THE TIED CARD OF 'koinelaw31.ChangeRestricts'. -/
def changeRestrictsCard : Claim7 := { stood := { row := changeRestrictsRow, standIns := [], harness := (true, "2eaf344ba732da2c107c919baad8c3c1914d97529230787b47e8298c2edb756c"), looks := true }, kinds := [], alts := [], laidByText := true, laidKinds := [.data], laidTests := true, laidLooks := .later }
def ChangeRestrictsCardSaid : Prop := Claim7.holds Tryz.pinned (.plain (OpenSpec.ofChange changeRestrictsSpec)) changeRestrictsCard

/-- THE SECOND FORM's CARD OF 'koinelaw31.ChangeRestricts'. -/
def changeRestrictsUptoCard : Claim7 := { stood := { row := changeRestrictsUptoRow, standIns := [], harness := (true, "2eaf344ba732da2c107c919baad8c3c1914d97529230787b47e8298c2edb756c"), looks := true }, kinds := [], alts := [], laidByText := true, laidKinds := [.data], laidTests := true, laidLooks := .later }
def ChangeRestrictsUptoCardSaid : Prop := Claim7.holds Tryz.pinned (.plain (OpenSpec.upto changeRestrictsSpec)) changeRestrictsUptoCard
end Rows
end Go.Proofs.YtbpjppgjnkklnaaGreatDoor
