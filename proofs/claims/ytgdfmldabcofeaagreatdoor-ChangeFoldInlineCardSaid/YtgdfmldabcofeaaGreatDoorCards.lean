/-
  DERIVED. GIVEN WITH THE SEED: THE CARDS: each row of YtgdfmldabcofeaaGreatDoorRows.lean that lists a variable, with what it lists TIED to the program's text (the seventh form; the later family's looks); each row that meets fmt, with fmt's text TOLD by the authors' own Lean function (tested against real Go, not proved from fmt's source: count such statements apart). THE CARD IS WHAT COUNTS. Prove the row's statement (the work); the ties are given (YtgdfmldabcofeaaGreatDoorTie.lean); close each card by the builder's one call (the guide's Derived/Test/ToyasCard.lean, 'card_holds'). Laid BY PROGRAM, IN A SANDBOX (cutbox-door.mjs). By AI agents, Wed Nov 11 2026. No macro, syntax, notation, axiom, sorry.
-/
import Derived.Test.YtgdfmldabcofeaaGreatDoorRows
import GoSem.ClaimSeven
namespace Go.Proofs.YtgdfmldabcofeaaGreatDoor
namespace Rows

/-- THE TIED CARD OF 'koinelaw31.ChangeFoldInline'. -/
def changeFoldInlineCard : Claim7 := { stood := { row := changeFoldInlineRow, standIns := [], harness := (true, "0a30a48e3b2ae881b74c036d32e87ee0244fcbe2a56a74c60c72664ef6723c2a"), looks := true }, kinds := [], alts := [], laidByText := true, laidKinds := [.data], laidTests := true, laidLooks := .later }
def ChangeFoldInlineCardSaid : Prop := Claim7.holds Tryz.pinned (.plain (OpenSpec.ofChange changeFoldInlineSpec)) changeFoldInlineCard

/-- THE SECOND FORM's CARD OF 'koinelaw31.ChangeFoldInline'. -/
def changeFoldInlineUptoCard : Claim7 := { stood := { row := changeFoldInlineUptoRow, standIns := [], harness := (true, "0a30a48e3b2ae881b74c036d32e87ee0244fcbe2a56a74c60c72664ef6723c2a"), looks := true }, kinds := [], alts := [], laidByText := true, laidKinds := [.data], laidTests := true, laidLooks := .later }
def ChangeFoldInlineUptoCardSaid : Prop := Claim7.holds Tryz.pinned (.plain (OpenSpec.upto changeFoldInlineSpec)) changeFoldInlineUptoCard
end Rows
end Go.Proofs.YtgdfmldabcofeaaGreatDoor
