/-
  DERIVED. GIVEN WITH THE SEED: THE CARDS: each row of YtlgjmkfbkhfakaaGreatDoorRows.lean that lists a variable, with what it lists TIED to the program's text (the seventh form; the later family's looks); each row that meets fmt, with fmt's text TOLD by the authors' own Lean function (tested against real Go, not proved from fmt's source: count such statements apart). THE CARD IS WHAT COUNTS. Prove the row's statement (the work); the ties are given (YtlgjmkfbkhfakaaGreatDoorTie.lean); close each card by the builder's one call (the guide's Derived/Test/ToyasCard.lean, 'card_holds'). Laid BY PROGRAM, IN A SANDBOX (cutbox-door.mjs). By AI agents, Wed Nov 11 2026. No macro, syntax, notation, axiom, sorry.
-/
import Derived.Test.YtlgjmkfbkhfakaaGreatDoorRows
import GoSem.ClaimSeven
namespace Go.Proofs.YtlgjmkfbkhfakaaGreatDoor
namespace Rows

/-- THE TIED CARD OF 'koinelaw31.ChangeValid'. -/
def changeValidCard : Claim7 := { stood := { row := changeValidRow, standIns := [], harness := (true, "1d15eb5c6423d7e0aacd08f375eaf0498c3ae70eef8f43d203e4ef2349d62fea"), looks := true }, kinds := [], alts := [], laidByText := true, laidKinds := [.data], laidTests := true, laidLooks := .later }
def ChangeValidCardSaid : Prop := Claim7.holds Tryz.pinned (.plain (OpenSpec.ofChange changeValidSpec)) changeValidCard

/-- THE SECOND FORM's CARD OF 'koinelaw31.ChangeValid'. -/
def changeValidUptoCard : Claim7 := { stood := { row := changeValidUptoRow, standIns := [], harness := (true, "1d15eb5c6423d7e0aacd08f375eaf0498c3ae70eef8f43d203e4ef2349d62fea"), looks := true }, kinds := [], alts := [], laidByText := true, laidKinds := [.data], laidTests := true, laidLooks := .later }
def ChangeValidUptoCardSaid : Prop := Claim7.holds Tryz.pinned (.plain (OpenSpec.upto changeValidSpec)) changeValidUptoCard
end Rows
end Go.Proofs.YtlgjmkfbkhfakaaGreatDoor
