/-
  DERIVED. GIVEN WITH THE SEED: THE CARDS: each row of YtkfahdbjndihfacGreatDoorRows.lean that lists a variable, with what it lists TIED to the program's text (the seventh form; the later family's looks); each row that meets fmt, with fmt's text TOLD by the authors' own Lean function (tested against real Go, not proved from fmt's source: count such statements apart). THE CARD IS WHAT COUNTS. Prove the row's statement (the work); the ties are given (YtkfahdbjndihfacGreatDoorTie.lean); close each card by the builder's one call (the guide's Derived/Test/ToyasCard.lean, 'card_holds'). Laid BY PROGRAM, IN A SANDBOX (cutbox-door.mjs). By AI agents, Wed Nov 11 2026. No macro, syntax, notation, axiom, sorry.
-/
import Derived.Test.YtkfahdbjndihfacGreatDoorRows
import GoSem.ClaimSeven
namespace Go.Proofs.YtkfahdbjndihfacGreatDoor
namespace Rows

/-- THE TIED CARD OF 'telecinetop.TopAnewTitle'. -/
def topAnewTitleCard : Claim7 := { stood := { row := topAnewTitleRow, standIns := [], harness := (true, "08677b53349e1037785bea36c3ccc3129744162360bea6adf56c2600ddd83a34"), looks := true }, kinds := [], alts := [], laidByText := true, laidKinds := [.data, .pinned], laidTests := true, laidLooks := .later }
def TopAnewTitleCardSaid : Prop := Claim7.holds Tryz.pinned (.plain (OpenSpec.ofChange topAnewTitleSpec)) topAnewTitleCard

/-- THE SECOND FORM's CARD OF 'telecinetop.TopAnewTitle'. -/
def topAnewTitleUptoCard : Claim7 := { stood := { row := topAnewTitleUptoRow, standIns := [], harness := (true, "08677b53349e1037785bea36c3ccc3129744162360bea6adf56c2600ddd83a34"), looks := true }, kinds := [], alts := [], laidByText := true, laidKinds := [.data, .pinned], laidTests := true, laidLooks := .later }
def TopAnewTitleUptoCardSaid : Prop := Claim7.holds Tryz.pinned (.plain (OpenSpec.upto topAnewTitleSpec)) topAnewTitleUptoCard
end Rows
end Go.Proofs.YtkfahdbjndihfacGreatDoor
