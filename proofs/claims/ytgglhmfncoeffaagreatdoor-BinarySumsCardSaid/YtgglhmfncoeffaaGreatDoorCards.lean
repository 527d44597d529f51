/-
  DERIVED. GIVEN WITH THE SEED: THE CARDS: each row of YtgglhmfncoeffaaGreatDoorRows.lean that lists a variable, with what it lists TIED to the program's text (the seventh form; the later family's looks); each row that meets fmt, with fmt's text TOLD by the authors' own Lean function (tested against real Go, not proved from fmt's source: count such statements apart). THE CARD IS WHAT COUNTS. Prove the row's statement (the work); the ties are given (YtgglhmfncoeffaaGreatDoorTie.lean); close each card by the builder's one call (the guide's Derived/Test/ToyasCard.lean, 'card_holds'). Laid BY PROGRAM, IN A SANDBOX (cutbox-door.mjs). By AI agents, Wed Nov 11 2026. No macro, syntax, notation, axiom, sorry.
-/
import Derived.Test.YtgglhmfncoeffaaGreatDoorRows
import GoSem.ClaimSeven
namespace Go.Proofs.YtgglhmfncoeffaaGreatDoor
namespace Rows

/-- THE TIED CARD OF 'cellarerlaw54.BinarySums'. -/
def binarySumsCard : Claim7 := { stood := { row := binarySumsRow, standIns := [], harness := (true, "6268d38665f8c9d2c1edc9d098951cf8b9cb6ecc4878067a75ca9950ace18b13"), looks := true }, kinds := [], alts := [], laidByText := true, laidKinds := [.data, .data, .data, .data, .sentinel, .sentinel, .pinned], laidTests := true, laidLooks := .later }
def BinarySumsCardSaid : Prop := Claim7.holds Tryz.pinned (.plain (OpenSpec.ofChange binarySumsSpec)) binarySumsCard

/-- THE SECOND FORM's CARD OF 'cellarerlaw54.BinarySums'. -/
def binarySumsUptoCard : Claim7 := { stood := { row := binarySumsUptoRow, standIns := [], harness := (true, "6268d38665f8c9d2c1edc9d098951cf8b9cb6ecc4878067a75ca9950ace18b13"), looks := true }, kinds := [], alts := [], laidByText := true, laidKinds := [.data, .data, .data, .data, .sentinel, .sentinel, .pinned], laidTests := true, laidLooks := .later }
def BinarySumsUptoCardSaid : Prop := Claim7.holds Tryz.pinned (.plain (OpenSpec.upto binarySumsSpec)) binarySumsUptoCard
end Rows
end Go.Proofs.YtgglhmfncoeffaaGreatDoor
