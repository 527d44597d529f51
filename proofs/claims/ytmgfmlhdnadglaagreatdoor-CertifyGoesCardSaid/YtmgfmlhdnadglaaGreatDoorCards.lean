/-
  DERIVED. GIVEN WITH THE SEED: THE CARDS: each row of YtmgfmlhdnadglaaGreatDoorRows.lean that lists a variable, with what it lists TIED to the program's text (the seventh form; the later family's looks); each row that meets fmt, with fmt's text TOLD by the authors' own Lean function (tested against real Go, not proved from fmt's source: count such statements apart). THE CARD IS WHAT COUNTS. Prove the row's statement (the work); the ties are given (YtmgfmlhdnadglaaGreatDoorTie.lean); close each card by the builder's one call (the guide's Derived/Test/ToyasCard.lean, 'card_holds'). Laid BY PROGRAM, IN A SANDBOX (cutbox-door.mjs). By AI agents, Wed Nov 11 2026. No macro, syntax, notation, axiom, sorry.
-/
import Derived.Test.YtmgfmlhdnadglaaGreatDoorRows
import GoSem.ClaimSeven
namespace Go.Proofs.YtmgfmlhdnadglaaGreatDoor
namespace Rows

/-- THE TIED CARD OF 'cellarerlaw08.CertifyFarkas'. -/
def certifyFarkasCard : Claim7 := { stood := { row := certifyFarkasRow, standIns := [], harness := (true, "f7700371c8b5fddb2e0cf9d5ff2e169200c13f28753ab1d3c19509a013739147"), looks := true }, kinds := [], alts := [], laidByText := true, laidKinds := [.data, .data, .data, .data, .sentinel, .sentinel, .pinned], laidTests := true, laidLooks := .later }
def CertifyFarkasCardSaid : Prop := Claim7.holds Tryz.pinned (.plain (OpenSpec.ofChange certifyFarkasSpec)) certifyFarkasCard

/-- THE TIED CARD OF 'cellarerlaw08.CertifyLeast'. -/
def certifyLeastCard : Claim7 := { stood := { row := certifyLeastRow, standIns := [], harness := (true, "f7700371c8b5fddb2e0cf9d5ff2e169200c13f28753ab1d3c19509a013739147"), looks := true }, kinds := [], alts := [], laidByText := true, laidKinds := [.data, .data, .data, .data, .sentinel, .sentinel, .pinned], laidTests := true, laidLooks := .later }
def CertifyLeastCardSaid : Prop := Claim7.holds Tryz.pinned (.plain (OpenSpec.ofChange certifyLeastSpec)) certifyLeastCard

/-- THE TIED CARD OF 'cellarerlaw08.CertifySound'. -/
def certifySoundCard : Claim7 := { stood := { row := certifySoundRow, standIns := [], harness := (true, "f7700371c8b5fddb2e0cf9d5ff2e169200c13f28753ab1d3c19509a013739147"), looks := true }, kinds := [], alts := [], laidByText := true, laidKinds := [.data, .data, .data, .data, .sentinel, .sentinel, .pinned], laidTests := true, laidLooks := .later }
def CertifySoundCardSaid : Prop := Claim7.holds Tryz.pinned (.plain (OpenSpec.ofChange certifySoundSpec)) certifySoundCard

/-- THE TIED CARD OF 'cellarerlaw08.CertifyBest'. -/
def certifyBestCard : Claim7 := { stood := { row := certifyBestRow, standIns := [], harness := (true, "f7700371c8b5fddb2e0cf9d5ff2e169200c13f28753ab1d3c19509a013739147"), looks := true }, kinds := [], alts := [], laidByText := true, laidKinds := [.data, .data, .data, .data, .sentinel, .sentinel, .pinned], laidTests := true, laidLooks := .later }
def CertifyBestCardSaid : Prop := Claim7.holds Tryz.pinned (.plain (OpenSpec.ofChange certifyBestSpec)) certifyBestCard

/-- THE TIED CARD OF 'cellarerlaw08.CertifyGoes'. -/
def certifyGoesCard : Claim7 := { stood := { row := certifyGoesRow, standIns := [], harness := (true, "f7700371c8b5fddb2e0cf9d5ff2e169200c13f28753ab1d3c19509a013739147"), looks := true }, kinds := [], alts := [], laidByText := true, laidKinds := [.data, .data, .data, .data, .sentinel, .sentinel, .pinned], laidTests := true, laidLooks := .later }
def CertifyGoesCardSaid : Prop := Claim7.holds Tryz.pinned (.plain (OpenSpec.ofChange certifyGoesSpec)) certifyGoesCard

/-- THE TIED CARD OF 'cellarerlaw08.CertifyCombines'. -/
def certifyCombinesCard : Claim7 := { stood := { row := certifyCombinesRow, standIns := [], harness := (true, "f7700371c8b5fddb2e0cf9d5ff2e169200c13f28753ab1d3c19509a013739147"), looks := true }, kinds := [], alts := [], laidByText := true, laidKinds := [.data, .data, .data, .data, .sentinel, .sentinel, .pinned], laidTests := true, laidLooks := .later }
def CertifyCombinesCardSaid : Prop := Claim7.holds Tryz.pinned (.plain (OpenSpec.ofChange certifyCombinesSpec)) certifyCombinesCard

/-- THE SECOND FORM's CARD OF 'cellarerlaw08.CertifyFarkas'. -/
def certifyFarkasUptoCard : Claim7 := { stood := { row := certifyFarkasUptoRow, standIns := [], harness := (true, "f7700371c8b5fddb2e0cf9d5ff2e169200c13f28753ab1d3c19509a013739147"), looks := true }, kinds := [], alts := [], laidByText := true, laidKinds := [.data, .data, .data, .data, .sentinel, .sentinel, .pinned], laidTests := true, laidLooks := .later }
def CertifyFarkasUptoCardSaid : Prop := Claim7.holds Tryz.pinned (.plain (OpenSpec.upto certifyFarkasSpec)) certifyFarkasUptoCard

/-- THE SECOND FORM's CARD OF 'cellarerlaw08.CertifyLeast'. -/
def certifyLeastUptoCard : Claim7 := { stood := { row := certifyLeastUptoRow, standIns := [], harness := (true, "f7700371c8b5fddb2e0cf9d5ff2e169200c13f28753ab1d3c19509a013739147"), looks := true }, kinds := [], alts := [], laidByText := true, laidKinds := [.data, .data, .data, .data, .sentinel, .sentinel, .pinned], laidTests := true, laidLooks := .later }
def CertifyLeastUptoCardSaid : Prop := Claim7.holds Tryz.pinned (.plain (OpenSpec.upto certifyLeastSpec)) certifyLeastUptoCard

/-- THE SECOND FORM's CARD OF 'cellarerlaw08.CertifySound'. -/
def certifySoundUptoCard : Claim7 := { stood := { row := certifySoundUptoRow, standIns := [], harness := (true, "f7700371c8b5fddb2e0cf9d5ff2e169200c13f28753ab1d3c19509a013739147"), looks := true }, kinds := [], alts := [], laidByText := true, laidKinds := [.data, .data, .data, .data, .sentinel, .sentinel, .pinned], laidTests := true, laidLooks := .later }
def CertifySoundUptoCardSaid : Prop := Claim7.holds Tryz.pinned (.plain (OpenSpec.upto certifySoundSpec)) certifySoundUptoCard

/-- THE SECOND FORM's CARD OF 'cellarerlaw08.CertifyBest'. -/
def certifyBestUptoCard : Claim7 := { stood := { row := certifyBestUptoRow, standIns := [], harness := (true, "f7700371c8b5fddb2e0cf9d5ff2e169200c13f28753ab1d3c19509a013739147"), looks := true }, kinds := [], alts := [], laidByText := true, laidKinds := [.data, .data, .data, .data, .sentinel, .sentinel, .pinned], laidTests := true, laidLooks := .later }
def CertifyBestUptoCardSaid : Prop := Claim7.holds Tryz.pinned (.plain (OpenSpec.upto certifyBestSpec)) certifyBestUptoCard

/-- THE SECOND FORM's CARD OF 'cellarerlaw08.CertifyGoes'. -/
def certifyGoesUptoCard : Claim7 := { stood := { row := certifyGoesUptoRow, standIns := [], harness := (true, "f7700371c8b5fddb2e0cf9d5ff2e169200c13f28753ab1d3c19509a013739147"), looks := true }, kinds := [], alts := [], laidByText := true, laidKinds := [.data, .data, .data, .data, .sentinel, .sentinel, .pinned], laidTests := true, laidLooks := .later }
def CertifyGoesUptoCardSaid : Prop := Claim7.holds Tryz.pinned (.plain (OpenSpec.upto certifyGoesSpec)) certifyGoesUptoCard

/-- THE SECOND FORM's CARD OF 'cellarerlaw08.CertifyCombines'. -/
def certifyCombinesUptoCard : Claim7 := { stood := { row := certifyCombinesUptoRow, standIns := [], harness := (true, "f7700371c8b5fddb2e0cf9d5ff2e169200c13f28753ab1d3c19509a013739147"), looks := true }, kinds := [], alts := [], laidByText := true, laidKinds := [.data, .data, .data, .data, .sentinel, .sentinel, .pinned], laidTests := true, laidLooks := .later }
def CertifyCombinesUptoCardSaid : Prop := Claim7.holds Tryz.pinned (.plain (OpenSpec.upto certifyCombinesSpec)) certifyCombinesUptoCard
end Rows
end Go.Proofs.YtmgfmlhdnadglaaGreatDoor
