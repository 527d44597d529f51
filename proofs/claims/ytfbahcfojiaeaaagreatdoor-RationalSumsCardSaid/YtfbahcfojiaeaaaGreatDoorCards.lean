/-
  DERIVED. GIVEN WITH THE SEED: THE CARDS: each row of YtfbahcfojiaeaaaGreatDoorRows.lean that lists a variable, with what it lists TIED to the program's text (the seventh form; the later family's looks); each row that meets fmt, with fmt's text TOLD by the authors' own Lean function (tested against real Go, not proved from fmt's source: count such statements apart). THE CARD IS WHAT COUNTS. Prove the row's statement (the work); the ties are given (YtfbahcfojiaeaaaGreatDoorTie.lean); close each card by the builder's one call (the guide's Derived/Test/ToyasCard.lean, 'card_holds'). Laid BY PROGRAM, IN A SANDBOX (cutbox-door.mjs). By AI agents, Wed Nov 11 2026. No macro, syntax, notation, axiom, sorry.
-/
import Derived.Test.YtfbahcfojiaeaaaGreatDoorRows
import GoSem.ClaimSeven
namespace Go.Proofs.YtfbahcfojiaeaaaGreatDoor
namespace Rows

/-- THE TIED CARD OF 'cellarerlaw03.RationalMakes'. -/
def rationalMakesCard : Claim7 := { stood := { row := rationalMakesRow, standIns := [], harness := (true, "e1703cb6245dd261b21fe25032f5445bf19e41f6bf4459650c8c4d0a33e9d8c0"), looks := true }, kinds := [], alts := [], laidByText := true, laidKinds := [.data, .data, .data, .data, .sentinel, .sentinel, .pinned], laidTests := true, laidLooks := .later }
def RationalMakesCardSaid : Prop := Claim7.holds Tryz.pinned (.plain (OpenSpec.ofChange rationalMakesSpec)) rationalMakesCard

/-- THE TIED CARD OF 'cellarerlaw03.RationalReads'. -/
def rationalReadsCard : Claim7 := { stood := { row := rationalReadsRow, standIns := [], harness := (true, "e1703cb6245dd261b21fe25032f5445bf19e41f6bf4459650c8c4d0a33e9d8c0"), looks := true }, kinds := [], alts := [], laidByText := true, laidKinds := [.data, .data, .data, .data, .sentinel, .sentinel, .pinned], laidTests := true, laidLooks := .later }
def RationalReadsCardSaid : Prop := Claim7.holds Tryz.pinned (.plain (OpenSpec.ofChange rationalReadsSpec)) rationalReadsCard

/-- THE TIED CARD OF 'cellarerlaw03.RationalSums'. -/
def rationalSumsCard : Claim7 := { stood := { row := rationalSumsRow, standIns := [], harness := (true, "e1703cb6245dd261b21fe25032f5445bf19e41f6bf4459650c8c4d0a33e9d8c0"), looks := true }, kinds := [], alts := [], laidByText := true, laidKinds := [.data, .data, .data, .data, .sentinel, .sentinel, .pinned], laidTests := true, laidLooks := .later }
def RationalSumsCardSaid : Prop := Claim7.holds Tryz.pinned (.plain (OpenSpec.ofChange rationalSumsSpec)) rationalSumsCard

/-- THE TIED CARD OF 'cellarerlaw03.RationalAdds'. -/
def rationalAddsCard : Claim7 := { stood := { row := rationalAddsRow, standIns := [], harness := (true, "e1703cb6245dd261b21fe25032f5445bf19e41f6bf4459650c8c4d0a33e9d8c0"), looks := true }, kinds := [], alts := [], laidByText := true, laidKinds := [.data, .data, .data, .data, .sentinel, .sentinel, .pinned], laidTests := true, laidLooks := .later }
def RationalAddsCardSaid : Prop := Claim7.holds Tryz.pinned (.plain (OpenSpec.ofChange rationalAddsSpec)) rationalAddsCard

/-- THE TIED CARD OF 'cellarerlaw03.RationalField'. -/
def rationalFieldCard : Claim7 := { stood := { row := rationalFieldRow, standIns := [], harness := (true, "e1703cb6245dd261b21fe25032f5445bf19e41f6bf4459650c8c4d0a33e9d8c0"), looks := true }, kinds := [], alts := [], laidByText := true, laidKinds := [.data, .data, .data, .data, .sentinel, .sentinel, .pinned], laidTests := true, laidLooks := .later }
def RationalFieldCardSaid : Prop := Claim7.holds Tryz.pinned (.plain (OpenSpec.ofChange rationalFieldSpec)) rationalFieldCard

/-- THE TIED CARD OF 'cellarerlaw03.RationalLimits'. -/
def rationalLimitsCard : Claim7 := { stood := { row := rationalLimitsRow, standIns := [], harness := (true, "e1703cb6245dd261b21fe25032f5445bf19e41f6bf4459650c8c4d0a33e9d8c0"), looks := true }, kinds := [], alts := [], laidByText := true, laidKinds := [.data, .data, .data, .data, .sentinel, .sentinel, .pinned], laidTests := true, laidLooks := .later }
def RationalLimitsCardSaid : Prop := Claim7.holds Tryz.pinned (.plain (OpenSpec.ofChange rationalLimitsSpec)) rationalLimitsCard

/-- THE TIED CARD OF 'cellarerlaw03.RationalOrders'. -/
def rationalOrdersCard : Claim7 := { stood := { row := rationalOrdersRow, standIns := [], harness := (true, "e1703cb6245dd261b21fe25032f5445bf19e41f6bf4459650c8c4d0a33e9d8c0"), looks := true }, kinds := [], alts := [], laidByText := true, laidKinds := [.data, .data, .data, .data, .sentinel, .sentinel, .pinned], laidTests := true, laidLooks := .later }
def RationalOrdersCardSaid : Prop := Claim7.holds Tryz.pinned (.plain (OpenSpec.ofChange rationalOrdersSpec)) rationalOrdersCard

/-- THE SECOND FORM's CARD OF 'cellarerlaw03.RationalMakes'. -/
def rationalMakesUptoCard : Claim7 := { stood := { row := rationalMakesUptoRow, standIns := [], harness := (true, "e1703cb6245dd261b21fe25032f5445bf19e41f6bf4459650c8c4d0a33e9d8c0"), looks := true }, kinds := [], alts := [], laidByText := true, laidKinds := [.data, .data, .data, .data, .sentinel, .sentinel, .pinned], laidTests := true, laidLooks := .later }
def RationalMakesUptoCardSaid : Prop := Claim7.holds Tryz.pinned (.plain (OpenSpec.upto rationalMakesSpec)) rationalMakesUptoCard

/-- THE SECOND FORM's CARD OF 'cellarerlaw03.RationalReads'. -/
def rationalReadsUptoCard : Claim7 := { stood := { row := rationalReadsUptoRow, standIns := [], harness := (true, "e1703cb6245dd261b21fe25032f5445bf19e41f6bf4459650c8c4d0a33e9d8c0"), looks := true }, kinds := [], alts := [], laidByText := true, laidKinds := [.data, .data, .data, .data, .sentinel, .sentinel, .pinned], laidTests := true, laidLooks := .later }
def RationalReadsUptoCardSaid : Prop := Claim7.holds Tryz.pinned (.plain (OpenSpec.upto rationalReadsSpec)) rationalReadsUptoCard

/-- THE SECOND FORM's CARD OF 'cellarerlaw03.RationalSums'. -/
def rationalSumsUptoCard : Claim7 := { stood := { row := rationalSumsUptoRow, standIns := [], harness := (true, "e1703cb6245dd261b21fe25032f5445bf19e41f6bf4459650c8c4d0a33e9d8c0"), looks := true }, kinds := [], alts := [], laidByText := true, laidKinds := [.data, .data, .data, .data, .sentinel, .sentinel, .pinned], laidTests := true, laidLooks := .later }
def RationalSumsUptoCardSaid : Prop := Claim7.holds Tryz.pinned (.plain (OpenSpec.upto rationalSumsSpec)) rationalSumsUptoCard

/-- THE SECOND FORM's CARD OF 'cellarerlaw03.RationalAdds'. -/
def rationalAddsUptoCard : Claim7 := { stood := { row := rationalAddsUptoRow, standIns := [], harness := (true, "e1703cb6245dd261b21fe25032f5445bf19e41f6bf4459650c8c4d0a33e9d8c0"), looks := true }, kinds := [], alts := [], laidByText := true, laidKinds := [.data, .data, .data, .data, .sentinel, .sentinel, .pinned], laidTests := true, laidLooks := .later }
def RationalAddsUptoCardSaid : Prop := Claim7.holds Tryz.pinned (.plain (OpenSpec.upto rationalAddsSpec)) rationalAddsUptoCard

/-- THE SECOND FORM's CARD OF 'cellarerlaw03.RationalField'. -/
def rationalFieldUptoCard : Claim7 := { stood := { row := rationalFieldUptoRow, standIns := [], harness := (true, "e1703cb6245dd261b21fe25032f5445bf19e41f6bf4459650c8c4d0a33e9d8c0"), looks := true }, kinds := [], alts := [], laidByText := true, laidKinds := [.data, .data, .data, .data, .sentinel, .sentinel, .pinned], laidTests := true, laidLooks := .later }
def RationalFieldUptoCardSaid : Prop := Claim7.holds Tryz.pinned (.plain (OpenSpec.upto rationalFieldSpec)) rationalFieldUptoCard

/-- THE SECOND FORM's CARD OF 'cellarerlaw03.RationalLimits'. -/
def rationalLimitsUptoCard : Claim7 := { stood := { row := rationalLimitsUptoRow, standIns := [], harness := (true, "e1703cb6245dd261b21fe25032f5445bf19e41f6bf4459650c8c4d0a33e9d8c0"), looks := true }, kinds := [], alts := [], laidByText := true, laidKinds := [.data, .data, .data, .data, .sentinel, .sentinel, .pinned], laidTests := true, laidLooks := .later }
def RationalLimitsUptoCardSaid : Prop := Claim7.holds Tryz.pinned (.plain (OpenSpec.upto rationalLimitsSpec)) rationalLimitsUptoCard

/-- THE SECOND FORM's CARD OF 'cellarerlaw03.RationalOrders'. -/
def rationalOrdersUptoCard : Claim7 := { stood := { row := rationalOrdersUptoRow, standIns := [], harness := (true, "e1703cb6245dd261b21fe25032f5445bf19e41f6bf4459650c8c4d0a33e9d8c0"), looks := true }, kinds := [], alts := [], laidByText := true, laidKinds := [.data, .data, .data, .data, .sentinel, .sentinel, .pinned], laidTests := true, laidLooks := .later }
def RationalOrdersUptoCardSaid : Prop := Claim7.holds Tryz.pinned (.plain (OpenSpec.upto rationalOrdersSpec)) rationalOrdersUptoCard
end Rows
end Go.Proofs.YtfbahcfojiaeaaaGreatDoor
