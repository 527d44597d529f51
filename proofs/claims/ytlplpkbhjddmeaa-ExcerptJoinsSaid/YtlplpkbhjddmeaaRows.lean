/-
  No cell of these rows narrows 'for every input' (looked for: loops, veiled, ifaces, maps, wideKeys, modest, calm, conditions, laid).
  DERIVED. THE GIVEN ROWS OF THIS SEAT. 7 by the template 'for every input the law returns true; each argument reads behind the call as it read before'; 0 by the template 'total and deterministic' (their statements: YtlplpkbhjddmeaaTotals.lean).
  GIVEN WITH THE SEED: the statements are not yours to turn. If you find one false, say at which input.
  Laid BY PROGRAM, IN A SANDBOX (cutbox-rows.mjs): the forced cells as the released guide's own fill.sh prints them over the translation 30fd97bbb147a723… (all of the seat's roots in one cut). By AI agents, Wed Nov 11 2026. No macro, syntax, notation, axiom, sorry.
-/
import Derived.Test.YtlplpkbhjddmeaaChecked
import GoSem.Claim
import GoSem.ClaimJoined
import GoSem.ClaimMapViews
import Derived.JoinedTies
import Derived.KernelRfl
namespace Go.Proofs.Ytlplpkbhjddmeaa
/- THE CELL 'sum', in the pinned program and in every row, IS THE sha256 OF THE DUMP (.gsa) THAT YtlplpkbhjddmeaaProg.lean LOADS. Nothing in Lean hashes anything: it is a label: what it is worth is what the hold of that sum in a sandbox is worth. -/
noncomputable def Try.pinned : Pinned := { name := "ytlplpkbhjddmeaa", sum := "30fd97bbb147a723b7fb853f4d95315edc1cfa4844d96b65c76c11031841b699", checked := Try.checked }
namespace Rows
def none {H : Type} : Left H := { results := [], args := [] }

/-- 'cellarerlaw01.ExcerptPlaces': WHATEVER THE INPUT: true; the input reads as it did. -/
def excerptPlacesSpec : ChangeSpec := { name := "excerptPlaces", fn := fun _ => fun
  | [d1, d2] => { results := [.lit (.bool true)], args := [d1, d2] }
  | _ => none }
def excerptPlacesRow : OpenClaim := { program := "ytlplpkbhjddmeaa", sum := "30fd97bbb147a723b7fb853f4d95315edc1cfa4844d96b65c76c11031841b699", func := "cellarer/cellarerlaw01.ExcerptPlaces", spec := "excerptPlaces", inPlace := ["internal/bytealg.CountString", "internal/bytealg.IndexByteString", "internal/bytealg.IndexString", "internal/abi.NoEscape", "internal/bytealg.MakeNoZero"], unfollowed := true, recurses := true, named := ["internal/bytealg.MaxLen"], apart := false }
def ExcerptPlacesSaid : Prop := excerptPlacesRow.holds Try.pinned (OpenSpec.ofChange excerptPlacesSpec)

/-- ITS FALSE NEIGHBOUR: 'it returns false'. Refute it at one input. -/
def excerptPlacesWrong : ChangeSpec := { name := "excerptPlaces", fn := fun _ => fun
  | [d1, d2] => { results := [.lit (.bool false)], args := [d1, d2] }
  | _ => none }
def ExcerptPlacesWrongFalsely : Prop := excerptPlacesRow.holds Try.pinned (OpenSpec.ofChange excerptPlacesWrong)

/-- 'cellarerlaw01.ExcerptShows': WHATEVER THE INPUT: true; the input reads as it did. -/
def excerptShowsSpec : ChangeSpec := { name := "excerptShows", fn := fun _ => fun
  | [d1, d2, d3] => { results := [.lit (.bool true)], args := [d1, d2, d3] }
  | _ => none }
def excerptShowsRow : OpenClaim := { program := "ytlplpkbhjddmeaa", sum := "30fd97bbb147a723b7fb853f4d95315edc1cfa4844d96b65c76c11031841b699", func := "cellarer/cellarerlaw01.ExcerptShows", spec := "excerptShows", inPlace := ["internal/bytealg.CountString", "internal/bytealg.IndexByteString", "internal/bytealg.IndexString", "internal/abi.NoEscape", "internal/bytealg.MakeNoZero"], unfollowed := true, recurses := true, named := ["internal/bytealg.MaxLen"], apart := false }
def ExcerptShowsSaid : Prop := excerptShowsRow.holds Try.pinned (OpenSpec.ofChange excerptShowsSpec)

/-- ITS FALSE NEIGHBOUR: 'it returns false'. Refute it at one input. -/
def excerptShowsWrong : ChangeSpec := { name := "excerptShows", fn := fun _ => fun
  | [d1, d2, d3] => { results := [.lit (.bool false)], args := [d1, d2, d3] }
  | _ => none }
def ExcerptShowsWrongFalsely : Prop := excerptShowsRow.holds Try.pinned (OpenSpec.ofChange excerptShowsWrong)

/-- 'cellarerlaw01.ExcerptBack': WHATEVER THE INPUT: true; the input reads as it did. -/
def excerptBackSpec : ChangeSpec := { name := "excerptBack", fn := fun _ => fun
  | [d1, d2] => { results := [.lit (.bool true)], args := [d1, d2] }
  | _ => none }
def excerptBackRow : OpenClaim := { program := "ytlplpkbhjddmeaa", sum := "30fd97bbb147a723b7fb853f4d95315edc1cfa4844d96b65c76c11031841b699", func := "cellarer/cellarerlaw01.ExcerptBack", spec := "excerptBack", inPlace := ["internal/bytealg.CountString", "internal/bytealg.IndexByteString", "internal/bytealg.IndexString", "internal/abi.NoEscape", "internal/bytealg.MakeNoZero"], unfollowed := true, recurses := true, named := ["internal/bytealg.MaxLen"], apart := false }
def ExcerptBackSaid : Prop := excerptBackRow.holds Try.pinned (OpenSpec.ofChange excerptBackSpec)

/-- ITS FALSE NEIGHBOUR: 'it returns false'. Refute it at one input. -/
def excerptBackWrong : ChangeSpec := { name := "excerptBack", fn := fun _ => fun
  | [d1, d2] => { results := [.lit (.bool false)], args := [d1, d2] }
  | _ => none }
def ExcerptBackWrongFalsely : Prop := excerptBackRow.holds Try.pinned (OpenSpec.ofChange excerptBackWrong)

/-- 'cellarerlaw01.ExcerptMoves': WHATEVER THE INPUT: true; the input reads as it did. -/
def excerptMovesSpec : ChangeSpec := { name := "excerptMoves", fn := fun _ => fun
  | [d1, d2, d3] => { results := [.lit (.bool true)], args := [d1, d2, d3] }
  | _ => none }
def excerptMovesRow : OpenClaim := { program := "ytlplpkbhjddmeaa", sum := "30fd97bbb147a723b7fb853f4d95315edc1cfa4844d96b65c76c11031841b699", func := "cellarer/cellarerlaw01.ExcerptMoves", spec := "excerptMoves", inPlace := ["internal/bytealg.CountString", "internal/bytealg.IndexByteString", "internal/bytealg.IndexString", "internal/abi.NoEscape", "internal/bytealg.MakeNoZero"], unfollowed := true, recurses := true, named := ["internal/bytealg.MaxLen"], apart := false }
def ExcerptMovesSaid : Prop := excerptMovesRow.holds Try.pinned (OpenSpec.ofChange excerptMovesSpec)

/-- ITS FALSE NEIGHBOUR: 'it returns false'. Refute it at one input. -/
def excerptMovesWrong : ChangeSpec := { name := "excerptMoves", fn := fun _ => fun
  | [d1, d2, d3] => { results := [.lit (.bool false)], args := [d1, d2, d3] }
  | _ => none }
def ExcerptMovesWrongFalsely : Prop := excerptMovesRow.holds Try.pinned (OpenSpec.ofChange excerptMovesWrong)

/-- 'cellarerlaw01.ExcerptReturns': WHATEVER THE INPUT: true; the input reads as it did. -/
def excerptReturnsSpec : ChangeSpec := { name := "excerptReturns", fn := fun _ => fun
  | [d1, d2, d3] => { results := [.lit (.bool true)], args := [d1, d2, d3] }
  | _ => none }
def excerptReturnsRow : OpenClaim := { program := "ytlplpkbhjddmeaa", sum := "30fd97bbb147a723b7fb853f4d95315edc1cfa4844d96b65c76c11031841b699", func := "cellarer/cellarerlaw01.ExcerptReturns", spec := "excerptReturns", inPlace := ["internal/bytealg.CountString", "internal/bytealg.IndexByteString", "internal/bytealg.IndexString", "internal/abi.NoEscape", "internal/bytealg.MakeNoZero"], unfollowed := true, recurses := true, named := ["internal/bytealg.MaxLen"], apart := false }
def ExcerptReturnsSaid : Prop := excerptReturnsRow.holds Try.pinned (OpenSpec.ofChange excerptReturnsSpec)

/-- ITS FALSE NEIGHBOUR: 'it returns false'. Refute it at one input. -/
def excerptReturnsWrong : ChangeSpec := { name := "excerptReturns", fn := fun _ => fun
  | [d1, d2, d3] => { results := [.lit (.bool false)], args := [d1, d2, d3] }
  | _ => none }
def ExcerptReturnsWrongFalsely : Prop := excerptReturnsRow.holds Try.pinned (OpenSpec.ofChange excerptReturnsWrong)

/-- 'cellarerlaw01.ExcerptJoins': WHATEVER THE INPUT: true; the input reads as it did. -/
def excerptJoinsSpec : ChangeSpec := { name := "excerptJoins", fn := fun _ => fun
  | [d] => { results := [.lit (.bool true)], args := [d] }
  | _ => none }
def excerptJoinsRow : OpenClaim := { program := "ytlplpkbhjddmeaa", sum := "30fd97bbb147a723b7fb853f4d95315edc1cfa4844d96b65c76c11031841b699", func := "cellarer/cellarerlaw01.ExcerptJoins", spec := "excerptJoins", inPlace := ["internal/bytealg.CountString", "internal/bytealg.IndexByteString", "internal/bytealg.IndexString", "internal/abi.NoEscape", "internal/bytealg.MakeNoZero"], unfollowed := true, recurses := true, named := ["internal/bytealg.MaxLen"], apart := false }
def ExcerptJoinsSaid : Prop := excerptJoinsRow.holds Try.pinned (OpenSpec.ofChange excerptJoinsSpec)

/-- ITS FALSE NEIGHBOUR: 'it returns false'. Refute it at one input. -/
def excerptJoinsWrong : ChangeSpec := { name := "excerptJoins", fn := fun _ => fun
  | [d] => { results := [.lit (.bool false)], args := [d] }
  | _ => none }
def ExcerptJoinsWrongFalsely : Prop := excerptJoinsRow.holds Try.pinned (OpenSpec.ofChange excerptJoinsWrong)

/-- 'cellarerlaw01.ExcerptAligns': WHATEVER THE INPUT: true; the input reads as it did. -/
def excerptAlignsSpec : ChangeSpec := { name := "excerptAligns", fn := fun _ => fun
  | [d1, d2, d3] => { results := [.lit (.bool true)], args := [d1, d2, d3] }
  | _ => none }
def excerptAlignsRow : OpenClaim := { program := "ytlplpkbhjddmeaa", sum := "30fd97bbb147a723b7fb853f4d95315edc1cfa4844d96b65c76c11031841b699", func := "cellarer/cellarerlaw01.ExcerptAligns", spec := "excerptAligns", inPlace := ["internal/bytealg.CountString", "internal/bytealg.IndexByteString", "internal/bytealg.IndexString", "internal/abi.NoEscape", "internal/bytealg.MakeNoZero"], unfollowed := true, recurses := true, named := ["internal/bytealg.MaxLen"], apart := false }
def ExcerptAlignsSaid : Prop := excerptAlignsRow.holds Try.pinned (OpenSpec.ofChange excerptAlignsSpec)

/-- ITS FALSE NEIGHBOUR: 'it returns false'. Refute it at one input. -/
def excerptAlignsWrong : ChangeSpec := { name := "excerptAligns", fn := fun _ => fun
  | [d1, d2, d3] => { results := [.lit (.bool false)], args := [d1, d2, d3] }
  | _ => none }
def ExcerptAlignsWrongFalsely : Prop := excerptAlignsRow.holds Try.pinned (OpenSpec.ofChange excerptAlignsWrong)

/- THE SECOND FORM. 'bulk': how many values and letters a reading holds, each counted each time it is reached (what is shared counts as often as it is met; a slice's spare places count too). A statement '..UptoSaid' is the law's where the arguments, and the package variables that the reading takes, are together of bulk at most 1048576: NARROWER than '..Said'. Prove '..Said' where nothing that the law and all that it calls make is longer than what came in: it says more and counts as full. Else prove '..UptoSaid'. A law counts once. -/
mutual
def uptoBulk {H : Type} : DataW H → Nat
  | .lit (.string bytes) => bytes.length + 1
  | .lit _ => 1
  | .nil => 1
  | .ptr d => uptoBulk d + 1
  | .slice elems spare => uptoBulkAll elems + uptoBulkAll spare + 1
  | .agg parts => uptoBulkAll parts + 1
  | .iface _ d => uptoBulk d + 1
  | .map entries => uptoBulkEntries entries + 1
  | .held _ => 1
def uptoBulkAll {H : Type} : List (DataW H) → Nat
  | [] => 0
  | d :: r => uptoBulk d + uptoBulkAll r
def uptoBulkEntries {H : Type} : List (Lit × DataW H) → Nat
  | [] => 0
  | x :: r => uptoBulkEntry x + uptoBulkEntries r
def uptoBulkEntry {H : Type} : Lit × DataW H → Nat
  | (.string bytes, d) => bytes.length + uptoBulk d + 1
  | (_, d) => uptoBulk d + 1
 end
def uptoSmall : (H : Type) → List (DataW H) → Bool := fun _ ds => decide (uptoBulkAll ds ≤ 1048576)
def OpenSpec.upto (s : _root_.Go.ChangeSpec) : _root_.Go.OpenSpec := { _root_.Go.OpenSpec.ofChange s with cond := some uptoSmall }

/-- 'cellarerlaw01.ExcerptPlaces', WHERE WHAT IT READS IS OF BULK AT MOST 1048576: true; the input reads as it did. -/
def excerptPlacesUptoRow : OpenClaim := { program := "ytlplpkbhjddmeaa", sum := "30fd97bbb147a723b7fb853f4d95315edc1cfa4844d96b65c76c11031841b699", func := "cellarer/cellarerlaw01.ExcerptPlaces", spec := "excerptPlaces", inPlace := ["internal/bytealg.CountString", "internal/bytealg.IndexByteString", "internal/bytealg.IndexString", "internal/abi.NoEscape", "internal/bytealg.MakeNoZero"], unfollowed := true, recurses := true, named := ["internal/bytealg.MaxLen"], apart := false, narrowed := true }
def ExcerptPlacesUptoSaid : Prop := excerptPlacesUptoRow.holds Try.pinned (OpenSpec.upto excerptPlacesSpec)

/-- 'cellarerlaw01.ExcerptShows', WHERE WHAT IT READS IS OF BULK AT MOST 1048576: true; the input reads as it did. -/
def excerptShowsUptoRow : OpenClaim := { program := "ytlplpkbhjddmeaa", sum := "30fd97bbb147a723b7fb853f4d95315edc1cfa4844d96b65c76c11031841b699", func := "cellarer/cellarerlaw01.ExcerptShows", spec := "excerptShows", inPlace := ["internal/bytealg.CountString", "internal/bytealg.IndexByteString", "internal/bytealg.IndexString", "internal/abi.NoEscape", "internal/bytealg.MakeNoZero"], unfollowed := true, recurses := true, named := ["internal/bytealg.MaxLen"], apart := false, narrowed := true }
def ExcerptShowsUptoSaid : Prop := excerptShowsUptoRow.holds Try.pinned (OpenSpec.upto excerptShowsSpec)

/-- 'cellarerlaw01.ExcerptBack', WHERE WHAT IT READS IS OF BULK AT MOST 1048576: true; the input reads as it did. -/
def excerptBackUptoRow : OpenClaim := { program := "ytlplpkbhjddmeaa", sum := "30fd97bbb147a723b7fb853f4d95315edc1cfa4844d96b65c76c11031841b699", func := "cellarer/cellarerlaw01.ExcerptBack", spec := "excerptBack", inPlace := ["internal/bytealg.CountString", "internal/bytealg.IndexByteString", "internal/bytealg.IndexString", "internal/abi.NoEscape", "internal/bytealg.MakeNoZero"], unfollowed := true, recurses := true, named := ["internal/bytealg.MaxLen"], apart := false, narrowed := true }
def ExcerptBackUptoSaid : Prop := excerptBackUptoRow.holds Try.pinned (OpenSpec.upto excerptBackSpec)

/-- 'cellarerlaw01.ExcerptMoves', WHERE WHAT IT READS IS OF BULK AT MOST 1048576: true; the input reads as it did. -/
def excerptMovesUptoRow : OpenClaim := { program := "ytlplpkbhjddmeaa", sum := "30fd97bbb147a723b7fb853f4d95315edc1cfa4844d96b65c76c11031841b699", func := "cellarer/cellarerlaw01.ExcerptMoves", spec := "excerptMoves", inPlace := ["internal/bytealg.CountString", "internal/bytealg.IndexByteString", "internal/bytealg.IndexString", "internal/abi.NoEscape", "internal/bytealg.MakeNoZero"], unfollowed := true, recurses := true, named := ["internal/bytealg.MaxLen"], apart := false, narrowed := true }
def ExcerptMovesUptoSaid : Prop := excerptMovesUptoRow.holds Try.pinned (OpenSpec.upto excerptMovesSpec)

/-- 'cellarerlaw01.ExcerptReturns', WHERE WHAT IT READS IS OF BULK AT MOST 1048576: true; the input reads as it did. -/
def excerptReturnsUptoRow : OpenClaim := { program := "ytlplpkbhjddmeaa", sum := "30fd97bbb147a723b7fb853f4d95315edc1cfa4844d96b65c76c11031841b699", func := "cellarer/cellarerlaw01.ExcerptReturns", spec := "excerptReturns", inPlace := ["internal/bytealg.CountString", "internal/bytealg.IndexByteString", "internal/bytealg.IndexString", "internal/abi.NoEscape", "internal/bytealg.MakeNoZero"], unfollowed := true, recurses := true, named := ["internal/bytealg.MaxLen"], apart := false, narrowed := true }
def ExcerptReturnsUptoSaid : Prop := excerptReturnsUptoRow.holds Try.pinned (OpenSpec.upto excerptReturnsSpec)

/-- 'cellarerlaw01.ExcerptJoins', WHERE WHAT IT READS IS OF BULK AT MOST 1048576: true; the input reads as it did. -/
def excerptJoinsUptoRow : OpenClaim := { program := "ytlplpkbhjddmeaa", sum := "30fd97bbb147a723b7fb853f4d95315edc1cfa4844d96b65c76c11031841b699", func := "cellarer/cellarerlaw01.ExcerptJoins", spec := "excerptJoins", inPlace := ["internal/bytealg.CountString", "internal/bytealg.IndexByteString", "internal/bytealg.IndexString", "internal/abi.NoEscape", "internal/bytealg.MakeNoZero"], unfollowed := true, recurses := true, named := ["internal/bytealg.MaxLen"], apart := false, narrowed := true }
def ExcerptJoinsUptoSaid : Prop := excerptJoinsUptoRow.holds Try.pinned (OpenSpec.upto excerptJoinsSpec)

/-- 'cellarerlaw01.ExcerptAligns', WHERE WHAT IT READS IS OF BULK AT MOST 1048576: true; the input reads as it did. -/
def excerptAlignsUptoRow : OpenClaim := { program := "ytlplpkbhjddmeaa", sum := "30fd97bbb147a723b7fb853f4d95315edc1cfa4844d96b65c76c11031841b699", func := "cellarer/cellarerlaw01.ExcerptAligns", spec := "excerptAligns", inPlace := ["internal/bytealg.CountString", "internal/bytealg.IndexByteString", "internal/bytealg.IndexString", "internal/abi.NoEscape", "internal/bytealg.MakeNoZero"], unfollowed := true, recurses := true, named := ["internal/bytealg.MaxLen"], apart := false, narrowed := true }
def ExcerptAlignsUptoSaid : Prop := excerptAlignsUptoRow.holds Try.pinned (OpenSpec.upto excerptAlignsSpec)

end Rows
end Go.Proofs.Ytlplpkbhjddmeaa
