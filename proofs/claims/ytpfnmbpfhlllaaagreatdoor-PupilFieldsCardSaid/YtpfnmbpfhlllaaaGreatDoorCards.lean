/-
  DERIVED. GIVEN WITH THE SEED: THE CARDS: each row of YtpfnmbpfhlllaaaGreatDoorRows.lean that lists a variable, with what it lists TIED to the program's text (the seventh form; the later family's looks); each row that meets fmt, with fmt's text TOLD by the authors' own Lean function (tested against real Go, not proved from fmt's source: count such statements apart). THE CARD IS WHAT COUNTS. Prove the row's statement (the work); the ties are given (YtpfnmbpfhlllaaaGreatDoorTie.lean); close each card by the builder's one call (the guide's Derived/Test/ToyasCard.lean, 'card_holds'). Laid BY PROGRAM, IN A SANDBOX (cutbox-door.mjs). By AI agents, Wed Nov 11 2026. No macro, syntax, notation, axiom, sorry.
-/
import Derived.Test.YtpfnmbpfhlllaaaGreatDoorRows
import GoSem.ClaimSeven
namespace Go.Proofs.YtpfnmbpfhlllaaaGreatDoor
namespace Rows

/-- THE TIED CARD OF 'lensletlaw02.PupilValues'. -/
def pupilValuesCard : Claim7 := { stood := { row := pupilValuesRow, standIns := [], harness := (true, "d3ec5d27d2636bc1b04659fca6529d2bab324ffe4b742d7d1b18da118d7ca9a5"), looks := true }, kinds := [], alts := [], laidByText := true, laidKinds := [.data, .data, .data, .data, .sentinel, .sentinel, .data, .pinned], laidTests := true, laidLooks := .later }
def PupilValuesCardSaid : Prop := Claim7.holds Tryz.pinned (.plain (OpenSpec.ofChange pupilValuesSpec)) pupilValuesCard

/-- THE TIED CARD OF 'lensletlaw02.PupilProducts'. -/
def pupilProductsCard : Claim7 := { stood := { row := pupilProductsRow, standIns := [], harness := (true, "d3ec5d27d2636bc1b04659fca6529d2bab324ffe4b742d7d1b18da118d7ca9a5"), looks := true }, kinds := [], alts := [], laidByText := true, laidKinds := [.data, .data, .data, .data, .sentinel, .sentinel, .data, .pinned], laidTests := true, laidLooks := .later }
def PupilProductsCardSaid : Prop := Claim7.holds Tryz.pinned (.plain (OpenSpec.ofChange pupilProductsSpec)) pupilProductsCard

/-- THE TIED CARD OF 'lensletlaw02.PupilSums'. -/
def pupilSumsCard : Claim7 := { stood := { row := pupilSumsRow, standIns := [], harness := (true, "d3ec5d27d2636bc1b04659fca6529d2bab324ffe4b742d7d1b18da118d7ca9a5"), looks := true }, kinds := [], alts := [], laidByText := true, laidKinds := [.data, .data, .data, .data, .sentinel, .sentinel, .data, .pinned], laidTests := true, laidLooks := .later }
def PupilSumsCardSaid : Prop := Claim7.holds Tryz.pinned (.plain (OpenSpec.ofChange pupilSumsSpec)) pupilSumsCard

/-- THE TIED CARD OF 'lensletlaw02.PupilFields'. -/
def pupilFieldsCard : Claim7 := { stood := { row := pupilFieldsRow, standIns := [], harness := (true, "d3ec5d27d2636bc1b04659fca6529d2bab324ffe4b742d7d1b18da118d7ca9a5"), looks := true }, kinds := [], alts := [], laidByText := true, laidKinds := [.data, .data, .data, .data, .sentinel, .sentinel, .data, .pinned], laidTests := true, laidLooks := .later }
def PupilFieldsCardSaid : Prop := Claim7.holds Tryz.pinned (.plain (OpenSpec.ofChange pupilFieldsSpec)) pupilFieldsCard

/-- THE SECOND FORM's CARD OF 'lensletlaw02.PupilValues'. -/
def pupilValuesUptoCard : Claim7 := { stood := { row := pupilValuesUptoRow, standIns := [], harness := (true, "d3ec5d27d2636bc1b04659fca6529d2bab324ffe4b742d7d1b18da118d7ca9a5"), looks := true }, kinds := [], alts := [], laidByText := true, laidKinds := [.data, .data, .data, .data, .sentinel, .sentinel, .data, .pinned], laidTests := true, laidLooks := .later }
def PupilValuesUptoCardSaid : Prop := Claim7.holds Tryz.pinned (.plain (OpenSpec.upto pupilValuesSpec)) pupilValuesUptoCard

/-- THE SECOND FORM's CARD OF 'lensletlaw02.PupilProducts'. -/
def pupilProductsUptoCard : Claim7 := { stood := { row := pupilProductsUptoRow, standIns := [], harness := (true, "d3ec5d27d2636bc1b04659fca6529d2bab324ffe4b742d7d1b18da118d7ca9a5"), looks := true }, kinds := [], alts := [], laidByText := true, laidKinds := [.data, .data, .data, .data, .sentinel, .sentinel, .data, .pinned], laidTests := true, laidLooks := .later }
def PupilProductsUptoCardSaid : Prop := Claim7.holds Tryz.pinned (.plain (OpenSpec.upto pupilProductsSpec)) pupilProductsUptoCard

/-- THE SECOND FORM's CARD OF 'lensletlaw02.PupilSums'. -/
def pupilSumsUptoCard : Claim7 := { stood := { row := pupilSumsUptoRow, standIns := [], harness := (true, "d3ec5d27d2636bc1b04659fca6529d2bab324ffe4b742d7d1b18da118d7ca9a5"), looks := true }, kinds := [], alts := [], laidByText := true, laidKinds := [.data, .data, .data, .data, .sentinel, .sentinel, .data, .pinned], laidTests := true, laidLooks := .later }
def PupilSumsUptoCardSaid : Prop := Claim7.holds Tryz.pinned (.plain (OpenSpec.upto pupilSumsSpec)) pupilSumsUptoCard

/-- THE SECOND FORM's CARD OF 'lensletlaw02.PupilFields'. -/
def pupilFieldsUptoCard : Claim7 := { stood := { row := pupilFieldsUptoRow, standIns := [], harness := (true, "d3ec5d27d2636bc1b04659fca6529d2bab324ffe4b742d7d1b18da118d7ca9a5"), looks := true }, kinds := [], alts := [], laidByText := true, laidKinds := [.data, .data, .data, .data, .sentinel, .sentinel, .data, .pinned], laidTests := true, laidLooks := .later }
def PupilFieldsUptoCardSaid : Prop := Claim7.holds Tryz.pinned (.plain (OpenSpec.upto pupilFieldsSpec)) pupilFieldsUptoCard
end Rows
end Go.Proofs.YtpfnmbpfhlllaaaGreatDoor
