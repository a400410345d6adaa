/-
  DERIVED. GIVEN WITH THE SEED: THE CARDS: each row of YthmgaldefkaglaaGreatDoorRows.lean that lists a variable, with what it lists TIED to the program's text (the seventh form; the later family's looks); each row that meets fmt, with fmt's text TOLD by the authors' own Lean function (tested against real Go, not proved from fmt's source: count such statements apart). THE CARD IS WHAT COUNTS. Prove the row's statement (the work); the ties are given (YthmgaldefkaglaaGreatDoorTie.lean); close each card by the builder's one call (the guide's Derived/Test/ToyasCard.lean, 'card_holds'). Laid BY PROGRAM, IN A SANDBOX (cutbox-door.mjs). By AI agents, Wed Nov 11 2026. No macro, syntax, notation, axiom, sorry.
-/
import Derived.Test.YthmgaldefkaglaaGreatDoorRows
import GoSem.ClaimSeven
namespace Go.Proofs.YthmgaldefkaglaaGreatDoor
namespace Rows

/-- THE TIED CARD OF 'lensletlaw02.PupilModes'. -/
def pupilModesCard : Claim7 := { stood := { row := pupilModesRow, standIns := [], harness := (true, "e6db738cbd80e4bf5e3747850aea72224e4eabccccbbca9e7902f38c03e442da"), looks := true }, kinds := [], alts := [], laidByText := true, laidKinds := [.data, .data, .data, .data, .sentinel, .sentinel, .data, .pinned], laidTests := true, laidLooks := .later }
def PupilModesCardSaid : Prop := Claim7.holds Tryz.pinned (.plain (OpenSpec.ofChange pupilModesSpec)) pupilModesCard

/-- THE TIED CARD OF 'lensletlaw02.PupilValues'. -/
def pupilValuesCard : Claim7 := { stood := { row := pupilValuesRow, standIns := [], harness := (true, "e6db738cbd80e4bf5e3747850aea72224e4eabccccbbca9e7902f38c03e442da"), looks := true }, kinds := [], alts := [], laidByText := true, laidKinds := [.data, .data, .data, .data, .sentinel, .sentinel, .data, .pinned], laidTests := true, laidLooks := .later }
def PupilValuesCardSaid : Prop := Claim7.holds Tryz.pinned (.plain (OpenSpec.ofChange pupilValuesSpec)) pupilValuesCard

/-- THE TIED CARD OF 'lensletlaw02.PupilProducts'. -/
def pupilProductsCard : Claim7 := { stood := { row := pupilProductsRow, standIns := [], harness := (true, "e6db738cbd80e4bf5e3747850aea72224e4eabccccbbca9e7902f38c03e442da"), looks := true }, kinds := [], alts := [], laidByText := true, laidKinds := [.data, .data, .data, .data, .sentinel, .sentinel, .data, .pinned], laidTests := true, laidLooks := .later }
def PupilProductsCardSaid : Prop := Claim7.holds Tryz.pinned (.plain (OpenSpec.ofChange pupilProductsSpec)) pupilProductsCard

/-- THE TIED CARD OF 'lensletlaw02.PupilSamples'. -/
def pupilSamplesCard : Claim7 := { stood := { row := pupilSamplesRow, standIns := [], harness := (true, "e6db738cbd80e4bf5e3747850aea72224e4eabccccbbca9e7902f38c03e442da"), looks := true }, kinds := [], alts := [], laidByText := true, laidKinds := [.data, .data, .data, .data, .sentinel, .sentinel, .data, .pinned], laidTests := true, laidLooks := .later }
def PupilSamplesCardSaid : Prop := Claim7.holds Tryz.pinned (.plain (OpenSpec.ofChange pupilSamplesSpec)) pupilSamplesCard

/-- THE TIED CARD OF 'lensletlaw02.PupilBases'. -/
def pupilBasesCard : Claim7 := { stood := { row := pupilBasesRow, standIns := [], harness := (true, "e6db738cbd80e4bf5e3747850aea72224e4eabccccbbca9e7902f38c03e442da"), looks := true }, kinds := [], alts := [], laidByText := true, laidKinds := [.data, .data, .data, .data, .sentinel, .sentinel, .data, .pinned], laidTests := true, laidLooks := .later }
def PupilBasesCardSaid : Prop := Claim7.holds Tryz.pinned (.plain (OpenSpec.ofChange pupilBasesSpec)) pupilBasesCard

/-- THE TIED CARD OF 'lensletlaw02.PupilMoments'. -/
def pupilMomentsCard : Claim7 := { stood := { row := pupilMomentsRow, standIns := [], harness := (true, "e6db738cbd80e4bf5e3747850aea72224e4eabccccbbca9e7902f38c03e442da"), looks := true }, kinds := [], alts := [], laidByText := true, laidKinds := [.data, .data, .data, .data, .sentinel, .sentinel, .data, .pinned], laidTests := true, laidLooks := .later }
def PupilMomentsCardSaid : Prop := Claim7.holds Tryz.pinned (.plain (OpenSpec.ofChange pupilMomentsSpec)) pupilMomentsCard

/-- THE TIED CARD OF 'lensletlaw02.PupilDisc'. -/
def pupilDiscCard : Claim7 := { stood := { row := pupilDiscRow, standIns := [], harness := (true, "e6db738cbd80e4bf5e3747850aea72224e4eabccccbbca9e7902f38c03e442da"), looks := true }, kinds := [], alts := [], laidByText := true, laidKinds := [.data, .data, .data, .data, .sentinel, .sentinel, .data, .pinned], laidTests := true, laidLooks := .later }
def PupilDiscCardSaid : Prop := Claim7.holds Tryz.pinned (.plain (OpenSpec.ofChange pupilDiscSpec)) pupilDiscCard

/-- THE TIED CARD OF 'lensletlaw02.PupilTilts'. -/
def pupilTiltsCard : Claim7 := { stood := { row := pupilTiltsRow, standIns := [], harness := (true, "e6db738cbd80e4bf5e3747850aea72224e4eabccccbbca9e7902f38c03e442da"), looks := true }, kinds := [], alts := [], laidByText := true, laidKinds := [.data, .data, .data, .data, .sentinel, .sentinel, .data, .pinned], laidTests := true, laidLooks := .later }
def PupilTiltsCardSaid : Prop := Claim7.holds Tryz.pinned (.plain (OpenSpec.ofChange pupilTiltsSpec)) pupilTiltsCard

/-- THE TIED CARD OF 'lensletlaw02.PupilTurns'. -/
def pupilTurnsCard : Claim7 := { stood := { row := pupilTurnsRow, standIns := [], harness := (true, "e6db738cbd80e4bf5e3747850aea72224e4eabccccbbca9e7902f38c03e442da"), looks := true }, kinds := [], alts := [], laidByText := true, laidKinds := [.data, .data, .data, .data, .sentinel, .sentinel, .data, .pinned], laidTests := true, laidLooks := .later }
def PupilTurnsCardSaid : Prop := Claim7.holds Tryz.pinned (.plain (OpenSpec.ofChange pupilTurnsSpec)) pupilTurnsCard

/-- THE TIED CARD OF 'lensletlaw02.PupilCells'. -/
def pupilCellsCard : Claim7 := { stood := { row := pupilCellsRow, standIns := [], harness := (true, "e6db738cbd80e4bf5e3747850aea72224e4eabccccbbca9e7902f38c03e442da"), looks := true }, kinds := [], alts := [], laidByText := true, laidKinds := [.data, .data, .data, .data, .sentinel, .sentinel, .data, .pinned], laidTests := true, laidLooks := .later }
def PupilCellsCardSaid : Prop := Claim7.holds Tryz.pinned (.plain (OpenSpec.ofChange pupilCellsSpec)) pupilCellsCard

/-- THE TIED CARD OF 'lensletlaw02.PupilSums'. -/
def pupilSumsCard : Claim7 := { stood := { row := pupilSumsRow, standIns := [], harness := (true, "e6db738cbd80e4bf5e3747850aea72224e4eabccccbbca9e7902f38c03e442da"), looks := true }, kinds := [], alts := [], laidByText := true, laidKinds := [.data, .data, .data, .data, .sentinel, .sentinel, .data, .pinned], laidTests := true, laidLooks := .later }
def PupilSumsCardSaid : Prop := Claim7.holds Tryz.pinned (.plain (OpenSpec.ofChange pupilSumsSpec)) pupilSumsCard

/-- THE TIED CARD OF 'lensletlaw02.PupilFields'. -/
def pupilFieldsCard : Claim7 := { stood := { row := pupilFieldsRow, standIns := [], harness := (true, "e6db738cbd80e4bf5e3747850aea72224e4eabccccbbca9e7902f38c03e442da"), looks := true }, kinds := [], alts := [], laidByText := true, laidKinds := [.data, .data, .data, .data, .sentinel, .sentinel, .data, .pinned], laidTests := true, laidLooks := .later }
def PupilFieldsCardSaid : Prop := Claim7.holds Tryz.pinned (.plain (OpenSpec.ofChange pupilFieldsSpec)) pupilFieldsCard

/-- THE TIED CARD OF 'lensletlaw02.PupilExpands'. -/
def pupilExpandsCard : Claim7 := { stood := { row := pupilExpandsRow, standIns := [], harness := (true, "e6db738cbd80e4bf5e3747850aea72224e4eabccccbbca9e7902f38c03e442da"), looks := true }, kinds := [], alts := [], laidByText := true, laidKinds := [.data, .data, .data, .data, .sentinel, .sentinel, .data, .pinned], laidTests := true, laidLooks := .later }
def PupilExpandsCardSaid : Prop := Claim7.holds Tryz.pinned (.plain (OpenSpec.ofChange pupilExpandsSpec)) pupilExpandsCard

/-- THE SECOND FORM's CARD OF 'lensletlaw02.PupilModes'. -/
def pupilModesUptoCard : Claim7 := { stood := { row := pupilModesUptoRow, standIns := [], harness := (true, "e6db738cbd80e4bf5e3747850aea72224e4eabccccbbca9e7902f38c03e442da"), looks := true }, kinds := [], alts := [], laidByText := true, laidKinds := [.data, .data, .data, .data, .sentinel, .sentinel, .data, .pinned], laidTests := true, laidLooks := .later }
def PupilModesUptoCardSaid : Prop := Claim7.holds Tryz.pinned (.plain (OpenSpec.upto pupilModesSpec)) pupilModesUptoCard

/-- THE SECOND FORM's CARD OF 'lensletlaw02.PupilValues'. -/
def pupilValuesUptoCard : Claim7 := { stood := { row := pupilValuesUptoRow, standIns := [], harness := (true, "e6db738cbd80e4bf5e3747850aea72224e4eabccccbbca9e7902f38c03e442da"), looks := true }, kinds := [], alts := [], laidByText := true, laidKinds := [.data, .data, .data, .data, .sentinel, .sentinel, .data, .pinned], laidTests := true, laidLooks := .later }
def PupilValuesUptoCardSaid : Prop := Claim7.holds Tryz.pinned (.plain (OpenSpec.upto pupilValuesSpec)) pupilValuesUptoCard

/-- THE SECOND FORM's CARD OF 'lensletlaw02.PupilProducts'. -/
def pupilProductsUptoCard : Claim7 := { stood := { row := pupilProductsUptoRow, standIns := [], harness := (true, "e6db738cbd80e4bf5e3747850aea72224e4eabccccbbca9e7902f38c03e442da"), looks := true }, kinds := [], alts := [], laidByText := true, laidKinds := [.data, .data, .data, .data, .sentinel, .sentinel, .data, .pinned], laidTests := true, laidLooks := .later }
def PupilProductsUptoCardSaid : Prop := Claim7.holds Tryz.pinned (.plain (OpenSpec.upto pupilProductsSpec)) pupilProductsUptoCard

/-- THE SECOND FORM's CARD OF 'lensletlaw02.PupilSamples'. -/
def pupilSamplesUptoCard : Claim7 := { stood := { row := pupilSamplesUptoRow, standIns := [], harness := (true, "e6db738cbd80e4bf5e3747850aea72224e4eabccccbbca9e7902f38c03e442da"), looks := true }, kinds := [], alts := [], laidByText := true, laidKinds := [.data, .data, .data, .data, .sentinel, .sentinel, .data, .pinned], laidTests := true, laidLooks := .later }
def PupilSamplesUptoCardSaid : Prop := Claim7.holds Tryz.pinned (.plain (OpenSpec.upto pupilSamplesSpec)) pupilSamplesUptoCard

/-- THE SECOND FORM's CARD OF 'lensletlaw02.PupilBases'. -/
def pupilBasesUptoCard : Claim7 := { stood := { row := pupilBasesUptoRow, standIns := [], harness := (true, "e6db738cbd80e4bf5e3747850aea72224e4eabccccbbca9e7902f38c03e442da"), looks := true }, kinds := [], alts := [], laidByText := true, laidKinds := [.data, .data, .data, .data, .sentinel, .sentinel, .data, .pinned], laidTests := true, laidLooks := .later }
def PupilBasesUptoCardSaid : Prop := Claim7.holds Tryz.pinned (.plain (OpenSpec.upto pupilBasesSpec)) pupilBasesUptoCard

/-- THE SECOND FORM's CARD OF 'lensletlaw02.PupilMoments'. -/
def pupilMomentsUptoCard : Claim7 := { stood := { row := pupilMomentsUptoRow, standIns := [], harness := (true, "e6db738cbd80e4bf5e3747850aea72224e4eabccccbbca9e7902f38c03e442da"), looks := true }, kinds := [], alts := [], laidByText := true, laidKinds := [.data, .data, .data, .data, .sentinel, .sentinel, .data, .pinned], laidTests := true, laidLooks := .later }
def PupilMomentsUptoCardSaid : Prop := Claim7.holds Tryz.pinned (.plain (OpenSpec.upto pupilMomentsSpec)) pupilMomentsUptoCard

/-- THE SECOND FORM's CARD OF 'lensletlaw02.PupilDisc'. -/
def pupilDiscUptoCard : Claim7 := { stood := { row := pupilDiscUptoRow, standIns := [], harness := (true, "e6db738cbd80e4bf5e3747850aea72224e4eabccccbbca9e7902f38c03e442da"), looks := true }, kinds := [], alts := [], laidByText := true, laidKinds := [.data, .data, .data, .data, .sentinel, .sentinel, .data, .pinned], laidTests := true, laidLooks := .later }
def PupilDiscUptoCardSaid : Prop := Claim7.holds Tryz.pinned (.plain (OpenSpec.upto pupilDiscSpec)) pupilDiscUptoCard

/-- THE SECOND FORM's CARD OF 'lensletlaw02.PupilTilts'. -/
def pupilTiltsUptoCard : Claim7 := { stood := { row := pupilTiltsUptoRow, standIns := [], harness := (true, "e6db738cbd80e4bf5e3747850aea72224e4eabccccbbca9e7902f38c03e442da"), looks := true }, kinds := [], alts := [], laidByText := true, laidKinds := [.data, .data, .data, .data, .sentinel, .sentinel, .data, .pinned], laidTests := true, laidLooks := .later }
def PupilTiltsUptoCardSaid : Prop := Claim7.holds Tryz.pinned (.plain (OpenSpec.upto pupilTiltsSpec)) pupilTiltsUptoCard

/-- THE SECOND FORM's CARD OF 'lensletlaw02.PupilTurns'. -/
def pupilTurnsUptoCard : Claim7 := { stood := { row := pupilTurnsUptoRow, standIns := [], harness := (true, "e6db738cbd80e4bf5e3747850aea72224e4eabccccbbca9e7902f38c03e442da"), looks := true }, kinds := [], alts := [], laidByText := true, laidKinds := [.data, .data, .data, .data, .sentinel, .sentinel, .data, .pinned], laidTests := true, laidLooks := .later }
def PupilTurnsUptoCardSaid : Prop := Claim7.holds Tryz.pinned (.plain (OpenSpec.upto pupilTurnsSpec)) pupilTurnsUptoCard

/-- THE SECOND FORM's CARD OF 'lensletlaw02.PupilCells'. -/
def pupilCellsUptoCard : Claim7 := { stood := { row := pupilCellsUptoRow, standIns := [], harness := (true, "e6db738cbd80e4bf5e3747850aea72224e4eabccccbbca9e7902f38c03e442da"), looks := true }, kinds := [], alts := [], laidByText := true, laidKinds := [.data, .data, .data, .data, .sentinel, .sentinel, .data, .pinned], laidTests := true, laidLooks := .later }
def PupilCellsUptoCardSaid : Prop := Claim7.holds Tryz.pinned (.plain (OpenSpec.upto pupilCellsSpec)) pupilCellsUptoCard

/-- THE SECOND FORM's CARD OF 'lensletlaw02.PupilSums'. -/
def pupilSumsUptoCard : Claim7 := { stood := { row := pupilSumsUptoRow, standIns := [], harness := (true, "e6db738cbd80e4bf5e3747850aea72224e4eabccccbbca9e7902f38c03e442da"), looks := true }, kinds := [], alts := [], laidByText := true, laidKinds := [.data, .data, .data, .data, .sentinel, .sentinel, .data, .pinned], laidTests := true, laidLooks := .later }
def PupilSumsUptoCardSaid : Prop := Claim7.holds Tryz.pinned (.plain (OpenSpec.upto pupilSumsSpec)) pupilSumsUptoCard

/-- THE SECOND FORM's CARD OF 'lensletlaw02.PupilFields'. -/
def pupilFieldsUptoCard : Claim7 := { stood := { row := pupilFieldsUptoRow, standIns := [], harness := (true, "e6db738cbd80e4bf5e3747850aea72224e4eabccccbbca9e7902f38c03e442da"), looks := true }, kinds := [], alts := [], laidByText := true, laidKinds := [.data, .data, .data, .data, .sentinel, .sentinel, .data, .pinned], laidTests := true, laidLooks := .later }
def PupilFieldsUptoCardSaid : Prop := Claim7.holds Tryz.pinned (.plain (OpenSpec.upto pupilFieldsSpec)) pupilFieldsUptoCard

/-- THE SECOND FORM's CARD OF 'lensletlaw02.PupilExpands'. -/
def pupilExpandsUptoCard : Claim7 := { stood := { row := pupilExpandsUptoRow, standIns := [], harness := (true, "e6db738cbd80e4bf5e3747850aea72224e4eabccccbbca9e7902f38c03e442da"), looks := true }, kinds := [], alts := [], laidByText := true, laidKinds := [.data, .data, .data, .data, .sentinel, .sentinel, .data, .pinned], laidTests := true, laidLooks := .later }
def PupilExpandsUptoCardSaid : Prop := Claim7.holds Tryz.pinned (.plain (OpenSpec.upto pupilExpandsSpec)) pupilExpandsUptoCard
end Rows
end Go.Proofs.YthmgaldefkaglaaGreatDoor
