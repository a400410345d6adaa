/-
  DERIVED. GIVEN WITH THE SEED: THE CARDS: each row of YtomghboflcafbaaGreatDoorRows.lean that lists a variable, with what it lists TIED to the program's text (the seventh form; the later family's looks); each row that meets fmt, with fmt's text TOLD by the authors' own Lean function (tested against real Go, not proved from fmt's source: count such statements apart). THE CARD IS WHAT COUNTS. Prove the row's statement (the work); the ties are given (YtomghboflcafbaaGreatDoorTie.lean); close each card by the builder's one call (the guide's Derived/Test/ToyasCard.lean, 'card_holds'). Laid BY PROGRAM, IN A SANDBOX (cutbox-door.mjs). By AI agents, Wed Nov 11 2026. No macro, syntax, notation, axiom, sorry.
-/
import Derived.Test.YtomghboflcafbaaGreatDoorRows
import GoSem.ClaimSeven
namespace Go.Proofs.YtomghboflcafbaaGreatDoor
namespace Rows

/-- THE TIED CARD OF 'lensletlaw10.NightTimes'. -/
def nightTimesCard : Claim7 := { stood := { row := nightTimesRow, standIns := [], harness := (true, "9f793f4d541afdd3266aa47584d3581d66323a8eaf31e79c172e2d43677d94bd"), looks := true }, kinds := [], alts := [], laidByText := true, laidKinds := [.data, .data, .data, .data, .sentinel, .sentinel, .pinned], laidTests := true, laidLooks := .later }
def NightTimesCardSaid : Prop := Claim7.holds Tryz.pinned (.plain (OpenSpec.ofChange nightTimesSpec)) nightTimesCard

/-- THE TIED CARD OF 'lensletlaw10.NightPlans'. -/
def nightPlansCard : Claim7 := { stood := { row := nightPlansRow, standIns := [], harness := (true, "9f793f4d541afdd3266aa47584d3581d66323a8eaf31e79c172e2d43677d94bd"), looks := true }, kinds := [], alts := [], laidByText := true, laidKinds := [.data, .data, .data, .data, .sentinel, .sentinel, .pinned], laidTests := true, laidLooks := .later }
def NightPlansCardSaid : Prop := Claim7.holds Tryz.pinned (.plain (OpenSpec.ofChange nightPlansSpec)) nightPlansCard

/-- THE TIED CARD OF 'lensletlaw10.NightFields'. -/
def nightFieldsCard : Claim7 := { stood := { row := nightFieldsRow, standIns := [], harness := (true, "9f793f4d541afdd3266aa47584d3581d66323a8eaf31e79c172e2d43677d94bd"), looks := true }, kinds := [], alts := [], laidByText := true, laidKinds := [.data, .data, .data, .data, .sentinel, .sentinel, .pinned], laidTests := true, laidLooks := .later }
def NightFieldsCardSaid : Prop := Claim7.holds Tryz.pinned (.plain (OpenSpec.ofChange nightFieldsSpec)) nightFieldsCard

/-- THE TIED CARD OF 'lensletlaw10.NightRuns'. -/
def nightRunsCard : Claim7 := { stood := { row := nightRunsRow, standIns := [], harness := (true, "9f793f4d541afdd3266aa47584d3581d66323a8eaf31e79c172e2d43677d94bd"), looks := true }, kinds := [], alts := [], laidByText := true, laidKinds := [.data, .data, .data, .data, .sentinel, .sentinel, .pinned], laidTests := true, laidLooks := .later }
def NightRunsCardSaid : Prop := Claim7.holds Tryz.pinned (.plain (OpenSpec.ofChange nightRunsSpec)) nightRunsCard

/-- THE TIED CARD OF 'lensletlaw10.NightBest'. -/
def nightBestCard : Claim7 := { stood := { row := nightBestRow, standIns := [], harness := (true, "9f793f4d541afdd3266aa47584d3581d66323a8eaf31e79c172e2d43677d94bd"), looks := true }, kinds := [], alts := [], laidByText := true, laidKinds := [.data, .data, .data, .data, .sentinel, .sentinel, .pinned], laidTests := true, laidLooks := .later }
def NightBestCardSaid : Prop := Claim7.holds Tryz.pinned (.plain (OpenSpec.ofChange nightBestSpec)) nightBestCard

/-- THE TIED CARD OF 'lensletlaw10.NightKeeps'. -/
def nightKeepsCard : Claim7 := { stood := { row := nightKeepsRow, standIns := [], harness := (true, "9f793f4d541afdd3266aa47584d3581d66323a8eaf31e79c172e2d43677d94bd"), looks := true }, kinds := [], alts := [], laidByText := true, laidKinds := [.data, .data, .data, .data, .sentinel, .sentinel, .pinned], laidTests := true, laidLooks := .later }
def NightKeepsCardSaid : Prop := Claim7.holds Tryz.pinned (.plain (OpenSpec.ofChange nightKeepsSpec)) nightKeepsCard

/-- THE TIED CARD OF 'lensletlaw10.NightScripts'. -/
def nightScriptsCard : Claim7 := { stood := { row := nightScriptsRow, standIns := [], harness := (true, "9f793f4d541afdd3266aa47584d3581d66323a8eaf31e79c172e2d43677d94bd"), looks := true }, kinds := [], alts := [], laidByText := true, laidKinds := [.data, .data, .data, .data, .sentinel, .sentinel, .pinned], laidTests := true, laidLooks := .later }
def NightScriptsCardSaid : Prop := Claim7.holds Tryz.pinned (.plain (OpenSpec.ofChange nightScriptsSpec)) nightScriptsCard

/-- THE TIED CARD OF 'lensletlaw10.NightParts'. -/
def nightPartsCard : Claim7 := { stood := { row := nightPartsRow, standIns := [], harness := (true, "9f793f4d541afdd3266aa47584d3581d66323a8eaf31e79c172e2d43677d94bd"), looks := true }, kinds := [], alts := [], laidByText := true, laidKinds := [.data, .data, .data, .data, .sentinel, .sentinel, .pinned], laidTests := true, laidLooks := .later }
def NightPartsCardSaid : Prop := Claim7.holds Tryz.pinned (.plain (OpenSpec.ofChange nightPartsSpec)) nightPartsCard

/-- THE TIED CARD OF 'lensletlaw10.NightLogs'. -/
def nightLogsCard : Claim7 := { stood := { row := nightLogsRow, standIns := [], harness := (true, "9f793f4d541afdd3266aa47584d3581d66323a8eaf31e79c172e2d43677d94bd"), looks := true }, kinds := [], alts := [], laidByText := true, laidKinds := [.data, .data, .data, .data, .sentinel, .sentinel, .pinned], laidTests := true, laidLooks := .later }
def NightLogsCardSaid : Prop := Claim7.holds Tryz.pinned (.plain (OpenSpec.ofChange nightLogsSpec)) nightLogsCard

/-- THE TIED CARD OF 'lensletlaw10.NightSessions'. -/
def nightSessionsCard : Claim7 := { stood := { row := nightSessionsRow, standIns := [], harness := (true, "9f793f4d541afdd3266aa47584d3581d66323a8eaf31e79c172e2d43677d94bd"), looks := true }, kinds := [], alts := [], laidByText := true, laidKinds := [.data, .data, .data, .data, .sentinel, .sentinel, .pinned], laidTests := true, laidLooks := .later }
def NightSessionsCardSaid : Prop := Claim7.holds Tryz.pinned (.plain (OpenSpec.ofChange nightSessionsSpec)) nightSessionsCard

/-- THE TIED CARD OF 'lensletlaw10.NightTorn'. -/
def nightTornCard : Claim7 := { stood := { row := nightTornRow, standIns := [], harness := (true, "9f793f4d541afdd3266aa47584d3581d66323a8eaf31e79c172e2d43677d94bd"), looks := true }, kinds := [], alts := [], laidByText := true, laidKinds := [.data, .data, .data, .data, .sentinel, .sentinel, .pinned], laidTests := true, laidLooks := .later }
def NightTornCardSaid : Prop := Claim7.holds Tryz.pinned (.plain (OpenSpec.ofChange nightTornSpec)) nightTornCard

/-- THE TIED CARD OF 'lensletlaw10.NightEvents'. -/
def nightEventsCard : Claim7 := { stood := { row := nightEventsRow, standIns := [], harness := (true, "9f793f4d541afdd3266aa47584d3581d66323a8eaf31e79c172e2d43677d94bd"), looks := true }, kinds := [], alts := [], laidByText := true, laidKinds := [.data, .data, .data, .data, .sentinel, .sentinel, .pinned], laidTests := true, laidLooks := .later }
def NightEventsCardSaid : Prop := Claim7.holds Tryz.pinned (.plain (OpenSpec.ofChange nightEventsSpec)) nightEventsCard

/-- THE TIED CARD OF 'lensletlaw10.NightSafe'. -/
def nightSafeCard : Claim7 := { stood := { row := nightSafeRow, standIns := [], harness := (true, "9f793f4d541afdd3266aa47584d3581d66323a8eaf31e79c172e2d43677d94bd"), looks := true }, kinds := [], alts := [], laidByText := true, laidKinds := [.data, .data, .data, .data, .sentinel, .sentinel, .pinned], laidTests := true, laidLooks := .later }
def NightSafeCardSaid : Prop := Claim7.holds Tryz.pinned (.plain (OpenSpec.ofChange nightSafeSpec)) nightSafeCard

/-- THE SECOND FORM's CARD OF 'lensletlaw10.NightTimes'. -/
def nightTimesUptoCard : Claim7 := { stood := { row := nightTimesUptoRow, standIns := [], harness := (true, "9f793f4d541afdd3266aa47584d3581d66323a8eaf31e79c172e2d43677d94bd"), looks := true }, kinds := [], alts := [], laidByText := true, laidKinds := [.data, .data, .data, .data, .sentinel, .sentinel, .pinned], laidTests := true, laidLooks := .later }
def NightTimesUptoCardSaid : Prop := Claim7.holds Tryz.pinned (.plain (OpenSpec.upto nightTimesSpec)) nightTimesUptoCard

/-- THE SECOND FORM's CARD OF 'lensletlaw10.NightPlans'. -/
def nightPlansUptoCard : Claim7 := { stood := { row := nightPlansUptoRow, standIns := [], harness := (true, "9f793f4d541afdd3266aa47584d3581d66323a8eaf31e79c172e2d43677d94bd"), looks := true }, kinds := [], alts := [], laidByText := true, laidKinds := [.data, .data, .data, .data, .sentinel, .sentinel, .pinned], laidTests := true, laidLooks := .later }
def NightPlansUptoCardSaid : Prop := Claim7.holds Tryz.pinned (.plain (OpenSpec.upto nightPlansSpec)) nightPlansUptoCard

/-- THE SECOND FORM's CARD OF 'lensletlaw10.NightFields'. -/
def nightFieldsUptoCard : Claim7 := { stood := { row := nightFieldsUptoRow, standIns := [], harness := (true, "9f793f4d541afdd3266aa47584d3581d66323a8eaf31e79c172e2d43677d94bd"), looks := true }, kinds := [], alts := [], laidByText := true, laidKinds := [.data, .data, .data, .data, .sentinel, .sentinel, .pinned], laidTests := true, laidLooks := .later }
def NightFieldsUptoCardSaid : Prop := Claim7.holds Tryz.pinned (.plain (OpenSpec.upto nightFieldsSpec)) nightFieldsUptoCard

/-- THE SECOND FORM's CARD OF 'lensletlaw10.NightRuns'. -/
def nightRunsUptoCard : Claim7 := { stood := { row := nightRunsUptoRow, standIns := [], harness := (true, "9f793f4d541afdd3266aa47584d3581d66323a8eaf31e79c172e2d43677d94bd"), looks := true }, kinds := [], alts := [], laidByText := true, laidKinds := [.data, .data, .data, .data, .sentinel, .sentinel, .pinned], laidTests := true, laidLooks := .later }
def NightRunsUptoCardSaid : Prop := Claim7.holds Tryz.pinned (.plain (OpenSpec.upto nightRunsSpec)) nightRunsUptoCard

/-- THE SECOND FORM's CARD OF 'lensletlaw10.NightBest'. -/
def nightBestUptoCard : Claim7 := { stood := { row := nightBestUptoRow, standIns := [], harness := (true, "9f793f4d541afdd3266aa47584d3581d66323a8eaf31e79c172e2d43677d94bd"), looks := true }, kinds := [], alts := [], laidByText := true, laidKinds := [.data, .data, .data, .data, .sentinel, .sentinel, .pinned], laidTests := true, laidLooks := .later }
def NightBestUptoCardSaid : Prop := Claim7.holds Tryz.pinned (.plain (OpenSpec.upto nightBestSpec)) nightBestUptoCard

/-- THE SECOND FORM's CARD OF 'lensletlaw10.NightKeeps'. -/
def nightKeepsUptoCard : Claim7 := { stood := { row := nightKeepsUptoRow, standIns := [], harness := (true, "9f793f4d541afdd3266aa47584d3581d66323a8eaf31e79c172e2d43677d94bd"), looks := true }, kinds := [], alts := [], laidByText := true, laidKinds := [.data, .data, .data, .data, .sentinel, .sentinel, .pinned], laidTests := true, laidLooks := .later }
def NightKeepsUptoCardSaid : Prop := Claim7.holds Tryz.pinned (.plain (OpenSpec.upto nightKeepsSpec)) nightKeepsUptoCard

/-- THE SECOND FORM's CARD OF 'lensletlaw10.NightScripts'. -/
def nightScriptsUptoCard : Claim7 := { stood := { row := nightScriptsUptoRow, standIns := [], harness := (true, "9f793f4d541afdd3266aa47584d3581d66323a8eaf31e79c172e2d43677d94bd"), looks := true }, kinds := [], alts := [], laidByText := true, laidKinds := [.data, .data, .data, .data, .sentinel, .sentinel, .pinned], laidTests := true, laidLooks := .later }
def NightScriptsUptoCardSaid : Prop := Claim7.holds Tryz.pinned (.plain (OpenSpec.upto nightScriptsSpec)) nightScriptsUptoCard

/-- THE SECOND FORM's CARD OF 'lensletlaw10.NightParts'. -/
def nightPartsUptoCard : Claim7 := { stood := { row := nightPartsUptoRow, standIns := [], harness := (true, "9f793f4d541afdd3266aa47584d3581d66323a8eaf31e79c172e2d43677d94bd"), looks := true }, kinds := [], alts := [], laidByText := true, laidKinds := [.data, .data, .data, .data, .sentinel, .sentinel, .pinned], laidTests := true, laidLooks := .later }
def NightPartsUptoCardSaid : Prop := Claim7.holds Tryz.pinned (.plain (OpenSpec.upto nightPartsSpec)) nightPartsUptoCard

/-- THE SECOND FORM's CARD OF 'lensletlaw10.NightLogs'. -/
def nightLogsUptoCard : Claim7 := { stood := { row := nightLogsUptoRow, standIns := [], harness := (true, "9f793f4d541afdd3266aa47584d3581d66323a8eaf31e79c172e2d43677d94bd"), looks := true }, kinds := [], alts := [], laidByText := true, laidKinds := [.data, .data, .data, .data, .sentinel, .sentinel, .pinned], laidTests := true, laidLooks := .later }
def NightLogsUptoCardSaid : Prop := Claim7.holds Tryz.pinned (.plain (OpenSpec.upto nightLogsSpec)) nightLogsUptoCard

/-- THE SECOND FORM's CARD OF 'lensletlaw10.NightSessions'. -/
def nightSessionsUptoCard : Claim7 := { stood := { row := nightSessionsUptoRow, standIns := [], harness := (true, "9f793f4d541afdd3266aa47584d3581d66323a8eaf31e79c172e2d43677d94bd"), looks := true }, kinds := [], alts := [], laidByText := true, laidKinds := [.data, .data, .data, .data, .sentinel, .sentinel, .pinned], laidTests := true, laidLooks := .later }
def NightSessionsUptoCardSaid : Prop := Claim7.holds Tryz.pinned (.plain (OpenSpec.upto nightSessionsSpec)) nightSessionsUptoCard

/-- THE SECOND FORM's CARD OF 'lensletlaw10.NightTorn'. -/
def nightTornUptoCard : Claim7 := { stood := { row := nightTornUptoRow, standIns := [], harness := (true, "9f793f4d541afdd3266aa47584d3581d66323a8eaf31e79c172e2d43677d94bd"), looks := true }, kinds := [], alts := [], laidByText := true, laidKinds := [.data, .data, .data, .data, .sentinel, .sentinel, .pinned], laidTests := true, laidLooks := .later }
def NightTornUptoCardSaid : Prop := Claim7.holds Tryz.pinned (.plain (OpenSpec.upto nightTornSpec)) nightTornUptoCard

/-- THE SECOND FORM's CARD OF 'lensletlaw10.NightEvents'. -/
def nightEventsUptoCard : Claim7 := { stood := { row := nightEventsUptoRow, standIns := [], harness := (true, "9f793f4d541afdd3266aa47584d3581d66323a8eaf31e79c172e2d43677d94bd"), looks := true }, kinds := [], alts := [], laidByText := true, laidKinds := [.data, .data, .data, .data, .sentinel, .sentinel, .pinned], laidTests := true, laidLooks := .later }
def NightEventsUptoCardSaid : Prop := Claim7.holds Tryz.pinned (.plain (OpenSpec.upto nightEventsSpec)) nightEventsUptoCard

/-- THE SECOND FORM's CARD OF 'lensletlaw10.NightSafe'. -/
def nightSafeUptoCard : Claim7 := { stood := { row := nightSafeUptoRow, standIns := [], harness := (true, "9f793f4d541afdd3266aa47584d3581d66323a8eaf31e79c172e2d43677d94bd"), looks := true }, kinds := [], alts := [], laidByText := true, laidKinds := [.data, .data, .data, .data, .sentinel, .sentinel, .pinned], laidTests := true, laidLooks := .later }
def NightSafeUptoCardSaid : Prop := Claim7.holds Tryz.pinned (.plain (OpenSpec.upto nightSafeSpec)) nightSafeUptoCard
end Rows
end Go.Proofs.YtomghboflcafbaaGreatDoor
