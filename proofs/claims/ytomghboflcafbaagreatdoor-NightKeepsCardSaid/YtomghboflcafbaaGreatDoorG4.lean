/- A part of the proof that NightKeepsCardSaid holds, without conditions. -/
import Derived.Test.YtomghboflcafbaaGreatDoorRows
import Derived.JoinedOf
import Derived.KernelRfl
set_option linter.unusedVariables false
set_option linter.unusedSimpArgs false
section
namespace Go.Lens.Tb
open Go.Proofs Go.Proofs.YtomghboflcafbaaGreatDoor
set_option linter.unusedSectionVars false
set_option maxRecDepth 100000
theorem ntName : Tryz.pinned.checked.prog.funcNamed Rows.nightKeepsRow.func = some 8 := by kernel_rfl
theorem and2 {a b : Bool} (h : a = true) (k : b = true) : (a && b) = true := by rw [h, k]; rfl
theorem ntC0 : (Rows.nightKeepsRow.wf (OpenSpec.ofChange Rows.nightKeepsSpec)) = true := by kernel_rfl
theorem ntC1 : (laidOutB Tryz.prog) = true := by kernel_rfl
theorem ntC2 : (mapsRowed Tryz.prog) = true := by kernel_rfl
theorem ntC3 : (Tryz.f8.params.all (Tryz.prog.readableRec ·)) = true := by kernel_rfl
theorem ntC4 : (namedTie Tryz.prog Rows.nightKeepsRow.named Rows.nightKeepsSpec.vars) = true := by kernel_rfl
theorem ntC5 : ((Rows.nightKeepsRow.stops == [])) = true := by kernel_rfl
theorem ntC6 : ((Tryz.prog.stops == [])) = true := by kernel_rfl
theorem ntC7 : ((Rows.nightKeepsRow.knobs == [])) = true := by kernel_rfl
theorem ntC8 : ((Tryz.prog.stopKnobs == [])) = true := by kernel_rfl
theorem ntC9 : ((Rows.nightKeepsRow.inPlace == Tryz.prog.inPlace 8)) = true := by kernel_rfl
theorem ntC10 : ((Rows.nightKeepsRow.unfollowed == Tryz.prog.unfollowed 8)) = true := by kernel_rfl
theorem ntC11 : ((Rows.nightKeepsRow.recurses == Tryz.prog.recurses 8)) = true := by kernel_rfl
theorem ntC12 : ((Rows.nightKeepsRow.named == Tryz.prog.varsNamed 8)) = true := by kernel_rfl
theorem ntC13 : ((Rows.nightKeepsRow.maps == (Tryz.f8.params.toList ++ Rows.nightKeepsSpec.plain.varTypes Tryz.prog).any (Tryz.prog.mapsRec ·))) = true := by kernel_rfl
theorem ntC14 : ((Rows.nightKeepsRow.ifaces == (Tryz.f8.params.toList ++ Rows.nightKeepsSpec.plain.varTypes Tryz.prog).any (Tryz.prog.ifacesRec ·))) = true := by kernel_rfl
theorem ntC15 : ((Rows.nightKeepsRow.mapsOut == Tryz.prog.mapsAmong Tryz.f8.resultTypes.toList)) = true := by kernel_rfl
theorem ntC16 : ((Rows.nightKeepsRow.loops == (Tryz.f8.params.toList ++ Rows.nightKeepsSpec.plain.varTypes Tryz.prog).any (Tryz.prog.loopsFrom ·))) = true := by kernel_rfl
theorem ntC17 : ((Rows.nightKeepsRow.wideKeys == (Tryz.f8.params.toList ++ Rows.nightKeepsSpec.plain.varTypes Tryz.prog ++ Tryz.f8.resultTypes.toList).any (Tryz.prog.wideKeysFrom ·))) = true := by kernel_rfl
theorem ntC18 : (Rows.nightKeepsSpec.vars.all (Tryz.prog.varReadable ·)) = true := by kernel_rfl
theorem ntC19 : (Tryz.f8.resultTypes.all (fun t => Tryz.prog.readableRec t && decide (t < Tryz.prog.types.size))) = true := by kernel_rfl
theorem ntC20 : ((Rows.nightKeepsRow.ifacesOut == Tryz.f8.resultTypes.toList.any (Tryz.prog.ifacesRec ·))) = true := by kernel_rfl
theorem ntC21 : ((Rows.nightKeepsRow.loopsOut == Tryz.f8.resultTypes.toList.any (Tryz.prog.loopsFrom ·))) = true := by kernel_rfl
theorem ntC22 : ((Rows.nightKeepsRow.plainKeys == Tryz.prog.plainKeys)) = true := by kernel_rfl
theorem ntC23 : (Rows.nightKeepsRow.shortTexts.isNone) = true := by kernel_rfl
theorem ntC24 : (Tryz.prog.stopsHeard) = true := by kernel_rfl
theorem ntC25 : (Tryz.prog.mayEnter) = true := by kernel_rfl
theorem ntC26 : ((Rows.nightKeepsRow.lifted == Tryz.prog.liftsFinal)) = true := by kernel_rfl
theorem ntC27 : ((Tryz.prog.make == some Rows.nightKeepsRow.make)) = true := by kernel_rfl
theorem ntC28 : ((Rows.nightKeepsRow.kinds == (if Rows.nightKeepsRow.domain.isEmpty then [] else Tryz.f8.params.toList.map fun t => match Tryz.prog.underlying t with | some (.int k) => some k | _ => none))) = true := by kernel_rfl
theorem ntC29 : ((Rows.nightKeepsRow.pinned == Rows.nightKeepsRow.pinnedBy)) = true := by kernel_rfl
theorem ntC30 : ((Rows.nightKeepsRow.veiled == (Tryz.f8.params.toList ++ Rows.nightKeepsSpec.plain.varTypes Tryz.prog ++ Tryz.f8.resultTypes.toList).any (Tryz.prog.veiledRec ·))) = true := by kernel_rfl
theorem ntC31 : (Rows.nightKeepsRow.veiledFits Tryz.prog Tryz.f8.params.toList (Tryz.f8.params.toList ++ Rows.nightKeepsSpec.plain.varTypes Tryz.prog ++ Tryz.f8.resultTypes.toList)) = true := by kernel_rfl
theorem ntClosed : joinedFacts Tryz.pinned.checked.prog 8 Tryz.f8 Rows.nightKeepsSpec Rows.nightKeepsRow = true := (and2 (and2 (and2 (and2 (and2 (and2 (and2 (and2 (and2 (and2 (and2 (and2 (and2 (and2 (and2 (and2 (and2 (and2 (and2 (and2 (and2 (and2 (and2 (and2 (and2 (and2 (and2 (and2 (and2 (and2 (and2 ntC0 ntC1) ntC2) ntC3) ntC4) ntC5) ntC6) ntC7) ntC8) ntC9) ntC10) ntC11) ntC12) ntC13) ntC14) ntC15) ntC16) ntC17) ntC18) ntC19) ntC20) ntC21) ntC22) ntC23) ntC24) ntC25) ntC26) ntC27) ntC28) ntC29) ntC30) ntC31)
end Go.Lens.Tb
end
