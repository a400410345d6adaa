/- A part of the proof that NightBestCardSaid holds, without conditions. -/
import Derived.Test.YtomghboflcafbaaGreatDoorRows
import Derived.JoinedOf
import Derived.KernelRfl
set_option linter.unusedVariables false
set_option linter.unusedSimpArgs false
section
namespace Go.Lens.Tb
open Go.Proofs Go.Proofs.YtomghboflcafbaaGreatDoor
set_option linter.unusedSectionVars false
set_option maxRecDepth 100000
theorem ntName : Tryz.pinned.checked.prog.funcNamed Rows.nightBestRow.func = some 7 := by kernel_rfl
theorem and2 {a b : Bool} (h : a = true) (k : b = true) : (a && b) = true := by rw [h, k]; rfl
theorem ntC0 : (Rows.nightBestRow.wf (OpenSpec.ofChange Rows.nightBestSpec)) = true := by kernel_rfl
theorem ntC1 : (laidOutB Tryz.prog) = true := by kernel_rfl
theorem ntC2 : (mapsRowed Tryz.prog) = true := by kernel_rfl
theorem ntC3 : (Tryz.f7.params.all (Tryz.prog.readableRec ·)) = true := by kernel_rfl
theorem ntC4 : (namedTie Tryz.prog Rows.nightBestRow.named Rows.nightBestSpec.vars) = true := by kernel_rfl
theorem ntC5 : ((Rows.nightBestRow.stops == [])) = true := by kernel_rfl
theorem ntC6 : ((Tryz.prog.stops == [])) = true := by kernel_rfl
theorem ntC7 : ((Rows.nightBestRow.knobs == [])) = true := by kernel_rfl
theorem ntC8 : ((Tryz.prog.stopKnobs == [])) = true := by kernel_rfl
theorem ntC9 : ((Rows.nightBestRow.inPlace == Tryz.prog.inPlace 7)) = true := by kernel_rfl
theorem ntC10 : ((Rows.nightBestRow.unfollowed == Tryz.prog.unfollowed 7)) = true := by kernel_rfl
theorem ntC11 : ((Rows.nightBestRow.recurses == Tryz.prog.recurses 7)) = true := by kernel_rfl
theorem ntC12 : ((Rows.nightBestRow.named == Tryz.prog.varsNamed 7)) = true := by kernel_rfl
theorem ntC13 : ((Rows.nightBestRow.maps == (Tryz.f7.params.toList ++ Rows.nightBestSpec.plain.varTypes Tryz.prog).any (Tryz.prog.mapsRec ·))) = true := by kernel_rfl
theorem ntC14 : ((Rows.nightBestRow.ifaces == (Tryz.f7.params.toList ++ Rows.nightBestSpec.plain.varTypes Tryz.prog).any (Tryz.prog.ifacesRec ·))) = true := by kernel_rfl
theorem ntC15 : ((Rows.nightBestRow.mapsOut == Tryz.prog.mapsAmong Tryz.f7.resultTypes.toList)) = true := by kernel_rfl
theorem ntC16 : ((Rows.nightBestRow.loops == (Tryz.f7.params.toList ++ Rows.nightBestSpec.plain.varTypes Tryz.prog).any (Tryz.prog.loopsFrom ·))) = true := by kernel_rfl
theorem ntC17 : ((Rows.nightBestRow.wideKeys == (Tryz.f7.params.toList ++ Rows.nightBestSpec.plain.varTypes Tryz.prog ++ Tryz.f7.resultTypes.toList).any (Tryz.prog.wideKeysFrom ·))) = true := by kernel_rfl
theorem ntC18 : (Rows.nightBestSpec.vars.all (Tryz.prog.varReadable ·)) = true := by kernel_rfl
theorem ntC19 : (Tryz.f7.resultTypes.all (fun t => Tryz.prog.readableRec t && decide (t < Tryz.prog.types.size))) = true := by kernel_rfl
theorem ntC20 : ((Rows.nightBestRow.ifacesOut == Tryz.f7.resultTypes.toList.any (Tryz.prog.ifacesRec ·))) = true := by kernel_rfl
theorem ntC21 : ((Rows.nightBestRow.loopsOut == Tryz.f7.resultTypes.toList.any (Tryz.prog.loopsFrom ·))) = true := by kernel_rfl
theorem ntC22 : ((Rows.nightBestRow.plainKeys == Tryz.prog.plainKeys)) = true := by kernel_rfl
theorem ntC23 : (Rows.nightBestRow.shortTexts.isNone) = true := by kernel_rfl
theorem ntC24 : (Tryz.prog.stopsHeard) = true := by kernel_rfl
theorem ntC25 : (Tryz.prog.mayEnter) = true := by kernel_rfl
theorem ntC26 : ((Rows.nightBestRow.lifted == Tryz.prog.liftsFinal)) = true := by kernel_rfl
theorem ntC27 : ((Tryz.prog.make == some Rows.nightBestRow.make)) = true := by kernel_rfl
theorem ntC28 : ((Rows.nightBestRow.kinds == (if Rows.nightBestRow.domain.isEmpty then [] else Tryz.f7.params.toList.map fun t => match Tryz.prog.underlying t with | some (.int k) => some k | _ => none))) = true := by kernel_rfl
theorem ntC29 : ((Rows.nightBestRow.pinned == Rows.nightBestRow.pinnedBy)) = true := by kernel_rfl
theorem ntC30 : ((Rows.nightBestRow.veiled == (Tryz.f7.params.toList ++ Rows.nightBestSpec.plain.varTypes Tryz.prog ++ Tryz.f7.resultTypes.toList).any (Tryz.prog.veiledRec ·))) = true := by kernel_rfl
theorem ntC31 : (Rows.nightBestRow.veiledFits Tryz.prog Tryz.f7.params.toList (Tryz.f7.params.toList ++ Rows.nightBestSpec.plain.varTypes Tryz.prog ++ Tryz.f7.resultTypes.toList)) = true := by kernel_rfl
theorem ntClosed : joinedFacts Tryz.pinned.checked.prog 7 Tryz.f7 Rows.nightBestSpec Rows.nightBestRow = true := (and2 (and2 (and2 (and2 (and2 (and2 (and2 (and2 (and2 (and2 (and2 (and2 (and2 (and2 (and2 (and2 (and2 (and2 (and2 (and2 (and2 (and2 (and2 (and2 (and2 (and2 (and2 (and2 (and2 (and2 (and2 ntC0 ntC1) ntC2) ntC3) ntC4) ntC5) ntC6) ntC7) ntC8) ntC9) ntC10) ntC11) ntC12) ntC13) ntC14) ntC15) ntC16) ntC17) ntC18) ntC19) ntC20) ntC21) ntC22) ntC23) ntC24) ntC25) ntC26) ntC27) ntC28) ntC29) ntC30) ntC31)
end Go.Lens.Tb
end
