/- A part of the proof that NightPartsCardSaid holds, without conditions. -/
import Derived.Test.YtomghboflcafbaaGreatDoorRows
import Derived.JoinedOf
import Derived.KernelRfl
set_option linter.unusedVariables false
set_option linter.unusedSimpArgs false
section
namespace Go.Lens.Tb
open Go.Proofs Go.Proofs.YtomghboflcafbaaGreatDoor
set_option linter.unusedSectionVars false
set_option maxRecDepth 100000
theorem ntName : Tryz.pinned.checked.prog.funcNamed Rows.nightPartsRow.func = some 10 := by kernel_rfl
theorem and2 {a b : Bool} (h : a = true) (k : b = true) : (a && b) = true := by rw [h, k]; rfl
theorem ntC0 : (Rows.nightPartsRow.wf (OpenSpec.ofChange Rows.nightPartsSpec)) = true := by kernel_rfl
theorem ntC1 : (laidOutB Tryz.prog) = true := by kernel_rfl
theorem ntC2 : (mapsRowed Tryz.prog) = true := by kernel_rfl
theorem ntC3 : (Tryz.f10.params.all (Tryz.prog.readableRec ·)) = true := by kernel_rfl
theorem ntC4 : (namedTie Tryz.prog Rows.nightPartsRow.named Rows.nightPartsSpec.vars) = true := by kernel_rfl
theorem ntC5 : ((Rows.nightPartsRow.stops == [])) = true := by kernel_rfl
theorem ntC6 : ((Tryz.prog.stops == [])) = true := by kernel_rfl
theorem ntC7 : ((Rows.nightPartsRow.knobs == [])) = true := by kernel_rfl
theorem ntC8 : ((Tryz.prog.stopKnobs == [])) = true := by kernel_rfl
theorem ntC9 : ((Rows.nightPartsRow.inPlace == Tryz.prog.inPlace 10)) = true := by kernel_rfl
theorem ntC10 : ((Rows.nightPartsRow.unfollowed == Tryz.prog.unfollowed 10)) = true := by kernel_rfl
theorem ntC11 : ((Rows.nightPartsRow.recurses == Tryz.prog.recurses 10)) = true := by kernel_rfl
theorem ntC12 : ((Rows.nightPartsRow.named == Tryz.prog.varsNamed 10)) = true := by kernel_rfl
theorem ntC13 : ((Rows.nightPartsRow.maps == (Tryz.f10.params.toList ++ Rows.nightPartsSpec.plain.varTypes Tryz.prog).any (Tryz.prog.mapsRec ·))) = true := by kernel_rfl
theorem ntC14 : ((Rows.nightPartsRow.ifaces == (Tryz.f10.params.toList ++ Rows.nightPartsSpec.plain.varTypes Tryz.prog).any (Tryz.prog.ifacesRec ·))) = true := by kernel_rfl
theorem ntC15 : ((Rows.nightPartsRow.mapsOut == Tryz.prog.mapsAmong Tryz.f10.resultTypes.toList)) = true := by kernel_rfl
theorem ntC16 : ((Rows.nightPartsRow.loops == (Tryz.f10.params.toList ++ Rows.nightPartsSpec.plain.varTypes Tryz.prog).any (Tryz.prog.loopsFrom ·))) = true := by kernel_rfl
theorem ntC17 : ((Rows.nightPartsRow.wideKeys == (Tryz.f10.params.toList ++ Rows.nightPartsSpec.plain.varTypes Tryz.prog ++ Tryz.f10.resultTypes.toList).any (Tryz.prog.wideKeysFrom ·))) = true := by kernel_rfl
theorem ntC18 : (Rows.nightPartsSpec.vars.all (Tryz.prog.varReadable ·)) = true := by kernel_rfl
theorem ntC19 : (Tryz.f10.resultTypes.all (fun t => Tryz.prog.readableRec t && decide (t < Tryz.prog.types.size))) = true := by kernel_rfl
theorem ntC20 : ((Rows.nightPartsRow.ifacesOut == Tryz.f10.resultTypes.toList.any (Tryz.prog.ifacesRec ·))) = true := by kernel_rfl
theorem ntC21 : ((Rows.nightPartsRow.loopsOut == Tryz.f10.resultTypes.toList.any (Tryz.prog.loopsFrom ·))) = true := by kernel_rfl
theorem ntC22 : ((Rows.nightPartsRow.plainKeys == Tryz.prog.plainKeys)) = true := by kernel_rfl
theorem ntC23 : (Rows.nightPartsRow.shortTexts.isNone) = true := by kernel_rfl
theorem ntC24 : (Tryz.prog.stopsHeard) = true := by kernel_rfl
theorem ntC25 : (Tryz.prog.mayEnter) = true := by kernel_rfl
theorem ntC26 : ((Rows.nightPartsRow.lifted == Tryz.prog.liftsFinal)) = true := by kernel_rfl
theorem ntC27 : ((Tryz.prog.make == some Rows.nightPartsRow.make)) = true := by kernel_rfl
theorem ntC28 : ((Rows.nightPartsRow.kinds == (if Rows.nightPartsRow.domain.isEmpty then [] else Tryz.f10.params.toList.map fun t => match Tryz.prog.underlying t with | some (.int k) => some k | _ => none))) = true := by kernel_rfl
theorem ntC29 : ((Rows.nightPartsRow.pinned == Rows.nightPartsRow.pinnedBy)) = true := by kernel_rfl
theorem ntC30 : ((Rows.nightPartsRow.veiled == (Tryz.f10.params.toList ++ Rows.nightPartsSpec.plain.varTypes Tryz.prog ++ Tryz.f10.resultTypes.toList).any (Tryz.prog.veiledRec ·))) = true := by kernel_rfl
theorem ntC31 : (Rows.nightPartsRow.veiledFits Tryz.prog Tryz.f10.params.toList (Tryz.f10.params.toList ++ Rows.nightPartsSpec.plain.varTypes Tryz.prog ++ Tryz.f10.resultTypes.toList)) = true := by kernel_rfl
theorem ntClosed : joinedFacts Tryz.pinned.checked.prog 10 Tryz.f10 Rows.nightPartsSpec Rows.nightPartsRow = true := (and2 (and2 (and2 (and2 (and2 (and2 (and2 (and2 (and2 (and2 (and2 (and2 (and2 (and2 (and2 (and2 (and2 (and2 (and2 (and2 (and2 (and2 (and2 (and2 (and2 (and2 (and2 (and2 (and2 (and2 (and2 ntC0 ntC1) ntC2) ntC3) ntC4) ntC5) ntC6) ntC7) ntC8) ntC9) ntC10) ntC11) ntC12) ntC13) ntC14) ntC15) ntC16) ntC17) ntC18) ntC19) ntC20) ntC21) ntC22) ntC23) ntC24) ntC25) ntC26) ntC27) ntC28) ntC29) ntC30) ntC31)
end Go.Lens.Tb
end
