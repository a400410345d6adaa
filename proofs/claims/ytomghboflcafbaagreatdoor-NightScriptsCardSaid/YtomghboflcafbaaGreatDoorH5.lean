/- A part of the proof that NightScriptsCardSaid holds, without conditions. -/
import Derived.Test.YtomghboflcafbaaGreatDoorRows
import Derived.JoinedOf
import Derived.KernelRfl
set_option linter.unusedVariables false
set_option linter.unusedSimpArgs false
section
namespace Go.Lens.Tb
open Go.Proofs Go.Proofs.YtomghboflcafbaaGreatDoor
set_option linter.unusedSectionVars false
set_option maxRecDepth 100000
theorem ntName : Tryz.pinned.checked.prog.funcNamed Rows.nightScriptsRow.func = some 9 := by kernel_rfl
theorem and2 {a b : Bool} (h : a = true) (k : b = true) : (a && b) = true := by rw [h, k]; rfl
theorem ntC0 : (Rows.nightScriptsRow.wf (OpenSpec.ofChange Rows.nightScriptsSpec)) = true := by kernel_rfl
theorem ntC1 : (laidOutB Tryz.prog) = true := by kernel_rfl
theorem ntC2 : (mapsRowed Tryz.prog) = true := by kernel_rfl
theorem ntC3 : (Tryz.f9.params.all (Tryz.prog.readableRec ·)) = true := by kernel_rfl
theorem ntC4 : (namedTie Tryz.prog Rows.nightScriptsRow.named Rows.nightScriptsSpec.vars) = true := by kernel_rfl
theorem ntC5 : ((Rows.nightScriptsRow.stops == [])) = true := by kernel_rfl
theorem ntC6 : ((Tryz.prog.stops == [])) = true := by kernel_rfl
theorem ntC7 : ((Rows.nightScriptsRow.knobs == [])) = true := by kernel_rfl
theorem ntC8 : ((Tryz.prog.stopKnobs == [])) = true := by kernel_rfl
theorem ntC9 : ((Rows.nightScriptsRow.inPlace == Tryz.prog.inPlace 9)) = true := by kernel_rfl
theorem ntC10 : ((Rows.nightScriptsRow.unfollowed == Tryz.prog.unfollowed 9)) = true := by kernel_rfl
theorem ntC11 : ((Rows.nightScriptsRow.recurses == Tryz.prog.recurses 9)) = true := by kernel_rfl
theorem ntC12 : ((Rows.nightScriptsRow.named == Tryz.prog.varsNamed 9)) = true := by kernel_rfl
theorem ntC13 : ((Rows.nightScriptsRow.maps == (Tryz.f9.params.toList ++ Rows.nightScriptsSpec.plain.varTypes Tryz.prog).any (Tryz.prog.mapsRec ·))) = true := by kernel_rfl
theorem ntC14 : ((Rows.nightScriptsRow.ifaces == (Tryz.f9.params.toList ++ Rows.nightScriptsSpec.plain.varTypes Tryz.prog).any (Tryz.prog.ifacesRec ·))) = true := by kernel_rfl
theorem ntC15 : ((Rows.nightScriptsRow.mapsOut == Tryz.prog.mapsAmong Tryz.f9.resultTypes.toList)) = true := by kernel_rfl
theorem ntC16 : ((Rows.nightScriptsRow.loops == (Tryz.f9.params.toList ++ Rows.nightScriptsSpec.plain.varTypes Tryz.prog).any (Tryz.prog.loopsFrom ·))) = true := by kernel_rfl
theorem ntC17 : ((Rows.nightScriptsRow.wideKeys == (Tryz.f9.params.toList ++ Rows.nightScriptsSpec.plain.varTypes Tryz.prog ++ Tryz.f9.resultTypes.toList).any (Tryz.prog.wideKeysFrom ·))) = true := by kernel_rfl
theorem ntC18 : (Rows.nightScriptsSpec.vars.all (Tryz.prog.varReadable ·)) = true := by kernel_rfl
theorem ntC19 : (Tryz.f9.resultTypes.all (fun t => Tryz.prog.readableRec t && decide (t < Tryz.prog.types.size))) = true := by kernel_rfl
theorem ntC20 : ((Rows.nightScriptsRow.ifacesOut == Tryz.f9.resultTypes.toList.any (Tryz.prog.ifacesRec ·))) = true := by kernel_rfl
theorem ntC21 : ((Rows.nightScriptsRow.loopsOut == Tryz.f9.resultTypes.toList.any (Tryz.prog.loopsFrom ·))) = true := by kernel_rfl
theorem ntC22 : ((Rows.nightScriptsRow.plainKeys == Tryz.prog.plainKeys)) = true := by kernel_rfl
theorem ntC23 : (Rows.nightScriptsRow.shortTexts.isNone) = true := by kernel_rfl
theorem ntC24 : (Tryz.prog.stopsHeard) = true := by kernel_rfl
theorem ntC25 : (Tryz.prog.mayEnter) = true := by kernel_rfl
theorem ntC26 : ((Rows.nightScriptsRow.lifted == Tryz.prog.liftsFinal)) = true := by kernel_rfl
theorem ntC27 : ((Tryz.prog.make == some Rows.nightScriptsRow.make)) = true := by kernel_rfl
theorem ntC28 : ((Rows.nightScriptsRow.kinds == (if Rows.nightScriptsRow.domain.isEmpty then [] else Tryz.f9.params.toList.map fun t => match Tryz.prog.underlying t with | some (.int k) => some k | _ => none))) = true := by kernel_rfl
theorem ntC29 : ((Rows.nightScriptsRow.pinned == Rows.nightScriptsRow.pinnedBy)) = true := by kernel_rfl
theorem ntC30 : ((Rows.nightScriptsRow.veiled == (Tryz.f9.params.toList ++ Rows.nightScriptsSpec.plain.varTypes Tryz.prog ++ Tryz.f9.resultTypes.toList).any (Tryz.prog.veiledRec ·))) = true := by kernel_rfl
theorem ntC31 : (Rows.nightScriptsRow.veiledFits Tryz.prog Tryz.f9.params.toList (Tryz.f9.params.toList ++ Rows.nightScriptsSpec.plain.varTypes Tryz.prog ++ Tryz.f9.resultTypes.toList)) = true := by kernel_rfl
theorem ntClosed : joinedFacts Tryz.pinned.checked.prog 9 Tryz.f9 Rows.nightScriptsSpec Rows.nightScriptsRow = true := (and2 (and2 (and2 (and2 (and2 (and2 (and2 (and2 (and2 (and2 (and2 (and2 (and2 (and2 (and2 (and2 (and2 (and2 (and2 (and2 (and2 (and2 (and2 (and2 (and2 (and2 (and2 (and2 (and2 (and2 (and2 ntC0 ntC1) ntC2) ntC3) ntC4) ntC5) ntC6) ntC7) ntC8) ntC9) ntC10) ntC11) ntC12) ntC13) ntC14) ntC15) ntC16) ntC17) ntC18) ntC19) ntC20) ntC21) ntC22) ntC23) ntC24) ntC25) ntC26) ntC27) ntC28) ntC29) ntC30) ntC31)
end Go.Lens.Tb
end
