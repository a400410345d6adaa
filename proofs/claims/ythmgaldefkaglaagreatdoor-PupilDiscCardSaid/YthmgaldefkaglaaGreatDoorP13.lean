/- A part of the proof of PupilDiscCardSaid, without conditions. -/
import Derived.Test.YthmgaldefkaglaaGreatDoorP1
import Derived.Test.YthmgaldefkaglaaGreatDoorRows
import Derived.JoinedOf
import Derived.KernelRfl
set_option linter.unusedVariables false
set_option linter.unusedSimpArgs false
set_option linter.unusedSectionVars false
set_option maxHeartbeats 4000000
section
namespace Go.Lens.Tb
open Go.Proofs Go.Proofs.YthmgaldefkaglaaGreatDoor
set_option maxRecDepth 100000
theorem ntName:Tryz.pinned.checked.prog.funcNamed Rows.pupilDiscRow.func=some 9:=ae
theorem and2 {a b:Bool} (h:a=true) (k:b=true):(a&&b)=true:=by rw[h,k];rfl
theorem ntC0:(Rows.pupilDiscRow.wf (OpenSpec.ofChange Rows.pupilDiscSpec))=true:=ae
theorem ntC1:(laidOutB Tryz.prog)=true:=ae
theorem ntC2:(mapsRowed Tryz.prog)=true:=ae
theorem ntC3:(Tryz.f9.params.all (Tryz.prog.readableRec ·))=true:=ae
theorem ntC4:(namedTie Tryz.prog Rows.pupilDiscRow.named Rows.pupilDiscSpec.vars)=true:=ae
theorem ntC5:((Rows.pupilDiscRow.stops==[]))=true:=ae
theorem ntC6:((Tryz.prog.stops==[]))=true:=ae
theorem ntC7:((Rows.pupilDiscRow.knobs==[]))=true:=ae
theorem ntC8:((Tryz.prog.stopKnobs==[]))=true:=ae
theorem ntC9:((Rows.pupilDiscRow.inPlace==Tryz.prog.inPlace 9))=true:=ae
theorem ntC10:((Rows.pupilDiscRow.unfollowed==Tryz.prog.unfollowed 9))=true:=ae
theorem ntC11:((Rows.pupilDiscRow.recurses==Tryz.prog.recurses 9))=true:=ae
theorem ntC12:((Rows.pupilDiscRow.named==Tryz.prog.varsNamed 9))=true:=ae
theorem ntC13:((Rows.pupilDiscRow.maps==(Tryz.f9.params.toList++Rows.pupilDiscSpec.plain.varTypes Tryz.prog).any (Tryz.prog.mapsRec ·)))=true:=ae
theorem ntC14:((Rows.pupilDiscRow.ifaces==(Tryz.f9.params.toList++Rows.pupilDiscSpec.plain.varTypes Tryz.prog).any (Tryz.prog.ifacesRec ·)))=true:=ae
theorem ntC15:((Rows.pupilDiscRow.mapsOut==Tryz.prog.mapsAmong Tryz.f9.resultTypes.toList))=true:=ae
theorem ntC16:((Rows.pupilDiscRow.loops==(Tryz.f9.params.toList++Rows.pupilDiscSpec.plain.varTypes Tryz.prog).any (Tryz.prog.loopsFrom ·)))=true:=ae
theorem ntC17:((Rows.pupilDiscRow.wideKeys==(Tryz.f9.params.toList++Rows.pupilDiscSpec.plain.varTypes Tryz.prog++Tryz.f9.resultTypes.toList).any (Tryz.prog.wideKeysFrom ·)))=true:=ae
theorem ntC18:(Rows.pupilDiscSpec.vars.all (Tryz.prog.varReadable ·))=true:=ae
theorem ntC19:(Tryz.f9.resultTypes.all (fun t=>Tryz.prog.readableRec t&&decide (t<Tryz.prog.types.size)))=true:=ae
theorem ntC20:((Rows.pupilDiscRow.ifacesOut==Tryz.f9.resultTypes.toList.any (Tryz.prog.ifacesRec ·)))=true:=ae
theorem ntC21:((Rows.pupilDiscRow.loopsOut==Tryz.f9.resultTypes.toList.any (Tryz.prog.loopsFrom ·)))=true:=ae
theorem ntC22:((Rows.pupilDiscRow.plainKeys==Tryz.prog.plainKeys))=true:=ae
theorem ntC23:(Rows.pupilDiscRow.shortTexts.isNone)=true:=ae
theorem ntC24:(Tryz.prog.stopsHeard)=true:=ae
theorem ntC25:(Tryz.prog.mayEnter)=true:=ae
theorem ntC26:((Rows.pupilDiscRow.lifted==Tryz.prog.liftsFinal))=true:=ae
theorem ntC27:((Tryz.prog.make==some Rows.pupilDiscRow.make))=true:=ae
theorem ntC28:((Rows.pupilDiscRow.kinds==(if Rows.pupilDiscRow.domain.isEmpty then [] else Tryz.f9.params.toList.map fun t=>match Tryz.prog.underlying t with|some (.int k)=>some k|_=>none)))=true:=ae
theorem ntC29:((Rows.pupilDiscRow.pinned==Rows.pupilDiscRow.pinnedBy))=true:=ae
theorem ntC30:((Rows.pupilDiscRow.veiled==(Tryz.f9.params.toList++Rows.pupilDiscSpec.plain.varTypes Tryz.prog++Tryz.f9.resultTypes.toList).any (Tryz.prog.veiledRec ·)))=true:=ae
theorem ntC31:(Rows.pupilDiscRow.veiledFits Tryz.prog Tryz.f9.params.toList (Tryz.f9.params.toList++Rows.pupilDiscSpec.plain.varTypes Tryz.prog++Tryz.f9.resultTypes.toList))=true:=ae
theorem ntClosed:joinedFacts Tryz.pinned.checked.prog 9 Tryz.f9 Rows.pupilDiscSpec Rows.pupilDiscRow=true:=(and2 (and2 (and2 (and2 (and2 (and2 (and2 (and2 (and2 (and2 (and2 (and2 (and2 (and2 (and2 (and2 (and2 (and2 (and2 (and2 (and2 (and2 (and2 (and2 (and2 (and2 (and2 (and2 (and2 (and2 (and2 ntC0 ntC1) ntC2) ntC3) ntC4) ntC5) ntC6) ntC7) ntC8) ntC9) ntC10) ntC11) ntC12) ntC13) ntC14) ntC15) ntC16) ntC17) ntC18) ntC19) ntC20) ntC21) ntC22) ntC23) ntC24) ntC25) ntC26) ntC27) ntC28) ntC29) ntC30) ntC31)
end Go.Lens.Tb
end
