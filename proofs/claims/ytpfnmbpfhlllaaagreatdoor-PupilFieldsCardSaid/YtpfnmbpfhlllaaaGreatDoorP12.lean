/- A part of the proof of PupilFieldsCardSaid, without conditions. -/
import Derived.Test.YtpfnmbpfhlllaaaGreatDoorP1
import Derived.Test.YtpfnmbpfhlllaaaGreatDoorRows
import Derived.JoinedOf
import Derived.KernelRfl
set_option linter.unusedVariables false
set_option linter.unusedSimpArgs false
set_option linter.unusedSectionVars false
set_option maxHeartbeats 4000000
open Go.Proofs.Tryz (prog)
section
namespace Go.Lens.Tb
open Go.Proofs Go.Proofs.YtpfnmbpfhlllaaaGreatDoor
set_option maxRecDepth 100000
theorem ntName:Tryz.pinned.checked.prog.funcNamed Rows.pupilFieldsRow.func=some 6:=ae
theorem and2 {a b:Bool} (h:a=true) (k:b=true):(a&&b)=true:=by rw[h,k];rfl
theorem ntC0:(Rows.pupilFieldsRow.wf (OpenSpec.ofChange Rows.pupilFieldsSpec))=true:=ae
theorem ntC1:(laidOutB prog)=true:=ae
theorem ntC2:(mapsRowed prog)=true:=ae
theorem ntC3:(Tryz.f6.params.all (Tryz.prog.readableRec ·))=true:=ae
theorem ntC4:(namedTie prog Rows.pupilFieldsRow.named Rows.pupilFieldsSpec.vars)=true:=ae
theorem ntC5:((Rows.pupilFieldsRow.stops==[]))=true:=ae
theorem ntC6:((Tryz.prog.stops==[]))=true:=ae
theorem ntC7:((Rows.pupilFieldsRow.knobs==[]))=true:=ae
theorem ntC8:((Tryz.prog.stopKnobs==[]))=true:=ae
theorem ntC9:((Rows.pupilFieldsRow.inPlace==Tryz.prog.inPlace 6))=true:=ae
theorem ntC10:((Rows.pupilFieldsRow.unfollowed==Tryz.prog.unfollowed 6))=true:=ae
theorem ntC11:((Rows.pupilFieldsRow.recurses==Tryz.prog.recurses 6))=true:=ae
theorem ntC12:((Rows.pupilFieldsRow.named==Tryz.prog.varsNamed 6))=true:=ae
theorem ntC13:((Rows.pupilFieldsRow.maps==(Tryz.f6.params.toList++Rows.pupilFieldsSpec.plain.varTypes prog).any (Tryz.prog.mapsRec ·)))=true:=ae
theorem ntC14:((Rows.pupilFieldsRow.ifaces==(Tryz.f6.params.toList++Rows.pupilFieldsSpec.plain.varTypes prog).any (Tryz.prog.ifacesRec ·)))=true:=ae
theorem ntC15:((Rows.pupilFieldsRow.mapsOut==Tryz.prog.mapsAmong Tryz.f6.resultTypes.toList))=true:=ae
theorem ntC16:((Rows.pupilFieldsRow.loops==(Tryz.f6.params.toList++Rows.pupilFieldsSpec.plain.varTypes prog).any (Tryz.prog.loopsFrom ·)))=true:=ae
theorem ntC17:((Rows.pupilFieldsRow.wideKeys==(Tryz.f6.params.toList++Rows.pupilFieldsSpec.plain.varTypes prog++Tryz.f6.resultTypes.toList).any (Tryz.prog.wideKeysFrom ·)))=true:=ae
theorem ntC18:(Rows.pupilFieldsSpec.vars.all (Tryz.prog.varReadable ·))=true:=ae
theorem ntC19:(Tryz.f6.resultTypes.all (fun t=>Tryz.prog.readableRec t&&decide (t<Tryz.prog.types.size)))=true:=ae
theorem ntC20:((Rows.pupilFieldsRow.ifacesOut==Tryz.f6.resultTypes.toList.any (Tryz.prog.ifacesRec ·)))=true:=ae
theorem ntC21:((Rows.pupilFieldsRow.loopsOut==Tryz.f6.resultTypes.toList.any (Tryz.prog.loopsFrom ·)))=true:=ae
theorem ntC22:((Rows.pupilFieldsRow.plainKeys==Tryz.prog.plainKeys))=true:=ae
theorem ntC23:(Rows.pupilFieldsRow.shortTexts.isNone)=true:=ae
theorem ntC24:(Tryz.prog.stopsHeard)=true:=ae
theorem ntC25:(Tryz.prog.mayEnter)=true:=ae
theorem ntC26:((Rows.pupilFieldsRow.lifted==Tryz.prog.liftsFinal))=true:=ae
theorem ntC27:((Tryz.prog.make==some Rows.pupilFieldsRow.make))=true:=ae
theorem ntC28:((Rows.pupilFieldsRow.kinds==(if Rows.pupilFieldsRow.domain.isEmpty then [] else Tryz.f6.params.toList.map fun t=>match Tryz.prog.underlying t with|some (.int k)=>some k|_=>none)))=true:=ae
theorem ntC29:((Rows.pupilFieldsRow.pinned==Rows.pupilFieldsRow.pinnedBy))=true:=ae
theorem ntC30:((Rows.pupilFieldsRow.veiled==(Tryz.f6.params.toList++Rows.pupilFieldsSpec.plain.varTypes prog++Tryz.f6.resultTypes.toList).any (Tryz.prog.veiledRec ·)))=true:=ae
theorem ntC31:(Rows.pupilFieldsRow.veiledFits prog Tryz.f6.params.toList (Tryz.f6.params.toList++Rows.pupilFieldsSpec.plain.varTypes prog++Tryz.f6.resultTypes.toList))=true:=ae
theorem ntClosed:joinedFacts Tryz.pinned.checked.prog 6 Tryz.f6 Rows.pupilFieldsSpec Rows.pupilFieldsRow=true:=(and2 (and2 (and2 (and2 (and2 (and2 (and2 (and2 (and2 (and2 (and2 (and2 (and2 (and2 (and2 (and2 (and2 (and2 (and2 (and2 (and2 (and2 (and2 (and2 (and2 (and2 (and2 (and2 (and2 (and2 (and2 ntC0 ntC1) ntC2) ntC3) ntC4) ntC5) ntC6) ntC7) ntC8) ntC9) ntC10) ntC11) ntC12) ntC13) ntC14) ntC15) ntC16) ntC17) ntC18) ntC19) ntC20) ntC21) ntC22) ntC23) ntC24) ntC25) ntC26) ntC27) ntC28) ntC29) ntC30) ntC31)
end Go.Lens.Tb
end
