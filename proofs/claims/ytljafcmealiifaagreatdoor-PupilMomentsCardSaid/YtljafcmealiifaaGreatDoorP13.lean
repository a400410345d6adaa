/- A part of the proof of PupilMomentsCardSaid, without conditions. -/
import Derived.Test.YtljafcmealiifaaGreatDoorP1
import Derived.Test.YtljafcmealiifaaGreatDoorRows
import Derived.JoinedOf
import Derived.KernelRfl
set_option linter.unusedVariables false
set_option linter.unusedSimpArgs false
set_option linter.unusedSectionVars false
set_option maxHeartbeats 4000000
section
namespace Go.Lens.Tb
open Go.Proofs Go.Proofs.YtljafcmealiifaaGreatDoor
set_option maxRecDepth 100000
theorem ntName:Tryz.pinned.checked.prog.funcNamed Rows.pupilMomentsRow.func=some 3:=ae
theorem and2 {a b:Bool} (h:a=true) (k:b=true):(a&&b)=true:=by rw[h,k];rfl
theorem ntC0:(Rows.pupilMomentsRow.wf (OpenSpec.ofChange Rows.pupilMomentsSpec))=true:=ae
theorem ntC1:(laidOutB Tryz.prog)=true:=ae
theorem ntC2:(mapsRowed Tryz.prog)=true:=ae
theorem ntC3:(Tryz.f3.params.all (Tryz.prog.readableRec ·))=true:=ae
theorem ntC4:(namedTie Tryz.prog Rows.pupilMomentsRow.named Rows.pupilMomentsSpec.vars)=true:=ae
theorem ntC5:((Rows.pupilMomentsRow.stops==[]))=true:=ae
theorem ntC6:((Tryz.prog.stops==[]))=true:=ae
theorem ntC7:((Rows.pupilMomentsRow.knobs==[]))=true:=ae
theorem ntC8:((Tryz.prog.stopKnobs==[]))=true:=ae
theorem ntC9:((Rows.pupilMomentsRow.inPlace==Tryz.prog.inPlace 3))=true:=ae
theorem ntC10:((Rows.pupilMomentsRow.unfollowed==Tryz.prog.unfollowed 3))=true:=ae
theorem ntC11:((Rows.pupilMomentsRow.recurses==Tryz.prog.recurses 3))=true:=ae
theorem ntC12:((Rows.pupilMomentsRow.named==Tryz.prog.varsNamed 3))=true:=ae
theorem ntC13:((Rows.pupilMomentsRow.maps==(Tryz.f3.params.toList++Rows.pupilMomentsSpec.plain.varTypes Tryz.prog).any (Tryz.prog.mapsRec ·)))=true:=ae
theorem ntC14:((Rows.pupilMomentsRow.ifaces==(Tryz.f3.params.toList++Rows.pupilMomentsSpec.plain.varTypes Tryz.prog).any (Tryz.prog.ifacesRec ·)))=true:=ae
theorem ntC15:((Rows.pupilMomentsRow.mapsOut==Tryz.prog.mapsAmong Tryz.f3.resultTypes.toList))=true:=ae
theorem ntC16:((Rows.pupilMomentsRow.loops==(Tryz.f3.params.toList++Rows.pupilMomentsSpec.plain.varTypes Tryz.prog).any (Tryz.prog.loopsFrom ·)))=true:=ae
theorem ntC17:((Rows.pupilMomentsRow.wideKeys==(Tryz.f3.params.toList++Rows.pupilMomentsSpec.plain.varTypes Tryz.prog++Tryz.f3.resultTypes.toList).any (Tryz.prog.wideKeysFrom ·)))=true:=ae
theorem ntC18:(Rows.pupilMomentsSpec.vars.all (Tryz.prog.varReadable ·))=true:=ae
theorem ntC19:(Tryz.f3.resultTypes.all (fun t=>Tryz.prog.readableRec t&&decide (t<Tryz.prog.types.size)))=true:=ae
theorem ntC20:((Rows.pupilMomentsRow.ifacesOut==Tryz.f3.resultTypes.toList.any (Tryz.prog.ifacesRec ·)))=true:=ae
theorem ntC21:((Rows.pupilMomentsRow.loopsOut==Tryz.f3.resultTypes.toList.any (Tryz.prog.loopsFrom ·)))=true:=ae
theorem ntC22:((Rows.pupilMomentsRow.plainKeys==Tryz.prog.plainKeys))=true:=ae
theorem ntC23:(Rows.pupilMomentsRow.shortTexts.isNone)=true:=ae
theorem ntC24:(Tryz.prog.stopsHeard)=true:=ae
theorem ntC25:(Tryz.prog.mayEnter)=true:=ae
theorem ntC26:((Rows.pupilMomentsRow.lifted==Tryz.prog.liftsFinal))=true:=ae
theorem ntC27:((Tryz.prog.make==some Rows.pupilMomentsRow.make))=true:=ae
theorem ntC28:((Rows.pupilMomentsRow.kinds==(if Rows.pupilMomentsRow.domain.isEmpty then [] else Tryz.f3.params.toList.map fun t=>match Tryz.prog.underlying t with|some (.int k)=>some k|_=>none)))=true:=ae
theorem ntC29:((Rows.pupilMomentsRow.pinned==Rows.pupilMomentsRow.pinnedBy))=true:=ae
theorem ntC30:((Rows.pupilMomentsRow.veiled==(Tryz.f3.params.toList++Rows.pupilMomentsSpec.plain.varTypes Tryz.prog++Tryz.f3.resultTypes.toList).any (Tryz.prog.veiledRec ·)))=true:=ae
theorem ntC31:(Rows.pupilMomentsRow.veiledFits Tryz.prog Tryz.f3.params.toList (Tryz.f3.params.toList++Rows.pupilMomentsSpec.plain.varTypes Tryz.prog++Tryz.f3.resultTypes.toList))=true:=ae
theorem ntClosed:joinedFacts Tryz.pinned.checked.prog 3 Tryz.f3 Rows.pupilMomentsSpec Rows.pupilMomentsRow=true:=(and2 (and2 (and2 (and2 (and2 (and2 (and2 (and2 (and2 (and2 (and2 (and2 (and2 (and2 (and2 (and2 (and2 (and2 (and2 (and2 (and2 (and2 (and2 (and2 (and2 (and2 (and2 (and2 (and2 (and2 (and2 ntC0 ntC1) ntC2) ntC3) ntC4) ntC5) ntC6) ntC7) ntC8) ntC9) ntC10) ntC11) ntC12) ntC13) ntC14) ntC15) ntC16) ntC17) ntC18) ntC19) ntC20) ntC21) ntC22) ntC23) ntC24) ntC25) ntC26) ntC27) ntC28) ntC29) ntC30) ntC31)
end Go.Lens.Tb
end
