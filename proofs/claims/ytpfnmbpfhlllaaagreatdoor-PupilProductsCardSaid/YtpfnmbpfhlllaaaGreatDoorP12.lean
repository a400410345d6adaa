/- A part of the proof of PupilProductsCardSaid, without conditions. -/
import Derived.Test.YtpfnmbpfhlllaaaGreatDoorP1
import Derived.Test.YtpfnmbpfhlllaaaGreatDoorRows
import Derived.JoinedOf
import Derived.KernelRfl
set_option linter.unusedVariables false
set_option linter.unusedSimpArgs false
set_option linter.unusedSectionVars false
set_option maxHeartbeats 4000000
section
namespace Go.Lens.Tb
open Go.Proofs Go.Proofs.YtpfnmbpfhlllaaaGreatDoor
set_option maxRecDepth 100000
theorem ntName:Tryz.pinned.checked.prog.funcNamed Rows.pupilProductsRow.func=some 4:=ae
theorem and2 {a b:Bool} (h:a=true) (k:b=true):(a&&b)=true:=by rw[h,k];rfl
theorem ntC0:(Rows.pupilProductsRow.wf (OpenSpec.ofChange Rows.pupilProductsSpec))=true:=ae
theorem ntC1:(laidOutB Tryz.prog)=true:=ae
theorem ntC2:(mapsRowed Tryz.prog)=true:=ae
theorem ntC3:(Tryz.f4.params.all (Tryz.prog.readableRec ·))=true:=ae
theorem ntC4:(namedTie Tryz.prog Rows.pupilProductsRow.named Rows.pupilProductsSpec.vars)=true:=ae
theorem ntC5:((Rows.pupilProductsRow.stops==[]))=true:=ae
theorem ntC6:((Tryz.prog.stops==[]))=true:=ae
theorem ntC7:((Rows.pupilProductsRow.knobs==[]))=true:=ae
theorem ntC8:((Tryz.prog.stopKnobs==[]))=true:=ae
theorem ntC9:((Rows.pupilProductsRow.inPlace==Tryz.prog.inPlace 4))=true:=ae
theorem ntC10:((Rows.pupilProductsRow.unfollowed==Tryz.prog.unfollowed 4))=true:=ae
theorem ntC11:((Rows.pupilProductsRow.recurses==Tryz.prog.recurses 4))=true:=ae
theorem ntC12:((Rows.pupilProductsRow.named==Tryz.prog.varsNamed 4))=true:=ae
theorem ntC13:((Rows.pupilProductsRow.maps==(Tryz.f4.params.toList++Rows.pupilProductsSpec.plain.varTypes Tryz.prog).any (Tryz.prog.mapsRec ·)))=true:=ae
theorem ntC14:((Rows.pupilProductsRow.ifaces==(Tryz.f4.params.toList++Rows.pupilProductsSpec.plain.varTypes Tryz.prog).any (Tryz.prog.ifacesRec ·)))=true:=ae
theorem ntC15:((Rows.pupilProductsRow.mapsOut==Tryz.prog.mapsAmong Tryz.f4.resultTypes.toList))=true:=ae
theorem ntC16:((Rows.pupilProductsRow.loops==(Tryz.f4.params.toList++Rows.pupilProductsSpec.plain.varTypes Tryz.prog).any (Tryz.prog.loopsFrom ·)))=true:=ae
theorem ntC17:((Rows.pupilProductsRow.wideKeys==(Tryz.f4.params.toList++Rows.pupilProductsSpec.plain.varTypes Tryz.prog++Tryz.f4.resultTypes.toList).any (Tryz.prog.wideKeysFrom ·)))=true:=ae
theorem ntC18:(Rows.pupilProductsSpec.vars.all (Tryz.prog.varReadable ·))=true:=ae
theorem ntC19:(Tryz.f4.resultTypes.all (fun t=>Tryz.prog.readableRec t&&decide (t<Tryz.prog.types.size)))=true:=ae
theorem ntC20:((Rows.pupilProductsRow.ifacesOut==Tryz.f4.resultTypes.toList.any (Tryz.prog.ifacesRec ·)))=true:=ae
theorem ntC21:((Rows.pupilProductsRow.loopsOut==Tryz.f4.resultTypes.toList.any (Tryz.prog.loopsFrom ·)))=true:=ae
theorem ntC22:((Rows.pupilProductsRow.plainKeys==Tryz.prog.plainKeys))=true:=ae
theorem ntC23:(Rows.pupilProductsRow.shortTexts.isNone)=true:=ae
theorem ntC24:(Tryz.prog.stopsHeard)=true:=ae
theorem ntC25:(Tryz.prog.mayEnter)=true:=ae
theorem ntC26:((Rows.pupilProductsRow.lifted==Tryz.prog.liftsFinal))=true:=ae
theorem ntC27:((Tryz.prog.make==some Rows.pupilProductsRow.make))=true:=ae
theorem ntC28:((Rows.pupilProductsRow.kinds==(if Rows.pupilProductsRow.domain.isEmpty then [] else Tryz.f4.params.toList.map fun t=>match Tryz.prog.underlying t with|some (.int k)=>some k|_=>none)))=true:=ae
theorem ntC29:((Rows.pupilProductsRow.pinned==Rows.pupilProductsRow.pinnedBy))=true:=ae
theorem ntC30:((Rows.pupilProductsRow.veiled==(Tryz.f4.params.toList++Rows.pupilProductsSpec.plain.varTypes Tryz.prog++Tryz.f4.resultTypes.toList).any (Tryz.prog.veiledRec ·)))=true:=ae
theorem ntC31:(Rows.pupilProductsRow.veiledFits Tryz.prog Tryz.f4.params.toList (Tryz.f4.params.toList++Rows.pupilProductsSpec.plain.varTypes Tryz.prog++Tryz.f4.resultTypes.toList))=true:=ae
theorem ntClosed:joinedFacts Tryz.pinned.checked.prog 4 Tryz.f4 Rows.pupilProductsSpec Rows.pupilProductsRow=true:=(and2 (and2 (and2 (and2 (and2 (and2 (and2 (and2 (and2 (and2 (and2 (and2 (and2 (and2 (and2 (and2 (and2 (and2 (and2 (and2 (and2 (and2 (and2 (and2 (and2 (and2 (and2 (and2 (and2 (and2 (and2 ntC0 ntC1) ntC2) ntC3) ntC4) ntC5) ntC6) ntC7) ntC8) ntC9) ntC10) ntC11) ntC12) ntC13) ntC14) ntC15) ntC16) ntC17) ntC18) ntC19) ntC20) ntC21) ntC22) ntC23) ntC24) ntC25) ntC26) ntC27) ntC28) ntC29) ntC30) ntC31)
end Go.Lens.Tb
end
