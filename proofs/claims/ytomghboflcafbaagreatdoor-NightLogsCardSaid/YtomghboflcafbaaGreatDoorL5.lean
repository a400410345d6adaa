/- A part of the proof that NightLogsCardSaid holds, without conditions. -/
import Derived.Test.YtomghboflcafbaaGreatDoorRows
import Derived.JoinedOf
import Derived.KernelRfl
set_option linter.unusedVariables false
set_option linter.unusedSimpArgs false
section
namespace Go.Lens.Tb
open Go.Proofs Go.Proofs.YtomghboflcafbaaGreatDoor
set_option linter.unusedSectionVars false
set_option maxRecDepth 100000
theorem ntName:Tryz.pinned.checked.prog.funcNamed Rows.nightLogsRow.func=some 11:=by kernel_rfl
theorem and2 {a b:Bool} (h:a=true) (k:b=true):(a&&b)=true:=by rw[h,k];rfl
theorem ntC0:(Rows.nightLogsRow.wf (OpenSpec.ofChange Rows.nightLogsSpec))=true:=by kernel_rfl
theorem ntC1:(laidOutB Tryz.prog)=true:=by kernel_rfl
theorem ntC2:(mapsRowed Tryz.prog)=true:=by kernel_rfl
theorem ntC3:(Tryz.f11.params.all (Tryz.prog.readableRec ·))=true:=by kernel_rfl
theorem ntC4:(namedTie Tryz.prog Rows.nightLogsRow.named Rows.nightLogsSpec.vars)=true:=by kernel_rfl
theorem ntC5:((Rows.nightLogsRow.stops==[]))=true:=by kernel_rfl
theorem ntC6:((Tryz.prog.stops==[]))=true:=by kernel_rfl
theorem ntC7:((Rows.nightLogsRow.knobs==[]))=true:=by kernel_rfl
theorem ntC8:((Tryz.prog.stopKnobs==[]))=true:=by kernel_rfl
theorem ntC9:((Rows.nightLogsRow.inPlace==Tryz.prog.inPlace 11))=true:=by kernel_rfl
theorem ntC10:((Rows.nightLogsRow.unfollowed==Tryz.prog.unfollowed 11))=true:=by kernel_rfl
theorem ntC11:((Rows.nightLogsRow.recurses==Tryz.prog.recurses 11))=true:=by kernel_rfl
theorem ntC12:((Rows.nightLogsRow.named==Tryz.prog.varsNamed 11))=true:=by kernel_rfl
theorem ntC13:((Rows.nightLogsRow.maps==(Tryz.f11.params.toList++Rows.nightLogsSpec.plain.varTypes Tryz.prog).any (Tryz.prog.mapsRec ·)))=true:=by kernel_rfl
theorem ntC14:((Rows.nightLogsRow.ifaces==(Tryz.f11.params.toList++Rows.nightLogsSpec.plain.varTypes Tryz.prog).any (Tryz.prog.ifacesRec ·)))=true:=by kernel_rfl
theorem ntC15:((Rows.nightLogsRow.mapsOut==Tryz.prog.mapsAmong Tryz.f11.resultTypes.toList))=true:=by kernel_rfl
theorem ntC16:((Rows.nightLogsRow.loops==(Tryz.f11.params.toList++Rows.nightLogsSpec.plain.varTypes Tryz.prog).any (Tryz.prog.loopsFrom ·)))=true:=by kernel_rfl
theorem ntC17:((Rows.nightLogsRow.wideKeys==(Tryz.f11.params.toList++Rows.nightLogsSpec.plain.varTypes Tryz.prog++Tryz.f11.resultTypes.toList).any (Tryz.prog.wideKeysFrom ·)))=true:=by kernel_rfl
theorem ntC18:(Rows.nightLogsSpec.vars.all (Tryz.prog.varReadable ·))=true:=by kernel_rfl
theorem ntC19:(Tryz.f11.resultTypes.all (fun t=>Tryz.prog.readableRec t&&decide (t<Tryz.prog.types.size)))=true:=by kernel_rfl
theorem ntC20:((Rows.nightLogsRow.ifacesOut==Tryz.f11.resultTypes.toList.any (Tryz.prog.ifacesRec ·)))=true:=by kernel_rfl
theorem ntC21:((Rows.nightLogsRow.loopsOut==Tryz.f11.resultTypes.toList.any (Tryz.prog.loopsFrom ·)))=true:=by kernel_rfl
theorem ntC22:((Rows.nightLogsRow.plainKeys==Tryz.prog.plainKeys))=true:=by kernel_rfl
theorem ntC23:(Rows.nightLogsRow.shortTexts.isNone)=true:=by kernel_rfl
theorem ntC24:(Tryz.prog.stopsHeard)=true:=by kernel_rfl
theorem ntC25:(Tryz.prog.mayEnter)=true:=by kernel_rfl
theorem ntC26:((Rows.nightLogsRow.lifted==Tryz.prog.liftsFinal))=true:=by kernel_rfl
theorem ntC27:((Tryz.prog.make==some Rows.nightLogsRow.make))=true:=by kernel_rfl
theorem ntC28:((Rows.nightLogsRow.kinds==(if Rows.nightLogsRow.domain.isEmpty then [] else Tryz.f11.params.toList.map fun t=>match Tryz.prog.underlying t with|some (.int k)=>some k|_=>none)))=true:=by kernel_rfl
theorem ntC29:((Rows.nightLogsRow.pinned==Rows.nightLogsRow.pinnedBy))=true:=by kernel_rfl
theorem ntC30:((Rows.nightLogsRow.veiled==(Tryz.f11.params.toList++Rows.nightLogsSpec.plain.varTypes Tryz.prog++Tryz.f11.resultTypes.toList).any (Tryz.prog.veiledRec ·)))=true:=by kernel_rfl
theorem ntC31:(Rows.nightLogsRow.veiledFits Tryz.prog Tryz.f11.params.toList (Tryz.f11.params.toList++Rows.nightLogsSpec.plain.varTypes Tryz.prog++Tryz.f11.resultTypes.toList))=true:=by kernel_rfl
theorem ntClosed:joinedFacts Tryz.pinned.checked.prog 11 Tryz.f11 Rows.nightLogsSpec Rows.nightLogsRow=true:=(and2 (and2 (and2 (and2 (and2 (and2 (and2 (and2 (and2 (and2 (and2 (and2 (and2 (and2 (and2 (and2 (and2 (and2 (and2 (and2 (and2 (and2 (and2 (and2 (and2 (and2 (and2 (and2 (and2 (and2 (and2 ntC0 ntC1) ntC2) ntC3) ntC4) ntC5) ntC6) ntC7) ntC8) ntC9) ntC10) ntC11) ntC12) ntC13) ntC14) ntC15) ntC16) ntC17) ntC18) ntC19) ntC20) ntC21) ntC22) ntC23) ntC24) ntC25) ntC26) ntC27) ntC28) ntC29) ntC30) ntC31)
end Go.Lens.Tb
end
