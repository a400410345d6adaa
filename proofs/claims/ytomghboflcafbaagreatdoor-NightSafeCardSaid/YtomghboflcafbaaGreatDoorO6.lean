/- A part of the proof of NightSafeCardSaid, without conditions. -/
import Derived.Test.YtomghboflcafbaaGreatDoorRows
import Derived.JoinedOf
import Derived.KernelRfl
set_option linter.unusedVariables false
set_option linter.unusedSimpArgs false
set_option linter.unusedSectionVars false
section
namespace Go.Lens.Tb
open Go.Proofs Go.Proofs.YtomghboflcafbaaGreatDoor
set_option maxRecDepth 100000
theorem ntName:Tryz.pinned.checked.prog.funcNamed Rows.nightSafeRow.func=some 15:=by kernel_rfl
theorem and2 {a b:Bool} (h:a=true) (k:b=true):(a&&b)=true:=by rw[h,k];rfl
theorem ntC0:(Rows.nightSafeRow.wf (OpenSpec.ofChange Rows.nightSafeSpec))=true:=by kernel_rfl
theorem ntC1:(laidOutB Tryz.prog)=true:=by kernel_rfl
theorem ntC2:(mapsRowed Tryz.prog)=true:=by kernel_rfl
theorem ntC3:(Tryz.f15.params.all (Tryz.prog.readableRec ·))=true:=by kernel_rfl
theorem ntC4:(namedTie Tryz.prog Rows.nightSafeRow.named Rows.nightSafeSpec.vars)=true:=by kernel_rfl
theorem ntC5:((Rows.nightSafeRow.stops==[]))=true:=by kernel_rfl
theorem ntC6:((Tryz.prog.stops==[]))=true:=by kernel_rfl
theorem ntC7:((Rows.nightSafeRow.knobs==[]))=true:=by kernel_rfl
theorem ntC8:((Tryz.prog.stopKnobs==[]))=true:=by kernel_rfl
theorem ntC9:((Rows.nightSafeRow.inPlace==Tryz.prog.inPlace 15))=true:=by kernel_rfl
theorem ntC10:((Rows.nightSafeRow.unfollowed==Tryz.prog.unfollowed 15))=true:=by kernel_rfl
theorem ntC11:((Rows.nightSafeRow.recurses==Tryz.prog.recurses 15))=true:=by kernel_rfl
theorem ntC12:((Rows.nightSafeRow.named==Tryz.prog.varsNamed 15))=true:=by kernel_rfl
theorem ntC13:((Rows.nightSafeRow.maps==(Tryz.f15.params.toList++Rows.nightSafeSpec.plain.varTypes Tryz.prog).any (Tryz.prog.mapsRec ·)))=true:=by kernel_rfl
theorem ntC14:((Rows.nightSafeRow.ifaces==(Tryz.f15.params.toList++Rows.nightSafeSpec.plain.varTypes Tryz.prog).any (Tryz.prog.ifacesRec ·)))=true:=by kernel_rfl
theorem ntC15:((Rows.nightSafeRow.mapsOut==Tryz.prog.mapsAmong Tryz.f15.resultTypes.toList))=true:=by kernel_rfl
theorem ntC16:((Rows.nightSafeRow.loops==(Tryz.f15.params.toList++Rows.nightSafeSpec.plain.varTypes Tryz.prog).any (Tryz.prog.loopsFrom ·)))=true:=by kernel_rfl
theorem ntC17:((Rows.nightSafeRow.wideKeys==(Tryz.f15.params.toList++Rows.nightSafeSpec.plain.varTypes Tryz.prog++Tryz.f15.resultTypes.toList).any (Tryz.prog.wideKeysFrom ·)))=true:=by kernel_rfl
theorem ntC18:(Rows.nightSafeSpec.vars.all (Tryz.prog.varReadable ·))=true:=by kernel_rfl
theorem ntC19:(Tryz.f15.resultTypes.all (fun t=>Tryz.prog.readableRec t&&decide (t<Tryz.prog.types.size)))=true:=by kernel_rfl
theorem ntC20:((Rows.nightSafeRow.ifacesOut==Tryz.f15.resultTypes.toList.any (Tryz.prog.ifacesRec ·)))=true:=by kernel_rfl
theorem ntC21:((Rows.nightSafeRow.loopsOut==Tryz.f15.resultTypes.toList.any (Tryz.prog.loopsFrom ·)))=true:=by kernel_rfl
theorem ntC22:((Rows.nightSafeRow.plainKeys==Tryz.prog.plainKeys))=true:=by kernel_rfl
theorem ntC23:(Rows.nightSafeRow.shortTexts.isNone)=true:=by kernel_rfl
theorem ntC24:(Tryz.prog.stopsHeard)=true:=by kernel_rfl
theorem ntC25:(Tryz.prog.mayEnter)=true:=by kernel_rfl
theorem ntC26:((Rows.nightSafeRow.lifted==Tryz.prog.liftsFinal))=true:=by kernel_rfl
theorem ntC27:((Tryz.prog.make==some Rows.nightSafeRow.make))=true:=by kernel_rfl
theorem ntC28:((Rows.nightSafeRow.kinds==(if Rows.nightSafeRow.domain.isEmpty then [] else Tryz.f15.params.toList.map fun t=>match Tryz.prog.underlying t with|some (.int k)=>some k|_=>none)))=true:=by kernel_rfl
theorem ntC29:((Rows.nightSafeRow.pinned==Rows.nightSafeRow.pinnedBy))=true:=by kernel_rfl
theorem ntC30:((Rows.nightSafeRow.veiled==(Tryz.f15.params.toList++Rows.nightSafeSpec.plain.varTypes Tryz.prog++Tryz.f15.resultTypes.toList).any (Tryz.prog.veiledRec ·)))=true:=by kernel_rfl
theorem ntC31:(Rows.nightSafeRow.veiledFits Tryz.prog Tryz.f15.params.toList (Tryz.f15.params.toList++Rows.nightSafeSpec.plain.varTypes Tryz.prog++Tryz.f15.resultTypes.toList))=true:=by kernel_rfl
theorem ntClosed:joinedFacts Tryz.pinned.checked.prog 15 Tryz.f15 Rows.nightSafeSpec Rows.nightSafeRow=true:=(and2 (and2 (and2 (and2 (and2 (and2 (and2 (and2 (and2 (and2 (and2 (and2 (and2 (and2 (and2 (and2 (and2 (and2 (and2 (and2 (and2 (and2 (and2 (and2 (and2 (and2 (and2 (and2 (and2 (and2 (and2 ntC0 ntC1) ntC2) ntC3) ntC4) ntC5) ntC6) ntC7) ntC8) ntC9) ntC10) ntC11) ntC12) ntC13) ntC14) ntC15) ntC16) ntC17) ntC18) ntC19) ntC20) ntC21) ntC22) ntC23) ntC24) ntC25) ntC26) ntC27) ntC28) ntC29) ntC30) ntC31)
end Go.Lens.Tb
end
