/- PupilFieldsCardSaid holds, without conditions. -/
import Derived.Test.YtpfnmbpfhlllaaaGreatDoorP11
import Derived.Test.YtpfnmbpfhlllaaaGreatDoorP12
set_option linter.unusedVariables false
set_option linter.unusedSimpArgs false
set_option linter.unusedSectionVars false
set_option maxHeartbeats 4000000
section
namespace Go.Lens.Tb
open Go.Proofs Go.Proofs.YtpfnmbpfhlllaaaGreatDoor Go.RowKit Go.ChangeShapes Go.WideShapes Go.ChangeAt
set_option maxRecDepth 100000
theorem pupilFields_said:Rows.PupilFieldsSaid:=
 OpenClaim.holds_of_wide 6 Tryz.f6 Z Z Z Z Z Z Z ⟨rfl,rfl,rfl,rfl,rfl⟩ rfl rfl Z Z Z ntName Tryz.func6 ntClosed
  (X6 ae) (by unfold Func.isWrapper;first|(rw[WK eM];kernel_rfl)|(rw[WJ eM];exact⟨rfl,rfl⟩))
  (fun os started H enc _=>lifted_pupilFields os started H enc)
theorem pupilFields_proved:Rows.PupilFieldsCardSaid:=
 Claim7.holds_tied_plain_at .later [] [.data,.data,.data,.data,.sentinel,.sentinel,.data,.pinned] true (true, "d3ec5d27d2636bc1b04659fca6529d2bab324ffe4b742d7d1b18da118d7ca9a5") true pupilFields_said (fun _ h=>by cases h) eZ (fun _ h=>by cases h) pupilFields_row_tie rfl ⟨rfl,rfl⟩ eZ rfl
  (fun f fn hf hfn=>by
   obtain rfl:f=6:=JO ((show Tryz.prog.funcNamed Rows.pupilFieldsRow.func=some 6 from ntName).symm.trans hf) |>.symm
   obtain rfl:fn=Tryz.f6:=(JO (Tryz.func6.symm.trans hfn)).symm
   exact⟨by as_aux_lemma=>kernel_rfl,fun j t ht=>by
    rw[Tryz.params6] at ht
    have hm:t∈[22,22,25]:=by simpa using Array.mem_of_getElem? ht
    have hall:([22,22,25].all fun u=>!Tryz.prog.wantsStandIn u)=true:=by as_aux_lemma=>kernel_rfl
    exact (show Tryz.prog.wantsStandIn t=false by simpa using zr.1 hall t hm)⟩)
  eZ
end Go.Lens.Tb
end
namespace Go.Proofs.YtpfnmbpfhlllaaaGreatDoor
theorem pupilFields_proved:Rows.PupilFieldsCardSaid:=Go.Lens.Tb.pupilFields_proved
#print axioms pupilFields_proved
end Go.Proofs.YtpfnmbpfhlllaaaGreatDoor
