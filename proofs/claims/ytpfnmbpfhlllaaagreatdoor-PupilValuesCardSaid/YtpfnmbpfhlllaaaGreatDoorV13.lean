/- PupilValuesCardSaid holds, without conditions. -/
import Derived.Test.YtpfnmbpfhlllaaaGreatDoorV11
import Derived.Test.YtpfnmbpfhlllaaaGreatDoorV12
set_option linter.unusedVariables false
set_option linter.unusedSimpArgs false
set_option linter.unusedSectionVars false
set_option maxHeartbeats 4000000
section
namespace Go.Lens.Tb
open Go.Proofs Go.Proofs.YtpfnmbpfhlllaaaGreatDoor Go.RowKit Go.ChangeShapes Go.WideShapes Go.ChangeAt
set_option maxRecDepth 100000
theorem pupilValues_said:Rows.PupilValuesSaid:=
 OpenClaim.holds_of_wide 3 Tryz.f3 Z Z Z Z Z Z Z ⟨rfl,rfl,rfl,rfl,rfl⟩ rfl rfl Z Z Z ntName Tryz.func3 ntClosed
  (X3 ae) (by unfold Func.isWrapper;first|(rw[Wx (by decide +kernel)];kernel_rfl)|(rw[Ww (by decide +kernel)];exact⟨rfl,rfl⟩))
  (fun os started H enc _=>lifted_pupilValues os started H enc)
theorem pupilValues_proved:Rows.PupilValuesCardSaid:=
 Claim7.holds_tied_plain_at .later [] [.data,.data,.data,.data,.sentinel,.sentinel,.data,.pinned] true (true, "d3ec5d27d2636bc1b04659fca6529d2bab324ffe4b742d7d1b18da118d7ca9a5") true pupilValues_said (fun _ h=>by cases h) eL (fun _ h=>by cases h) pupilValues_row_tie rfl ⟨rfl,rfl⟩ eL rfl
  (fun f fn hf hfn=>by
   obtain rfl:f=3:=JL ((show Tryz.prog.funcNamed Rows.pupilValuesRow.func=some 3 from ntName).symm.trans hf) |>.symm
   obtain rfl:fn=Tryz.f3:=(JL (Tryz.func3.symm.trans hfn)).symm
   exact⟨by as_aux_lemma=>kernel_rfl,fun j t ht=>by
    rw[Tryz.params3] at ht
    have hm:t∈[22,25,9]:=by simpa using Array.mem_of_getElem? ht
    have hall:([22,25,9].all fun u=>!Tryz.prog.wantsStandIn u)=true:=by as_aux_lemma=>kernel_rfl
    exact (show Tryz.prog.wantsStandIn t=false by simpa using zr.1 hall t hm)⟩)
  eL
end Go.Lens.Tb
end
namespace Go.Proofs.YtpfnmbpfhlllaaaGreatDoor
theorem pupilValues_proved:Rows.PupilValuesCardSaid:=Go.Lens.Tb.pupilValues_proved
#print axioms pupilValues_proved
end Go.Proofs.YtpfnmbpfhlllaaaGreatDoor
