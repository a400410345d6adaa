/- PupilModesCardSaid holds, without conditions. -/
import Derived.Test.YthmgaldefkaglaaGreatDoorP9
import Derived.Test.YthmgaldefkaglaaGreatDoorP10
set_option linter.unusedVariables false
set_option linter.unusedSimpArgs false
set_option linter.unusedSectionVars false
set_option maxHeartbeats 4000000
section
namespace Go.Lens.Tb
open Go.Proofs Go.Proofs.YthmgaldefkaglaaGreatDoor Go.RowKit Go.ChangeShapes Go.WideShapes Go.ChangeAt
set_option maxRecDepth 100000
theorem pupilModes_said:Rows.PupilModesSaid:=
 OpenClaim.holds_of_wide 3 Tryz.f3 Z Z Z Z Z Z Z ⟨rfl,rfl,rfl,rfl,rfl⟩ rfl rfl Z Z Z ntName Tryz.func3 ntClosed
  (of_decide_eq_true ae) (by unfold Func.isWrapper;first|(rw[if_pos (by decide +kernel)];kernel_rfl)|(rw[if_neg (by decide +kernel)];exact⟨rfl,rfl⟩))
  (fun os started H enc _=>lifted_pupilModes os started H enc)
theorem pupilModes_proved:Rows.PupilModesCardSaid:=
 Claim7.holds_tied_plain_at .later [] [.data,.data,.data,.data,.sentinel,.sentinel,.data,.pinned] true (true, "e6db738cbd80e4bf5e3747850aea72224e4eabccccbbca9e7902f38c03e442da") true pupilModes_said (fun _ h=>by cases h) eh (fun _ h=>by cases h) pupilModes_row_tie rfl ⟨rfl,rfl⟩ eh rfl
  (fun f fn hf hfn=>by
   obtain rfl:f=3:=Option.some.inj ((show Tryz.prog.funcNamed Rows.pupilModesRow.func=some 3 from ntName).symm.trans hf) |>.symm
   obtain rfl:fn=Tryz.f3:=(Option.some.inj (Tryz.func3.symm.trans hfn)).symm
   exact⟨by as_aux_lemma=>kernel_rfl,fun j t ht=>by
    rw[Tryz.params3] at ht
    have hm:t∈[3,3]:=by simpa using Array.mem_of_getElem? ht
    have hall:([3,3].all fun u=>!Tryz.prog.wantsStandIn u)=true:=by as_aux_lemma=>kernel_rfl
    exact (show Tryz.prog.wantsStandIn t=false by simpa using zr.1 hall t hm)⟩)
  eh
end Go.Lens.Tb
end
namespace Go.Proofs.YthmgaldefkaglaaGreatDoor
theorem pupilModes_proved:Rows.PupilModesCardSaid:=Go.Lens.Tb.pupilModes_proved
#print axioms pupilModes_proved
end Go.Proofs.YthmgaldefkaglaaGreatDoor
