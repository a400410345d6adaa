/- PupilDiscCardSaid holds, without conditions. -/
import Derived.Test.YthmgaldefkaglaaGreatDoorP12
import Derived.Test.YthmgaldefkaglaaGreatDoorP13
set_option linter.unusedVariables false
set_option linter.unusedSimpArgs false
set_option linter.unusedSectionVars false
set_option maxHeartbeats 4000000
section
namespace Go.Lens.Tb
open Go.Proofs Go.Proofs.YthmgaldefkaglaaGreatDoor Go.RowKit Go.ChangeShapes Go.WideShapes Go.ChangeAt
set_option maxRecDepth 100000
theorem pupilDisc_said:Rows.PupilDiscSaid:=
 OpenClaim.holds_of_wide 9 Tryz.f9 Z Z Z Z Z Z Z ⟨rfl,rfl,rfl,rfl,rfl⟩ rfl rfl Z Z Z ntName Tryz.func9 ntClosed
  (of_decide_eq_true ae) (by unfold Func.isWrapper;first|(rw[if_pos (by decide +kernel)];kernel_rfl)|(rw[if_neg (by decide +kernel)];exact⟨rfl,rfl⟩))
  (fun os started H enc _=>lifted_pupilDisc os started H enc)
theorem pupilDisc_proved:Rows.PupilDiscCardSaid:=
 Claim7.holds_tied_plain_at .later [] [.data,.data,.data,.data,.sentinel,.sentinel,.data,.pinned] true (true, "e6db738cbd80e4bf5e3747850aea72224e4eabccccbbca9e7902f38c03e442da") true pupilDisc_said (fun _ h=>by cases h) dP (fun _ h=>by cases h) pupilDisc_row_tie rfl ⟨rfl,rfl⟩ dP rfl
  (fun f fn hf hfn=>by
   obtain rfl:f=9:=Option.some.inj ((show Tryz.prog.funcNamed Rows.pupilDiscRow.func=some 9 from ntName).symm.trans hf) |>.symm
   obtain rfl:fn=Tryz.f9:=(Option.some.inj (Tryz.func9.symm.trans hfn)).symm
   exact⟨by as_aux_lemma=>kernel_rfl,fun j t ht=>by
    rw[Tryz.params9] at ht
    have hm:t∈[104,104]:=by simpa using Array.mem_of_getElem? ht
    have hall:([104,104].all fun u=>!Tryz.prog.wantsStandIn u)=true:=by as_aux_lemma=>kernel_rfl
    exact (show Tryz.prog.wantsStandIn t=false by simpa using zr.1 hall t hm)⟩)
  dP
end Go.Lens.Tb
end
namespace Go.Proofs.YthmgaldefkaglaaGreatDoor
theorem pupilDisc_proved:Rows.PupilDiscCardSaid:=Go.Lens.Tb.pupilDisc_proved
#print axioms pupilDisc_proved
end Go.Proofs.YthmgaldefkaglaaGreatDoor
