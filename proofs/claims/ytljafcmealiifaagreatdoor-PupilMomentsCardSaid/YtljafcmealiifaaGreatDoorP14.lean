/- PupilMomentsCardSaid holds, without conditions. -/
import Derived.Test.YtljafcmealiifaaGreatDoorP12
import Derived.Test.YtljafcmealiifaaGreatDoorP13
set_option linter.unusedVariables false
set_option linter.unusedSimpArgs false
set_option linter.unusedSectionVars false
set_option maxHeartbeats 4000000
section
namespace Go.Lens.Tb
open Go.Proofs Go.Proofs.YtljafcmealiifaaGreatDoor Go.RowKit Go.ChangeShapes Go.WideShapes Go.ChangeAt
set_option maxRecDepth 100000
theorem pupilMoments_said:Rows.PupilMomentsSaid:=
 OpenClaim.holds_of_wide 3 Tryz.f3 Z Z Z Z Z Z Z ⟨rfl,rfl,rfl,rfl,rfl⟩ rfl rfl Z Z Z ntName Tryz.func3 ntClosed
  (of_decide_eq_true ae) (by unfold Func.isWrapper;first|(rw[if_pos (by decide +kernel)];kernel_rfl)|(rw[if_neg (by decide +kernel)];exact⟨rfl,rfl⟩))
  (fun os started H enc _=>lifted_pupilMoments os started H enc)
theorem pupilMoments_proved:Rows.PupilMomentsCardSaid:=
 Claim7.holds_tied_plain_at .later [] [.data,.data,.data,.data,.sentinel,.sentinel,.data,.pinned] true (true, "0bc63d627b913e700f223190d193b3bb01392efcaca7a8a14e846a0ff94fd5d5") true pupilMoments_said (fun _ h=>by cases h) eW (fun _ h=>by cases h) pupilMoments_row_tie rfl ⟨rfl,rfl⟩ eW rfl
  (fun f fn hf hfn=>by
   obtain rfl:f=3:=Option.some.inj ((show Tryz.prog.funcNamed Rows.pupilMomentsRow.func=some 3 from ntName).symm.trans hf) |>.symm
   obtain rfl:fn=Tryz.f3:=(Option.some.inj (Tryz.func3.symm.trans hfn)).symm
   exact⟨by as_aux_lemma=>kernel_rfl,fun j t ht=>by
    rw[Tryz.params3] at ht
    have hm:t∈[22]:=by simpa using Array.mem_of_getElem? ht
    have hall:([22].all fun u=>!Tryz.prog.wantsStandIn u)=true:=by as_aux_lemma=>kernel_rfl
    exact (show Tryz.prog.wantsStandIn t=false by simpa using zr.1 hall t hm)⟩)
  eW
end Go.Lens.Tb
end
namespace Go.Proofs.YtljafcmealiifaaGreatDoor
theorem pupilMoments_proved:Rows.PupilMomentsCardSaid:=Go.Lens.Tb.pupilMoments_proved
#print axioms pupilMoments_proved
end Go.Proofs.YtljafcmealiifaaGreatDoor
