/- PupilProductsCardSaid holds, without conditions. -/
import Derived.Test.YtpfnmbpfhlllaaaGreatDoorP11
import Derived.Test.YtpfnmbpfhlllaaaGreatDoorP12
set_option linter.unusedVariables false
set_option linter.unusedSimpArgs false
set_option linter.unusedSectionVars false
set_option maxHeartbeats 4000000
section
namespace Go.Lens.Tb
open Go.Proofs Go.Proofs.YtpfnmbpfhlllaaaGreatDoor Go.RowKit Go.ChangeShapes Go.WideShapes Go.ChangeAt
set_option maxRecDepth 100000
theorem pupilProducts_said:Rows.PupilProductsSaid:=
 OpenClaim.holds_of_wide 4 Tryz.f4 Z Z Z Z Z Z Z ⟨rfl,rfl,rfl,rfl,rfl⟩ rfl rfl Z Z Z ntName Tryz.func4 ntClosed
  (of_decide_eq_true ae) (by unfold Func.isWrapper;first|(rw[if_pos (by decide +kernel)];kernel_rfl)|(rw[if_neg (by decide +kernel)];exact⟨rfl,rfl⟩))
  (fun os started H enc _=>lifted_pupilProducts os started H enc)
theorem pupilProducts_proved:Rows.PupilProductsCardSaid:=
 Claim7.holds_tied_plain_at .later [] [.data,.data,.data,.data,.sentinel,.sentinel,.data,.pinned] true (true, "d3ec5d27d2636bc1b04659fca6529d2bab324ffe4b742d7d1b18da118d7ca9a5") true pupilProducts_said (fun _ h=>by cases h) eA (fun _ h=>by cases h) pupilProducts_row_tie rfl ⟨rfl,rfl⟩ eA rfl
  (fun f fn hf hfn=>by
   obtain rfl:f=4:=Option.some.inj ((show Tryz.prog.funcNamed Rows.pupilProductsRow.func=some 4 from ntName).symm.trans hf) |>.symm
   obtain rfl:fn=Tryz.f4:=(Option.some.inj (Tryz.func4.symm.trans hfn)).symm
   exact⟨by as_aux_lemma=>kernel_rfl,fun j t ht=>by
    rw[Tryz.params4] at ht
    have hm:t∈[22,22]:=by simpa using Array.mem_of_getElem? ht
    have hall:([22,22].all fun u=>!Tryz.prog.wantsStandIn u)=true:=by as_aux_lemma=>kernel_rfl
    exact (show Tryz.prog.wantsStandIn t=false by simpa using zr.1 hall t hm)⟩)
  eA
end Go.Lens.Tb
end
namespace Go.Proofs.YtpfnmbpfhlllaaaGreatDoor
theorem pupilProducts_proved:Rows.PupilProductsCardSaid:=Go.Lens.Tb.pupilProducts_proved
#print axioms pupilProducts_proved
end Go.Proofs.YtpfnmbpfhlllaaaGreatDoor
