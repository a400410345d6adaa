/- A part of the proof of NightSafeCardSaid, without conditions. -/
import Derived.Test.YtomghboflcafbaaGreatDoorO7
set_option linter.unusedVariables false
set_option linter.unusedSimpArgs false
set_option linter.unusedSectionVars false
section
namespace Go.Lens.Tb
open Go.Proofs Go.Proofs.YtomghboflcafbaaGreatDoor Go.RowKit Go.ChangeShapes Go.WideShapes Go.ChangeAt
set_option maxRecDepth 100000
theorem nightSafe_card (hm:∀ [Lz],HMa):Rows.NightSafeCardSaid:=
  Claim7.holds_tied_plain_at .later [] [.data,.data,.data,.data,.sentinel,.sentinel,.pinned] true (true, "9f793f4d541afdd3266aa47584d3581d66323a8eaf31e79c172e2d43677d94bd") true (nightSafe_said hm) (fun _ h=>by cases h) (by as_aux_lemma=>kernel_rfl) (fun _ h=>by cases h) nightSafe_row_tie rfl ⟨rfl,rfl⟩ (by as_aux_lemma=>kernel_rfl) rfl
    (fun f fn hf hfn=>by
      obtain rfl:f=15:=Option.some.inj ((show Tryz.prog.funcNamed Rows.nightSafeRow.func=some 15 from ntName).symm.trans hf) |>.symm
      obtain rfl:fn=Tryz.f15:=(Option.some.inj (Tryz.func15.symm.trans hfn)).symm
      exact⟨by as_aux_lemma=>kernel_rfl,fun j t ht=>by
        rw[Tryz.params15] at ht
        have hm:t∈[121,5]:=by simpa using Array.mem_of_getElem? ht
        have hall:([121,5].all fun u=>!Tryz.prog.wantsStandIn u)=true:=by as_aux_lemma=>kernel_rfl
        exact (show Tryz.prog.wantsStandIn t=false by simpa using zp.1 hall t hm)⟩)
    (by as_aux_lemma=>kernel_rfl)
end Go.Lens.Tb
end
