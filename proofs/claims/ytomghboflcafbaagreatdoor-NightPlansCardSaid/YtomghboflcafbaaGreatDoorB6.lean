/- A part of the proof that NightPlansCardSaid holds, without conditions. -/
import Derived.Test.YtomghboflcafbaaGreatDoorB5
set_option linter.unusedVariables false
set_option linter.unusedSimpArgs false
section
namespace Go.Lens.Tb
open Go.Proofs Go.Proofs.YtomghboflcafbaaGreatDoor Go.RowKit Go.ChangeShapes Go.WideShapes Go.ChangeAt
set_option linter.unusedSectionVars false
set_option maxRecDepth 100000
theorem nightPlans_card (hm : ∀ [Lz], OrcOk Tryz.prog (mergeO 121)) : Rows.NightPlansCardSaid :=
  Claim7.holds_tied_plain_at .later [] [.data, .data, .data, .data, .sentinel, .sentinel, .pinned] true (true, "9f793f4d541afdd3266aa47584d3581d66323a8eaf31e79c172e2d43677d94bd") true (nightPlans_said hm) (fun _ h => by cases h) (by as_aux_lemma => kernel_rfl) (fun _ h => by cases h) nightPlans_row_tie rfl ⟨rfl, rfl⟩ (by as_aux_lemma => kernel_rfl) rfl
    (fun f fn hf hfn => by
      obtain rfl : f = 4 := Option.some.inj ((show Tryz.prog.funcNamed Rows.nightPlansRow.func = some 4 from ntName).symm.trans hf) |>.symm
      obtain rfl : fn = Tryz.f4 := (Option.some.inj (Tryz.func4.symm.trans hfn)).symm
      exact ⟨by as_aux_lemma => kernel_rfl, fun j t ht => by
        rw [Tryz.params4] at ht
        have hm : t ∈ [24, 25] := by simpa using Array.mem_of_getElem? ht
        have hall : ([24, 25].all fun u => !Tryz.prog.wantsStandIn u) = true := by as_aux_lemma => kernel_rfl
        exact (show Tryz.prog.wantsStandIn t = false by simpa using List.all_eq_true.1 hall t hm)⟩)
    (by as_aux_lemma => kernel_rfl)
end Go.Lens.Tb
end
