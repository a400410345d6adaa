/- A part of the proof that NightKeepsCardSaid holds, without conditions. -/
import Derived.Test.YtomghboflcafbaaGreatDoorG5
set_option linter.unusedVariables false
set_option linter.unusedSimpArgs false
section
namespace Go.Lens.Tb
open Go.Proofs Go.Proofs.YtomghboflcafbaaGreatDoor Go.RowKit Go.ChangeShapes Go.WideShapes Go.ChangeAt
set_option linter.unusedSectionVars false
set_option maxRecDepth 100000
theorem ntF1 : Claim7.holds Tryz.pinned (.plain (OpenSpec.ofChange Rows.nightKeepsSpec)) Rows.nightKeepsCard = Rows.NightKeepsCardSaid := rfl
theorem nightKeeps_card (hm : ∀ [Lz], OrcOk Tryz.prog (mergeO 121)) : Rows.NightKeepsCardSaid :=
  Claim7.holds_tied_plain_at .later [] [.data, .data, .data, .data, .sentinel, .sentinel, .pinned] true (true, "9f793f4d541afdd3266aa47584d3581d66323a8eaf31e79c172e2d43677d94bd") true (nightKeeps_said hm) (fun _ h => by cases h) (by as_aux_lemma => kernel_rfl) (fun _ h => by cases h) nightKeeps_row_tie rfl ⟨rfl, rfl⟩ (by as_aux_lemma => kernel_rfl) rfl
    (fun f fn hf hfn => by
      obtain rfl : f = 8 := Option.some.inj ((show Tryz.prog.funcNamed Rows.nightKeepsRow.func = some 8 from ntName).symm.trans hf) |>.symm
      obtain rfl : fn = Tryz.f8 := (Option.some.inj (Tryz.func8.symm.trans hfn)).symm
      exact ⟨by as_aux_lemma => kernel_rfl, fun j t ht => by
        rw [Tryz.params8] at ht
        have hm : t ∈ [59, 59, 59] := by simpa using Array.mem_of_getElem? ht
        have hall : ([59, 59, 59].all fun u => !Tryz.prog.wantsStandIn u) = true := by as_aux_lemma => kernel_rfl
        exact (show Tryz.prog.wantsStandIn t = false by simpa using List.all_eq_true.1 hall t hm)⟩)
    (by as_aux_lemma => kernel_rfl)
end Go.Lens.Tb
end
