/- A part of the proof that NightPartsCardSaid holds, without conditions. -/
import Derived.Test.YtomghboflcafbaaGreatDoorJ6
set_option linter.unusedVariables false
set_option linter.unusedSimpArgs false
section
namespace Go.Lens.Tb
open Go.Proofs Go.Proofs.YtomghboflcafbaaGreatDoor Go.RowKit Go.ChangeShapes Go.WideShapes Go.ChangeAt
set_option linter.unusedSectionVars false
set_option maxRecDepth 100000
theorem ntF1 : Claim7.holds Tryz.pinned (.plain (OpenSpec.ofChange Rows.nightPartsSpec)) Rows.nightPartsCard = Rows.NightPartsCardSaid := rfl
theorem nightParts_card (hm : ∀ [Lz], OrcOk Tryz.prog (mergeO 121)) : Rows.NightPartsCardSaid :=
  Claim7.holds_tied_plain_at .later [] [.data, .data, .data, .data, .sentinel, .sentinel, .pinned] true (true, "9f793f4d541afdd3266aa47584d3581d66323a8eaf31e79c172e2d43677d94bd") true (nightParts_said hm) (fun _ h => by cases h) (by as_aux_lemma => kernel_rfl) (fun _ h => by cases h) nightParts_row_tie rfl ⟨rfl, rfl⟩ (by as_aux_lemma => kernel_rfl) rfl
    (fun f fn hf hfn => by
      obtain rfl : f = 10 := Option.some.inj ((show Tryz.prog.funcNamed Rows.nightPartsRow.func = some 10 from ntName).symm.trans hf) |>.symm
      obtain rfl : fn = Tryz.f10 := (Option.some.inj (Tryz.func10.symm.trans hfn)).symm
      exact ⟨by as_aux_lemma => kernel_rfl, fun j t ht => by
        rw [Tryz.params10] at ht
        have hm : t ∈ [82, 82, 3] := by simpa using Array.mem_of_getElem? ht
        have hall : ([82, 82, 3].all fun u => !Tryz.prog.wantsStandIn u) = true := by as_aux_lemma => kernel_rfl
        exact (show Tryz.prog.wantsStandIn t = false by simpa using List.all_eq_true.1 hall t hm)⟩)
    (by as_aux_lemma => kernel_rfl)
end Go.Lens.Tb
end
