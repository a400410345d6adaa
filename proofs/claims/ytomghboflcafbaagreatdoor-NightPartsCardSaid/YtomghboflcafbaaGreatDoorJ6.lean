/- A part of the proof that NightPartsCardSaid holds, without conditions. -/
import Derived.Test.YtomghboflcafbaaGreatDoorJ4
import Derived.Test.YtomghboflcafbaaGreatDoorJ5
set_option linter.unusedVariables false
set_option linter.unusedSimpArgs false
section
namespace Go.Lens.Tb
open Go.Proofs Go.Proofs.YtomghboflcafbaaGreatDoor Go.RowKit Go.ChangeShapes Go.WideShapes Go.ChangeAt
set_option linter.unusedSectionVars false
set_option maxRecDepth 100000
theorem nightParts_said (hm : ∀ [Lz], OrcOk Tryz.prog (mergeO 121)) : Rows.NightPartsSaid :=
  OpenClaim.holds_of_wide 10 Tryz.f10 rfl rfl rfl rfl rfl rfl rfl ⟨rfl, rfl, rfl, rfl, rfl⟩ rfl rfl rfl rfl rfl ntName Tryz.func10 ntClosed
    (of_decide_eq_true (by kernel_rfl)) (by unfold Func.isWrapper; first | (rw [if_pos (by decide +kernel)]; kernel_rfl) | (rw [if_neg (by decide +kernel)]; exact ⟨rfl, rfl⟩))
    (fun os started H enc _ => lifted_nightParts hm os started H enc)
end Go.Lens.Tb
end
