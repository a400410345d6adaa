/- A part of the proof that NightLogsCardSaid holds, without conditions. -/
import Derived.Test.YtomghboflcafbaaGreatDoorL4
import Derived.Test.YtomghboflcafbaaGreatDoorL5
set_option linter.unusedVariables false
set_option linter.unusedSimpArgs false
section
namespace Go.Lens.Tb
open Go.Proofs Go.Proofs.YtomghboflcafbaaGreatDoor Go.RowKit Go.ChangeShapes Go.WideShapes Go.ChangeAt
set_option linter.unusedSectionVars false
set_option maxRecDepth 100000
theorem nightLogs_said (hm:∀ [Lz],OrcOk Tryz.prog (mergeO 121)):Rows.NightLogsSaid:=
  OpenClaim.holds_of_wide 11 Tryz.f11 rfl rfl rfl rfl rfl rfl rfl ⟨rfl,rfl,rfl,rfl,rfl⟩ rfl rfl rfl rfl rfl ntName Tryz.func11 ntClosed
    (of_decide_eq_true (by kernel_rfl)) (by unfold Func.isWrapper;first|(rw[if_pos (by decide +kernel)];kernel_rfl)|(rw[if_neg (by decide +kernel)];exact⟨rfl,rfl⟩))
    (fun os started H enc _=>lifted_nightLogs hm os started H enc)
end Go.Lens.Tb
end
