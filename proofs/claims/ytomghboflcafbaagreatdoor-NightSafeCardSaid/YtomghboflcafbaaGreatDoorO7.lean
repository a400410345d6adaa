/- A part of the proof of NightSafeCardSaid, without conditions. -/
import Derived.Test.YtomghboflcafbaaGreatDoorO5
import Derived.Test.YtomghboflcafbaaGreatDoorO6
set_option linter.unusedVariables false
set_option linter.unusedSimpArgs false
set_option linter.unusedSectionVars false
section
namespace Go.Lens.Tb
open Go.Proofs Go.Proofs.YtomghboflcafbaaGreatDoor Go.RowKit Go.ChangeShapes Go.WideShapes Go.ChangeAt
set_option maxRecDepth 100000
theorem nightSafe_said (hm:∀ [Lz],HMa):Rows.NightSafeSaid:=
  OpenClaim.holds_of_wide 15 Tryz.f15 Z Z Z Z Z Z Z ⟨rfl,rfl,rfl,rfl,rfl⟩ rfl rfl Z Z Z ntName Tryz.func15 ntClosed
    (of_decide_eq_true (by kernel_rfl)) (by unfold Func.isWrapper;first|(rw[if_pos (by decide +kernel)];kernel_rfl)|(rw[if_neg (by decide +kernel)];exact⟨rfl,rfl⟩))
    (fun os started H enc _=>lifted_nightSafe hm os started H enc)
end Go.Lens.Tb
end
