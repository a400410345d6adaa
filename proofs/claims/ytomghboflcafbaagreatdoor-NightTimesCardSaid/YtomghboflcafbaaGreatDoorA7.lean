/- A part of the proof that NightTimesCardSaid holds, without conditions. -/
import Derived.Test.YtomghboflcafbaaGreatDoorA3
set_option linter.unusedVariables false
set_option linter.unusedSimpArgs false
section
namespace Go.Lens.Tb
set_option maxRecDepth 1000000
open Go.Proofs
theorem seg17 : run (hdC r17) st17 = some (.normal, st18) := by kernel_rfl
end Go.Lens.Tb
end
