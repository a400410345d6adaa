/- Laws of a step by step reckoning of programs, and of the functions of the program that the claims share, without conditions. -/
import Derived.Test.YtomghboflcafbaaGreatDoorS4
section
namespace Go.Lens.Tb
set_option maxRecDepth 1000000
open Go.Proofs
theorem seg18:run (hdC r18) st18=some (.normal,st19):=by kernel_rfl
theorem seg19:run (hdC r19) st19=some (.normal,st20):=by kernel_rfl
theorem seg20:run (hdC r20) st20=some (.normal,st21):=by kernel_rfl
end Go.Lens.Tb
end
