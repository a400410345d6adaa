/- Laws of a step by step reckoning of programs, and of the functions of the program that the claims share, without conditions. -/
import Derived.Test.YtomghboflcafbaaGreatDoorS4
section
namespace Go.Lens.Tb
set_option maxRecDepth 1000000
open Go.Proofs
theorem seg17:run (hdC r17) st17=some (.normal,st18):=by kernel_rfl
end Go.Lens.Tb
end
