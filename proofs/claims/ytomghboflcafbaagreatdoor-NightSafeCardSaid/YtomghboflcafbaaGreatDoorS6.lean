/- Laws of a step by step reckoning of programs, and of the functions of the program that the claims share, without conditions. -/
import Derived.Test.YtomghboflcafbaaGreatDoorS4
section
namespace Go.Lens.Tb
set_option maxRecDepth 1000000
open Go.Proofs
theorem seg3:run (hdC r3) st3=some (.normal,st4):=by kernel_rfl
theorem seg4:run (hdC r4) st4=some (.normal,st5):=by kernel_rfl
end Go.Lens.Tb
end
