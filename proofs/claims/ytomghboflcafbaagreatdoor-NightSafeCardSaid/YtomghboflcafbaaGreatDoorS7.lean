/- Laws of a step by step reckoning of programs, and of the functions of the program that the claims share, without conditions. -/
import Derived.Test.YtomghboflcafbaaGreatDoorS4
section
namespace Go.Lens.Tb
set_option maxRecDepth 1000000
open Go.Proofs
theorem seg11:run (hdC r11) st11=some (.normal,st12):=by kernel_rfl
theorem seg12:run (hdC r12) st12=some (.normal,st13):=by kernel_rfl
theorem seg13:run (hdC r13) st13=some (.normal,st14):=by kernel_rfl
theorem seg14:run (hdC r14) st14=some (.normal,st15):=by kernel_rfl
theorem seg15:run (hdC r15) st15=some (.normal,st16):=by kernel_rfl
theorem seg16:run (hdC r16) st16=some (.normal,st17):=by kernel_rfl
end Go.Lens.Tb
end
