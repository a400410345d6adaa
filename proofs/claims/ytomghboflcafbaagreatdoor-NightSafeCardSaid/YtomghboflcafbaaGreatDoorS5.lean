/- Laws of a step by step reckoning of programs, and of the functions of the program that the claims share, without conditions. -/
import Derived.Test.YtomghboflcafbaaGreatDoorS4
section
namespace Go.Lens.Tb
set_option maxRecDepth 1000000
open Go.Proofs
theorem seg0:run (hdC r0) st0=some (.normal,st1):=by kernel_rfl
theorem seg1:run (hdC r1) st1=some (.normal,st2):=by kernel_rfl
theorem seg2:run (hdC r2) st2=some (.normal,st3):=by kernel_rfl
theorem seg5:run (hdC r5) st5=some (.normal,st6):=by kernel_rfl
theorem seg6:run (hdC r6) st6=some (.normal,st7):=by kernel_rfl
theorem seg7:run (hdC r7) st7=some (.normal,st8):=by kernel_rfl
theorem seg8:run (hdC r8) st8=some (.normal,st9):=by kernel_rfl
theorem seg9:run (hdC r9) st9=some (.normal,st10):=by kernel_rfl
theorem seg10:run (hdC r10) st10=some (.normal,st11):=by kernel_rfl
end Go.Lens.Tb
end
