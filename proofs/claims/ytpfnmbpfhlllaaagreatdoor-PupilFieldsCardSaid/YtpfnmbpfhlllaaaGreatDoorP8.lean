/- A part of the proof of PupilFieldsCardSaid, without conditions. -/
import Derived.Test.YtpfnmbpfhlllaaaGreatDoorP7
set_option linter.unusedVariables false
set_option linter.unusedSimpArgs false
set_option linter.unusedSectionVars false
set_option maxHeartbeats 4000000
section
namespace Go.Lens.Tb
open Go.Proofs Go.Lens.Un
set_option maxRecDepth 100000
abbrev g1:PV:=pS (bsO [49])
abbrev g1o2:PV:=pS (bsO [49,47,50])
abbrev g1o3:PV:=pS (bsO [49,47,51])
abbrev gm1:PV:=pS (bsO [45,49])
abbrev g2:PV:=pS (bsO [50])
abbrev gm1o4:PV:=pS (bsO [45,49,47,52])
abbrev g1o4:PV:=pS (bsO [49,47,52])
abbrev gm3o4:PV:=pS (bsO [45,51,47,52])
abbrev g3o4:PV:=pS (bsO [51,47,52])
abbrev g3:PV:=pS (bsO [51])
abbrev g5:PV:=pS (bsO [53])
abbrev g4:PV:=pS (bsO [52])
abbrev g0:PV:=pS (bsO [48])
abbrev g6:PV:=pS (bsO [54])
abbrev gm2:PV:=pS (bsO [45,50])
abbrev g14o3:PV:=pS (bsO [49,52,47,51])
abbrev ppY:PV:=.agg [pI 4,g1,g1o2,.slice []]
abbrev pzY:PV:=.slice [[gm1,pI 0,pI 0],[g2,pI 2,pI 0],[g2,pI 0,pI 2]]
abbrev pxY:PV:=.slice [[g1,pI 1,pI 0]]
abbrev pbY:PV:=.slice [[.slice [[g1],[g1],[g1],[g1],[g1],[g1],[g1],[g1]]],[.slice [[gm1o4],[g1o4],[gm3o4],[g3o4],[gm3o4],[g3o4],[gm1o4],[g1o4]]]]
abbrev phY:PV:=.slice [[g1],[g3],[gm1],[g5],[gm1],[g5],[g1],[g3]]
def y1Y:Nat×List PV×DV:=(38,[ppY],.tup [.pv (.slice [[pI 1,pI 0],[pI 2,pI 0],[pI 0,pI 1],[pI 3,pI 1],[pI 0,pI 2],[pI 3,pI 2],[pI 1,pI 3],[pI 2,pI 3]]),vI 0])
def y2Y:Nat×List PV×DV:=(38,[.agg [pI 4,g1,g1o2,.slice [[pI 1,pI 0,pI 1,g1o3]]]],.tup [.pv (.slice [[pI 1,pI 0],[pI 2,pI 0],[pI 0,pI 1],[pI 0,pI 2],[pI 1,pI 3],[pI 2,pI 3]]),vI 0])
def y3Y:Nat×List PV×DV:=(40,[ppY,.slice [[.slice [[g1,pI 0,pI 0]]],[pxY]]],.tup [.pv (pbY),vI 0])
def y4Y:Nat×List PV×DV:=(40,[ppY,.slice [[.slice [[g1,pI 0,pI 0]]],[pzY]]],.tup [.nils,vI 14])
def y5Y:Nat×List PV×DV:=(42,[ppY,.slice [[g2,pI 0,pI 0],[g4,pI 1,pI 0]]],.tup [.pv (phY),vI 0])
def y6Y:Nat×List PV×DV:=(43,[pbY,phY],.tup [.pv (.slice [[g2],[g4]]),.pv (.slice [[g0],[g0],[g0],[g0],[g0],[g0],[g0],[g0]]),vI 0])
def y7Y:Nat×List PV×DV:=(44,[.slice [[g1],[g2],[g6]]],.tup [.pv (.slice [[gm2],[gm1],[g3]]),.pv g3,vI 0])
def y8Y:Nat×List PV×DV:=(45,[.slice [[g1],[g2],[g6]]],.tup [.pv g14o3,vI 0])
def y9Y:Nat×List PV×DV:=(46,[ppY,.slice [[g1,pI 2,pI 0]],.agg [pI 2,pI 0],pI 2],.tup [.pv (.agg [g1,g0]),vI 0])
def y10Y:Nat×List PV×DV:=(39,[pI 2,pI 0],.tup [.pv (pzY),vI 0])
def y11Y:Nat×List PV×DV:=(39,[pI 3,pI 1],.tup [.pv (.slice [[gm2,pI 1,pI 0],[g3,pI 3,pI 0],[g3,pI 1,pI 2]]),vI 0])
def y12Y:Nat×List PV×DV:=(39,[pI 2,pI (-2)],.tup [.pv (.slice [[g2,pI 1,pI 1]]),vI 0])
def y13Y:Nat×List PV×DV:=(9,[pzY,.agg [g1o4,g3o4]],.tup [.pv g1o4,vI 0])
def y14Y:Nat×List PV×DV:=(21,[pzY,pzY],.tup [.pv g1o3,vI 0])
def y15Y:Nat×List PV×DV:=(21,[pxY,pxY],.tup [.pv g1o4,vI 0])
def y16Y:Nat×List PV×DV:=(11,[.slice [[g2,pI 1,pI 1]],pS (bsO [120])],.tup [.pv (.slice [[g2,pI 0,pI 1]]),vI 0])
def y17Y:Nat×List PV×DV:=(12,[.slice [[g1,pI 0,pI 1]]],.tup [.pv (.slice [[gm1,pI 1,pI 0]]),vI 0])
def y0Y:Nat×List PV×DV:=(37,[],.pv ppY)
variable [Lz] [Dn] [Kr]
abbrev FaOk (p:Nat×List PV×DV):Prop:=qA Tryz.prog p.1 (p.2.1.map .pv) (qr []) p.2.2 []
theorem w0Y:FaOk y0Y:=by
 exact cG qf37 Z (nB Z) Z (E Z (B.bN Z Z) (E Z (B.runZ Z (fun l=>Frz.aggN l Z) Z) (Rt Z (lF Z Z))))
theorem w1Y (hp:qJ) (hf:jt):FaOk y1Y:=fact hp hf (F:=fn38) ae ae
theorem w2Y (hp:qJ) (hf:jt):FaOk y2Y:=fact hp hf (F:=fn38) ae ae
theorem w3Y (hp:qJ) (hf:jt):FaOk y3Y:=fact hp hf (F:=fn40) ae ae
theorem w4Y (hp:qJ) (hf:jt):FaOk y4Y:=fact hp hf (F:=fn40) ae ae
theorem w5Y (hp:qJ) (hf:jt):FaOk y5Y:=fact hp hf (F:=fn42) ae ae
theorem w6Y (hp:qJ) (hf:jt):FaOk y6Y:=fact hp hf (F:=fn43) ae ae
theorem w7Y (hp:qJ) (hf:jt):FaOk y7Y:=fact hp hf (F:=fn44) ae ae
theorem w8Y (hp:qJ) (hf:jt):FaOk y8Y:=fact hp hf (F:=fn45) ae ae
theorem w9Y (hp:qJ) (hf:jt):FaOk y9Y:=fact hp hf (F:=fn46) ae ae
theorem w10Y (hp:qJ) (hf:jt):FaOk y10Y:=fact hp hf (F:=fn39) ae ae
theorem w11Y (hp:qJ) (hf:jt):FaOk y11Y:=fact hp hf (F:=fn39) ae ae
theorem w12Y (hp:qJ) (hf:jt):FaOk y12Y:=fact hp hf (F:=fn39) ae ae
theorem w13Y (hp:qJ) (hf:jt):FaOk y13Y:=sp_ok hp hf _ 1 _ [] _ [] ae
theorem w14Y (hp:qJ) (hf:jt):FaOk y14Y:=sp_ok hp hf _ 1 _ [] _ [] ae
theorem w15Y (hp:qJ) (hf:jt):FaOk y15Y:=sp_ok hp hf _ 1 _ [] _ [] ae
theorem w16Y (hp:qJ) (hf:jt):FaOk y16Y:=sp_ok hp hf _ 1 _ [] _ [] ae
theorem w17Y (hp:qJ) (hf:jt):FaOk y17Y:=sp_ok hp hf _ 1 _ [] _ [] ae
end Go.Lens.Tb
end
