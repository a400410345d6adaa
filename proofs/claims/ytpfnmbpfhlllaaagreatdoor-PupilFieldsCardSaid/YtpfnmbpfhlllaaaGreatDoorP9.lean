/- A part of the proof of PupilFieldsCardSaid, without conditions. -/
import Derived.Test.YtpfnmbpfhlllaaaGreatDoorP8
set_option linter.unusedVariables false
set_option linter.unusedSimpArgs false
set_option linter.unusedSectionVars false
set_option maxHeartbeats 4000000
section
namespace Go.Lens.Tb
open Go.Proofs Go.Lens.Un
variable [Lz] [Dn] [Kr]
set_option maxRecDepth 100000
theorem facts_ok (hp:qJ) (hf:jt):kX Tryz.prog (factO [y0Y,y1Y,y2Y,y3Y,y4Y,y5Y,y6Y,y7Y,y8Y,y9Y,y10Y,y11Y,y12Y,y13Y,y14Y,y15Y,y16Y,y17Y]):=factO_ok fun p hm=>by
 simp only[zF,qi,WE] at hm
 rcases hm with rfl|rfl|rfl|rfl|rfl|rfl|rfl|rfl|rfl|rfl|rfl|rfl|rfl|rfl|rfl|rfl|rfl|rfl
 ·exact w0Y
 ·exact w1Y hp hf
 ·exact w2Y hp hf
 ·exact w3Y hp hf
 ·exact w4Y hp hf
 ·exact w5Y hp hf
 ·exact w6Y hp hf
 ·exact w7Y hp hf
 ·exact w8Y hp hf
 ·exact w9Y hp hf
 ·exact w10Y hp hf
 ·exact w11Y hp hf
 ·exact w12Y hp hf
 ·exact w13Y hp hf
 ·exact w14Y hp hf
 ·exact w15Y hp hf
 ·exact w16Y hp hf
 exact w17Y hp hf
theorem w20 (hp:qJ) (hf:jt):CKa 8 [] (vB true):=
 (yBoth_ok (FT:=ft) (X:=xMap) (fr:=frO) mixed (xMap_ok hf) (orO_ok (facts_ok hp hf) (sp_ok hp hf)) ft_ok 30).1 8 1 [] [] (vB true) [] ae
end Go.Lens.Tb
end
