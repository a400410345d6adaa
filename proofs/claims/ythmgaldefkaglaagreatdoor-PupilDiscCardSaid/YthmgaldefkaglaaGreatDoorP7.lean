/- A part of the proof of PupilDiscCardSaid, without conditions. -/
import Derived.Test.YthmgaldefkaglaaGreatDoorP6
set_option linter.unusedVariables false
set_option linter.unusedSimpArgs false
set_option linter.unusedSectionVars false
set_option maxHeartbeats 4000000
section
namespace Go.Lens.Tb
open Go.Proofs Go.Lens.Un
variable [Lz] [Dn]
set_option maxRecDepth 100000
section
variable {P R:PL} {x y:Qn} {v u:List Qn}
instance:Decidable (DotOk v u x):=by unfold DotOk;exact inferInstance
instance:Decidable (LessOk v x u):=by unfold LessOk;exact inferInstance
instance {k:KI} {r:Rat}:Decidable (EvT P x y k r):=by unfold EvT;exact inferInstance
instance:Decidable (EvOk P x y):=by unfold EvOk;exact inferInstance
instance:Decidable (SvOk P x y):=by unfold SvOk;exact inferInstance
instance:Decidable (DrOk P):=by unfold DrOk;exact inferInstance
instance:Decidable (DiOk P R):=by unfold DiOk;exact inferInstance
instance:Decidable (kZ v):=by unfold kZ;exact inferInstance
instance:Decidable (OrOk v u):=by unfold OrOk;exact inferInstance
instance:Decidable (SzL v):=by unfold SzL;exact inferInstance
theorem okP_i:((∀ k∈P.map (·.1),0<=k.1/\0<=k.2/\k.1+k.2<=32)/\P.length<=100000/\NB P 536870912)↔OkP P:=⟨fun h=>⟨h.1,h.2.1,h.2.2⟩,fun h=>⟨h.k32,h.len,h.sz⟩⟩
instance:Decidable (OkP P):=decidable_of_iff _ okP_i
theorem baU_i:(v.length=u.length/\v.length<=1000000/\DotOk v u frZ/\u.length<=1000000/\DotOk u u frZ/\sz (Qn.q (jF v u frZ))+sz (Qn.q (jF u u frZ))<=62/\Qn.q (jF u u frZ)≠0/\LessOk v (exC v u) u)↔BaU v u:=
 ⟨fun h=>⟨h.1,h.2.1,h.2.2.1,h.2.2.2.1,h.2.2.2.2.1,h.2.2.2.2.2.1,h.2.2.2.2.2.2.1,h.2.2.2.2.2.2.2⟩,fun h=>⟨h.q,h.r,h.d,h.n,h.e,h.s,h.z,h.l⟩⟩
instance:Decidable (BaU v u):=decidable_of_iff _ baU_i
theorem exK_i {b:List (List (List UInt8))} {h:List (List UInt8)} {k:Nat}:BaU (expS (List.map qJ h) (List.take k (orT b))).2 (List.getD (orT b) k [])↔ExK b h k:=
 ⟨fun h=>⟨h.q,h.r,h.d,h.n,h.e,h.s,h.z,h.l⟩,fun h=>⟨h.q,h.r,h.d,h.n,h.e,h.s,h.z,h.l⟩⟩
instance {b:List (List (List UInt8))} {h:List (List UInt8)} {k:Nat}:Decidable (ExK b h k):=decidable_of_iff _ exK_i
instance {b:List (List (List UInt8))} {h:List (List UInt8)}:Decidable (ExOk b h):=by unfold ExOk;exact inferInstance
instance {p:Pu} {l:List (List Trm)}:Decidable (BaOk p l):=by unfold BaOk;exact inferInstance
end
abbrev awP:Pu:=⟨4,[49],[49,47,50],[]⟩
abbrev awV:Pu:=⟨4,[49],[49,47,50],[⟨1,0,1,[49,47,51]⟩]⟩
instance {v:Van}:Decidable (VS v):=by unfold VS;exact inferInstance
theorem PuB.mk' {p:Pu} (h:(List.length (Pu.a p)<=18/\sz (Qn.q (qJ (Pu.a p)))<=4/\List.length (Pu.h p)<=18/\sz (Qn.q (qJ (Pu.h p)))<=4)/\List.length (Pu.v p)<=1000000/\∀ v∈Pu.v p,List.length (Van.b v)<=18/\sz (Qn.q (qJ (Van.b v)))<=9/\VS v):PuB p:=
 ⟨h.1.1,fun _=>h.1.2.1,h.1.2.2.1,fun _=>h.1.2.2.2,h.2.1,fun v hv=>(h.2.2 v hv).1,fun v hv _=>(h.2.2 v hv).2⟩
theorem awPb:PuB awP:=PuB.mk' (dc ae)
theorem awVb:PuB awV:=PuB.mk' (dc ae)
abbrev awC:List KI:=[(1,0),(2,0),(0,1),(3,1),(0,2),(3,2),(1,3),(2,3)]
theorem awC_e:celL awP=awC/\puE awP=0:=dc ae
abbrev awD:List KI:=[(1,0),(2,0),(0,1),(0,2),(1,3),(2,3)]
theorem awD_e:celL awV=awD/\puE awV=0:=dc ae
abbrev awZ:List Trm:=[⟨[45,49],0,0⟩,⟨[50],2,0⟩,⟨[50],0,2⟩]
abbrev awW:List Trm:=[⟨[45,50],1,0⟩,⟨[51],3,0⟩,⟨[51],1,2⟩]
abbrev awXY:List Trm:=[⟨[50],1,1⟩]
abbrev awY:List Trm:=[⟨[50],0,1⟩]
abbrev awT:List Trm:=[⟨[45,49],1,0⟩]
abbrev awX:List Trm:=[⟨[49],1,0⟩]
abbrev awJ:List Trm:=[⟨[49],0,1⟩]
abbrev aw1:List Trm:=[⟨[49],0,0⟩]
abbrev awF:List Trm:=[⟨[50],0,0⟩,⟨[52],1,0⟩]
abbrev awI:List Trm:=[⟨[49],2,0⟩]
instance:DecidableEq Trm:=fun a b=>decidable_of_iff (Trm.c a=Trm.c b/\Trm.i a=Trm.i b/\Trm.j a=Trm.j b) ⟨fun h=>by cases a;cases b;simp_all,fun h=>by rw[h];exact⟨rfl,rfl,rfl⟩⟩
abbrev awB:List (List (List UInt8)):=[[[49],[49],[49],[49],[49],[49],[49],[49]],[[45,49,47,52],[49,47,52],[45,51,47,52],[51,47,52],[45,51,47,52],[51,47,52],[45,49,47,52],[49,47,52]]]
theorem awz_1:erL (zeE 2 0) (polT (zeP 2 0))=awZ/\erE (zeE 2 0) (polE (zeP 2 0))=0:=dc ae
theorem awz_2:erL (zeE 3 1) (polT (zeP 3 1))=awW/\erE (zeE 3 1) (polE (zeP 3 1))=0:=dc ae
theorem awz_3:erL (zeE 2 (-2)) (polT (zeP 2 (-2)))=awXY/\erE (zeE 2 (-2)) (polE (zeP 2 (-2)))=0:=dc ae
theorem awv:(OkP (plF awZ)/\EvOk (plF awZ) (qJ [49,47,52]) (qJ [51,47,52]))/\erL (qB [qQ awZ,jg [49,47,52],jg [51,47,52]]) (resT (evP (plF awZ) (Qn.q (qJ [49,47,52])) (Qn.q (qJ [51,47,52]))))=[49,47,52]/\erE (qB [qQ awZ,jg [49,47,52],jg [51,47,52]]) (resE (evP (plF awZ) (Qn.q (qJ [49,47,52])) (Qn.q (qJ [51,47,52]))))=0:=dc ae
theorem awd_1:DiOk (plF awZ) (plF awZ)/\erL (jy awZ awZ) (resT (lin dF (qO (plF awZ) (plF awZ))))=[49,47,51]/\erE (jy awZ awZ) (resE (lin dF (qO (plF awZ) (plF awZ))))=0:=dc ae
theorem awd_2:DiOk (plF awX) (plF awX)/\erL (jy awX awX) (resT (lin dF (qO (plF awX) (plF awX))))=[49,47,52]/\erE (jy awX awX) (resE (lin dF (qO (plF awX) (plF awX))))=0:=dc ae
theorem awy:(OkP (plF awXY)/\DrOk (plF awXY))/\erL (qB [qQ awXY,qR (!(axB [120])) 13]) (polT (j1 (axI [120]) (plF awXY)))=awY/\erE (qB [qQ awXY,qR (!(axB [120])) 13]) (polE (j1 (axI [120]) (plF awXY)))=0:=dc ae
theorem awt:(OkP (plF awJ)/\DrOk (plF awJ))/\erL (qQ awJ) (polT (turP (plF awJ)))=awT/\erE (qQ awJ) (polE (turP (plF awJ)))=0:=dc ae
theorem awb_1:BaOk awP [aw1,awX]/\baX awP [aw1,awX]=(awB,0):=dc ae
theorem awb_2:BaOk awP [aw1,awZ]/\baX awP [aw1,awZ]=([],14):=dc ae
theorem aws:(OkP (plF awF)/\∀ a∈kN awP,EvOk (plF awF) (Prod.fst a) (Prod.snd a))/\smE awP awF=0:=dc ae
abbrev awH:List (List UInt8):=[[49],[51],[45,49],[53],[45,49],[53],[49],[51]]
theorem aws_t:smT awP awF=awH:=dc ae
instance {b:List (List (List UInt8))}:Decidable (∀ v∈bQ b,∀ u∈bQ b,OrOk v u):=inferInstance
theorem awe:((∀ v∈bQ awB,∀ u∈bQ awB,OrOk v u)/\ExOk awB awH)/\exX awB awH=([[50],[52]],[[48],[48],[48],[48],[48],[48],[48],[48]],0):=dc ae
abbrev awG:List (List UInt8):=[[49],[50],[54]]
theorem awf:kZ (List.map qJ awG)/\flT awG=[[45,50],[45,49],[51]]/\flP awG=[51]/\flE awG=0:=dc ae
theorem awa:(DotOk (js (List.map qJ awG)) (js (List.map qJ awG)) frZ/\sz (Qn.q (jF (js (List.map qJ awG)) (js (List.map qJ awG)) frZ))<=31)/\vaT awG=[49,52,47,51]/\vaE awG=0:=dc ae
theorem awl_1:(OkP (plF awI)/\DrOk (plF awI))/\OkP (j1 0 (plF awI))/\OkP (j1 1 (plF awI)):=dc ae
theorem awl_2:slX awP awI (2,0) 2=([49],[48])/\slE awP awI (2,0) 2=0:=dc ae
theorem awl_3:∀ c∈List.range 4,∀ r∈List.range 4,slO (2,0) 2 ((c:Nat):Int) ((r:Nat):Int)=false->SvOk (j1 0 (plF awI)) (jc 4 ((c:Nat):Int)) (jc 4 ((r:Nat):Int))/\SvOk (j1 1 (plF awI)) (jc 4 ((c:Nat):Int)) (jc 4 ((r:Nat):Int)):=dc ae
theorem awl:SlHz awP awI (2,0) 2:=fun _=>⟨awl_1.1.1,awl_1.1.2,awl_1.2.1,awl_1.2.2,fun c r h1 h2 h3 h4 ho=>by
 obtain⟨a,rfl⟩:=Int.eq_ofNat_of_zero_le h1
 obtain⟨b,rfl⟩:=Int.eq_ofNat_of_zero_le h3
 exact awl_3 a (List.mem_range.2 (Int.ofNat_lt.1 h2)) b (List.mem_range.2 (Int.ofNat_lt.1 h4)) ho⟩
end Go.Lens.Tb
end
