/- A part of the proof of PupilModesCardSaid, without conditions. -/
import Derived.Test.YthmgaldefkaglaaGreatDoorP7
import Derived.Test.YthmgaldefkaglaaGreatDoorP4
import Derived.Test.YthmgaldefkaglaaGreatDoorP3
set_option linter.unusedVariables false
set_option linter.unusedSimpArgs false
set_option linter.unusedSectionVars false
set_option maxHeartbeats 4000000
section
namespace Go.Lens.Tb
open Go.Proofs Go.Lens.Un
variable [Lz] [Dn]
set_option maxRecDepth 100000
attribute [local irreducible] TK PK T RG EfR Body CG
theorem a68a:CKa 68 [.pv (.agg [pI 4,pS (bsO [49]),pS (bsO [49,47,50]),pL eV []])] (.tup [vL eK awC,vI 0]):=by
 have h:=w68 awP awPb
 rw[awC_e.1,awC_e.2] at h
 exact h
theorem a68b:CKa 68 [.pv (.agg [pI 4,pS (bsO [49]),pS (bsO [49,47,50]),pL eV [⟨1,0,1,[49,47,51]⟩]])] (.tup [vL eK awD,vI 0]):=by
 have h:=w68 awV awVb
 rw[awD_e.1,awD_e.2] at h
 exact h
theorem a16a (hp:qZ) (hf:FacLaid):CKa 16 [vI 2,vI 0] (.tup [vL eY awZ,vI 0]):=by
 have h:=w16 hp hf 2 0
 rw[awz_1.1,awz_1.2] at h
 exact h
theorem a16b (hp:qZ) (hf:FacLaid):CKa 16 [vI 3,vI 1] (.tup [vL eY awW,vI 0]):=by
 have h:=w16 hp hf 3 1
 rw[awz_2.1,awz_2.2] at h
 exact h
theorem a16c (hp:qZ) (hf:FacLaid):CKa 16 [vI 2,vI (-2)] (.tup [vL eY awXY,vI 0]):=by
 have h:=w16 hp hf 2 (-2)
 rw[awz_3.1,awz_3.2] at h
 exact h
theorem a22 (hp:qZ):CKa 22 [vL eY awZ,.pv (.agg [pS (bsO [49,47,52]),pS (bsO [51,47,52])])] (.tup [vS (bsO [49,47,52]),vI 0]):=by
 have h:=w22 hp awZ [49,47,52] [51,47,52] ah ah ah ah (fun _=>awv.1)
 rw[awv.2.1,awv.2.2] at h
 exact h
theorem a33a (hp:qZ):CKa 33 [vL eY awZ,vL eY awZ] (.tup [vS (bsO [49,47,51]),vI 0]):=by
 have h:=w33 hp awZ awZ ah ah ah ah (fun _=>awd_1.1)
 rw[awd_1.2.1,awd_1.2.2] at h
 exact h
theorem a33b (hp:qZ):CKa 33 [vL eY awX,vL eY awX] (.tup [vS (bsO [49,47,52]),vI 0]):=by
 have h:=w33 hp awX awX ah ah ah ah (fun _=>awd_2.1)
 rw[awd_2.2.1,awd_2.2.2] at h
 exact h
theorem a24 (hp:qZ):CKa 24 [vL eY awXY,vS (bsO [120])] (.tup [vL eY awY,vI 0]):=by
 have h:=w24 hp awXY [120] ah ah (fun _=>awy.1)
 rw[awy.2.1,awy.2.2] at h
 exact h
theorem a25 (hp:qZ):CKa 25 [vL eY awJ] (.tup [vL eY awT,vI 0]):=by
 have h:=w25 hp awJ ah ah (fun _=>awt.1)
 rw[awt.2.1,awt.2.2] at h
 exact h
theorem a86 (f:List Trm) (h:List.length f<=1000000):CKa 86 [vL eY f,vL eY f] (vB true):=by
 have:=w86 f f h h
 rwa [zl Z] at this
theorem a57 (f:List (List UInt8)) (h:List.length f<=1000000):CKa 57 [vL eN f,vL eN f] (vB true):=by
 have:=w57 f f h h
 rwa [zl Z] at this
theorem a46a (hp:qZ):CKa 46 [.pv (.agg [pI 4,pS (bsO [49]),pS (bsO [49,47,50]),pL eV []]),vL eYL [aw1,awX]] (.tup [vL eNL awB,vI 0]):=by
 have h:=w46 hp awP [aw1,awX] awPb ah ah (fun _=>awb_1.1)
 rw[baR,awb_1.2] at h
 exact h
theorem a46b (hp:qZ):CKa 46 [.pv (.agg [pI 4,pS (bsO [49]),pS (bsO [49,47,50]),pL eV []]),vL eYL [aw1,awZ]] (.tup [vL eNL [],vI 14]):=by
 have h:=w46 hp awP [aw1,awZ] awPb ah ah (fun _=>awb_2.1)
 rw[baR,awb_2.2] at h
 exact h
theorem a36 (hp:qZ):CKa 36 [.pv (.agg [pI 4,pS (bsO [49]),pS (bsO [49,47,50]),pL eV []]),vL eY awF] (.tup [vL eN awH,vI 0]):=by
 have h:=w36 hp awP awF ah ah awPb (fun _=>aws.1)
 rw[aws_t,aws.2] at h
 exact h
theorem a89 (hp:qZ):CKa 89 [vL eNL awB,vL eN awH] (.tup [vL eN [[50],[52]],vL eN [[48],[48],[48],[48],[48],[48],[48],[48]],vI 0]):=by
 have h:=w89 hp awB awH ah ah ah (fun _=>⟨awe.1.1,fun _=>awe.1.2⟩)
 rw[exR,awe.2] at h
 exact h
theorem a52 (hp:qZ):CKa 52 [vL eN awG] (.tup [vL eN [[45,50],[45,49],[51]],vS (bsO [51]),vI 0]):=by
 have h:=w52 hp awG ah ah (fun _=>awf.1)
 rw[awf.2.1,awf.2.2.1,awf.2.2.2] at h
 exact h
theorem a53 (hp:qZ):CKa 53 [vL eN awG] (.tup [vS (bsO [49,52,47,51]),vI 0]):=by
 have h:=w53 hp awG ah ah (fun _=>awf.1) (fun _=>awa.1)
 rw[awa.2.1,awa.2.2] at h
 exact h
theorem a38 (hp:qZ):CKa 38 [.pv (.agg [pI 4,pS (bsO [49]),pS (bsO [49,47,50]),pL eV []]),vL eY awI,.pv (.agg [pI 2,pI 0]),vI 2] (.tup [.pv (.agg [pS (bsO [49]),pS (bsO [48])]),vI 0]):=by
 have h:=w38 hp awP awI (2,0) 2 ah ah awPb awl
 rw[awl_2.1,awl_2.2] at h
 exact h
theorem a111:CKa 111 [vI 8] (vL eN [[48],[48],[48],[48],[48],[48],[48],[48]]):=w111 8 ah
theorem un57:tab.underlying 57=some (.array 2 3):=ae
theorem w20 (hp:qZ) (hf:FacLaid):CKa 20 [] (vB true):=by
 refine cG qf20 Z (nB Z) Z (C Z (w110) Z Z Z (E Z (B.q5 Z (fun l=>Frz.boxN l Z) Z) (C Z (a68a) Z Z Z (E Z (B.q5 Z (fun l=>Frz.boxN l Z) Z) (E Z (B.run (val:=.pv (.agg [pI 1,pI 0,pI 1,pS (bsO [49,47,51])])) (m:=[]) (rd:=[]) ae) (E Z (B.q5 (val:=.pv (.slice (List.map eV [(Van.mk 1 0 1 [49,47,51])]))) Z (fun l=>Frz.arr l _ _ _ _ _) Z) (C Z (a68b) Z Z Z (C Z (a16a hp hf) Z Z Z (C Z (a16b hp hf) Z Z Z (E Z (B.run (val:=.pv (.agg [pS (bsO [49,47,52]),pS (bsO [51,47,52])])) (m:=[]) (rd:=[]) ae) (C Z (a22 hp) Z Z Z (C Z (a33a hp) Z Z Z (E Z (B.run (val:=.pv (.agg [pS (bsO [49]),pI 1,pI 0])) (m:=[]) (rd:=[]) ae) ?_)))))))))))))
 refine E Z (B.q5 (val:=.pv (.slice (List.map eY [(Trm.mk [49] 1 0)]))) Z (fun l=>Frz.arr l _ _ _ _ _) Z) (C Z (a33b hp) Z Z Z (C Z (a16c hp hf) Z Z Z (C Z (a24 hp) Z Z Z (E Z (B.run (val:=.pv (.agg [pS (bsO [49]),pI 0,pI 1])) (m:=[]) (rd:=[]) ae) (E Z (B.q5 (val:=.pv (.slice (List.map eY [(Trm.mk [49] 0 1)]))) Z (fun l=>Frz.arr l _ _ _ _ _) Z) (C Z (a25 hp) Z Z Z (E Z (B.run Z) (E Z (B.run Z) (E Z (B.run Z) (E Z (B.run Z) (E Z (B.run Z) (E Z (B.run Z) (E Z (B.run Z) ?_)))))))))))))
 refine E Z (B.run Z) (E Z (B.run Z) (Et Z Z (B.move Z) (Et Z Z (B.jK Z un72) (Et Z Z (B.run (val:=vB false) (m:=[]) (rd:=[]) ae) (E Z (B.pkF Z Z Z Z Z) (Et Z Z (B.move Z) (Et Z Z (B.idx (z:=(0,0)) (i:=0) Z Z un72 sz57 (fun _=>rfl) Z ah) (Et Z Z (B.loadA (ds:=[pI (Prod.fst (awC.getD 0 (0,0))),pI (Prod.snd (awC.getD 0 (0,0)))]) Z ag57 sz57 (zV Z) Z) (Et Z Z (B.run Z) (Et Z Z (B.neI2 (a:=1) (b:=0) ae un57 ag3 sz3 ae Z Z) (E Z (B.pkF Z Z Z Z Z) (Et Z Z (B.move Z) (Et Z Z (B.idx (z:=(0,0)) (i:=2) Z Z un72 sz57 (fun _=>rfl) Z ah) ?_)))))))))))))
 refine Et Z Z (B.loadA (ds:=[pI (Prod.fst (awC.getD 2 (0,0))),pI (Prod.snd (awC.getD 2 (0,0)))]) Z ag57 sz57 (zV Z) Z) (Et Z Z (B.run Z) (Et Z Z (B.neI2 (a:=0) (b:=1) ae un57 ag3 sz3 ae Z Z) (E Z (B.pkF Z Z Z Z Z) (Et Z Z (B.move Z) (Et Z Z (B.jK Z un72) (Et Z Z (B.run (val:=vB false) (m:=[]) (rd:=[]) ae) (E Z (B.pkF Z Z Z Z Z) (Et Z Z (B.move Z) (Et Z Z (B.run (val:=vB false) (m:=[]) (rd:=[]) ae) (E Z (B.pkF Z Z Z Z Z) (Et Z Z (B.move Z) (Et Z Z (B.run (val:=vB false) (m:=[]) (rd:=[]) ae) (E Z (B.pkF Z Z Z Z Z) ?_)))))))))))))
 refine Et Z Z (B.move Z) (Et Z Z (B.run (val:=vB false) (m:=[]) (rd:=[]) ae) (E Z (B.pkF Z Z Z Z Z) (CF Z Z (C Z (w58 awZ ah) Z Z Z (E Z (B.run (val:=.pv (.agg [pS (bsO [45,49]),pI 0,pI 0])) (m:=[]) (rd:=[]) ae) (E Z (B.run (val:=.pv (.agg [pS (bsO [50]),pI 2,pI 0])) (m:=[]) (rd:=[]) ae) (E Z (B.run (val:=.pv (.agg [pS (bsO [50]),pI 0,pI 2])) (m:=[]) (rd:=[]) ae) (E Z (B.q5 (val:=.pv (.slice (List.map eY [(Trm.mk [45,49] 0 0),(Trm.mk [50] 2 0),(Trm.mk [50] 0 2)]))) Z (fun l=>Frz.arr l _ _ _ _ _) Z) (C Z (a86 awZ ah) Z Z Z (Et Z Z (B.move Z) (Et Z Z (B.call (w58 awW ah) Z Z Z) (Et Z Z (B.run Z) (Et Z Z (B.run Z) ?_)))))))))))))
 refine Et Z Z (B.run Z) (Et Z Z (B.q5 (val:=.pv (.slice (List.map eY [(Trm.mk [45,50] 1 0),(Trm.mk [51] 3 0),(Trm.mk [51] 1 2)]))) Z (fun l=>Frz.arr l _ _ _ _ _) Z) (Et Z Z (B.call (a86 awW ah) Z Z Z) (Et Z Z (B.run (val:=vB false) (m:=[]) (rd:=[]) ae) (E Z (B.pkF Z Z Z Z Z) (Et Z Z (B.move Z) (Et Z Z (B.call (w58 awY ah) Z Z Z) (Et Z Z (B.run Z) (Et Z Z (B.q5 (val:=.pv (.slice (List.map eY [(Trm.mk [50] 0 1)]))) Z (fun l=>Frz.arr l _ _ _ _ _) Z) (Et Z Z (B.call (a86 awY ah) Z Z Z) (Et Z Z (B.run (val:=vB false) (m:=[]) (rd:=[]) ae) (E Z (B.pkF Z Z Z Z Z) (Et Z Z (B.move Z) (Et Z Z (B.call (w58 awT ah) Z Z Z) ?_)))))))))))))
 refine Et Z Z (B.run Z) (Et Z Z (B.q5 (val:=.pv (.slice (List.map eY [(Trm.mk [45,49] 1 0)]))) Z (fun l=>Frz.arr l _ _ _ _ _) Z) (Et Z Z (B.call (a86 awT ah) Z Z Z) (Et Z Z (B.run (val:=vB false) (m:=[]) (rd:=[]) ae) (E Z (B.pkF Z Z Z Z Z) (CF Z Z (E Z (B.run (val:=.pv (.agg [pS (bsO [49]),pI 0,pI 0])) (m:=[]) (rd:=[]) ae) (E Z (B.q5 (val:=.pv (.slice (List.map eY [(Trm.mk [49] 0 0)]))) Z (fun l=>Frz.arr l _ _ _ _ _) Z) (E Z (B.q5 (val:=.pv (.slice (List.map eYL [[(Trm.mk [49] 0 0)],[(Trm.mk [49] 1 0)]]))) Z (fun l=>Frz.arr l _ _ _ _ _) Z) (C Z (a46a hp) Z Z Z (E Z (B.q5 (val:=.pv (.slice (List.map eYL [[(Trm.mk [49] 0 0)],awZ]))) Z (fun l=>Frz.arr l _ _ _ _ _) Z) (C Z (a46b hp) Z Z Z (Et Z Z (B.move Z) (Et Z Z (B.run (val:=vB false) (m:=[]) (rd:=[]) ae) ?_)))))))))))))
 refine E Z (B.pkF Z Z Z Z Z) (Et Z Z (B.move Z) (Et Z Z (B.jK Z un84) (Et Z Z (B.run (val:=vB false) (m:=[]) (rd:=[]) ae) (E Z (B.pkF Z Z Z Z Z) (Et Z Z (B.move Z) (Et Z Z (B.idx (z:=[]) (i:=1) Z Z un84 sz61 (fun _=>rfl) Z ah) (Et Z Z (B.loadP Z ag61 sz61) (Et Z Z (B.q5 (val:=.pv (.slice (List.map eN [[45,49,47,52],[49,47,52],[45,51,47,52],[51,47,52],[45,51,47,52],[51,47,52],[45,49,47,52],[49,47,52]]))) Z (fun l=>Frz.arr l _ _ _ _ _) Z) (Et Z Z (B.call (a57 [[45,49,47,52],[49,47,52],[45,51,47,52],[51,47,52],[45,51,47,52],[51,47,52],[45,49,47,52],[49,47,52]] ah) Z Z Z) (Et Z Z (B.run (val:=vB false) (m:=[]) (rd:=[]) ae) (E Z (B.pkF Z Z Z Z Z) (CF Z Z (E Z (B.run (val:=.pv (.agg [pS (bsO [50]),pI 0,pI 0])) (m:=[]) (rd:=[]) ae) ?_)))))))))))))
 refine E Z (B.run (val:=.pv (.agg [pS (bsO [52]),pI 1,pI 0])) (m:=[]) (rd:=[]) ae) (E Z (B.q5 (val:=.pv (.slice (List.map eY [(Trm.mk [50] 0 0),(Trm.mk [52] 1 0)]))) Z (fun l=>Frz.arr l _ _ _ _ _) Z) (C Z (a36 hp) Z Z Z (C Z (a89 hp) Z Z Z (E Z (B.q5 (val:=.pv (.slice (List.map eN [[49],[50],[54]]))) Z (fun l=>Frz.arr l _ _ _ _ _) Z) (C Z (a52 hp) Z Z Z (E Z (B.q5 (val:=.pv (.slice (List.map eN [[49],[50],[54]]))) Z (fun l=>Frz.arr l _ _ _ _ _) Z) (C Z (a53 hp) Z Z Z (E Z (B.run (val:=.pv (.agg [pS (bsO [49]),pI 2,pI 0])) (m:=[]) (rd:=[]) ae) (E Z (B.q5 (val:=.pv (.slice (List.map eY [(Trm.mk [49] 2 0)]))) Z (fun l=>Frz.arr l _ _ _ _ _) Z) (E Z (B.run (val:=.pv (.agg [pI 2,pI 0])) (m:=[]) (rd:=[]) ae) (C Z (a38 hp) Z Z Z (E Z (B.run Z) (E Z (B.run Z) ?_)))))))))))))
 refine E Z (B.run Z) (E Z (B.run Z) (Et Z Z (B.move Z) (Et Z Z (B.q5 (val:=.pv (.slice (List.map eN [[50],[52]]))) Z (fun l=>Frz.arr l _ _ _ _ _) Z) (Et Z Z (B.call (a57 [[50],[52]] ah) Z Z Z) (E Z (B.pkT Z Z Z Z Z) (Et Z Z (B.move Z) (Et Z Z (B.call (a111) Z Z Z) (Et Z Z (B.call (a57 [[48],[48],[48],[48],[48],[48],[48],[48]] ah) Z Z Z) (E Z (B.pkT Z Z Z Z Z) (Et Z Z (B.move Z) (Et Z Z (B.q5 (val:=.pv (.slice (List.map eN [[45,50],[45,49],[51]]))) Z (fun l=>Frz.arr l _ _ _ _ _) Z) (Et Z Z (B.call (a57 [[45,50],[45,49],[51]] ah) Z Z Z) (E Z (B.pkT Z Z Z Z Z) ?_)))))))))))))
 refine Et Z Z (B.move Z) (Et Z Z (B.run (val:=vB true) (m:=[]) (rd:=[]) ae) (E Z (B.pkT Z Z Z Z Z) (Et Z Z (B.move Z) (Et Z Z (B.run (val:=vB true) (m:=[]) (rd:=[]) ae) (E Z (B.pkT Z Z Z Z Z) (Et Z Z (B.loadBA Z Z Z ag68 sz68 Z Z) (Et Z Z (B.run Z) (Et Z Z (B.eqS2 (a:=bsO [49]) (b:=bsO [48]) ae un68 ag33 sz33 ae Z Z) (E Z (B.pkT Z Z Z Z Z) ?_)))))))))
 refine Rt Z ?_
 exact leaf (val0:=vB true) ae rfl
end Go.Lens.Tb
end
section
namespace Go.Lens.Tb
open Go.Proofs Go.Lens.Un
variable [Lz] [Dn]
set_option maxRecDepth 100000
attribute [local irreducible] TK PK T RG EfR Body CG
open Un
def d1 (n:Nat):List Int:=if n=0 then [] else [((n:Nat):Int)]
def T1 (l:List Int) (r:Nat):Prop:=l=[((r:Nat):Int)]\/l=d1 r
def cmpN (m n:Nat):Int:=if m<n then -1 else if n<m then 1 else 0
def WhJ (x:Nat) (n:Int) (w:List Int):Prop:=(n=((x:Nat):Int)/\w=[])\/(n=0/\w=[((x:Nat):Int)])
def C9I (x y:Nat) (i:Int):Prop:=i=0\/(i= -1/\x=y)
def E9I (x d:Nat) (i r:Int) (q:List Int):Prop:=(i=0/\r=0/\q=[0])\/(i= -1/\r=((x%d:Nat):Int)/\q=[((x / d:Nat):Int)])
section
variable {l w q:List Int} {x y r d:Nat} {n i s:Int}
theorem d1_p (h:0<x):d1 x=[((x:Nat):Int)]:=if_neg aa
theorem d1_l:(d1 r).length<=1:=by unfold d1;split<;>simp
theorem t1_l (h:T1 w r):w.length<=1:=by
 rcases h with rfl|rfl
 ·exact zA _
 exact d1_l
theorem t1_p (h:(bif decide ((0:Int)<((w.length:Nat):Int)) then decide (w.getD (w.length-1) 0=0) else false)=true):0<w.length/\List.getD w (w.length-1) 0=0:=by
 by_cases g:(0:Int)<((w.length:Nat):Int)
 ·rw[zl g] at h;exact⟨aa,of_decide_eq_true h⟩
 rw[zk g] at h;cases h
theorem t1_n (h:T1 w r) (h1:(bif decide ((0:Int)<((w.length:Nat):Int)) then decide (w.getD (w.length-1) 0=0) else false)=true):T1 (List.take (w.length-1) w) r:=by
 obtain⟨a,b⟩:=t1_p h1
 have e:w=[((r:Nat):Int)]:=by
  rcases h with h|h
  ·exact h
  unfold d1 at h
  split at h
  ·rw[h] at a;exact absurd a ah
  exact h
 subst e
 have:r=0:=by change ((r:Nat):Int)=0 at b;omega
 subst this
 exact .inr rfl
theorem t1_e (h:T1 w r) (h1:(bif decide ((0:Int)<((w.length:Nat):Int)) then decide (w.getD (w.length-1) 0=0) else false)=false):w=d1 r:=by
 rcases h with rfl|h
 ·by_cases e:r=0
  ·subst e;exact absurd h1 ah
  rw[d1_p aa]
 exact h
theorem wh_b (h:WhJ x n w) (h9:x<1000000000):0<=n/\n<1000000000:=by rcases h with ⟨h,_⟩|⟨h,_⟩<;>omega
theorem wh_l (h:WhJ x n w):w.length<=1:=by rcases h with ⟨_,rfl⟩|⟨_,rfl⟩<;>simp
theorem wh_t (h:WhJ x n w) (h1:n≠0) (h9:x<1000000000):w=[]/\Int.tmod n 1000000000=((x:Nat):Int)/\Int.tdiv n 1000000000=0:=by
 rcases h with ⟨rfl,h⟩|⟨h,_⟩
 ·refine⟨h,?_,?_⟩
  ·rw[Int.tmod_eq_of_lt aa aa]
  rw[Int.tdiv_eq_zero_of_lt aa aa]
 exact absurd h h1
theorem wh_d (h:WhJ x n w) (h9:x<1000000000):¬Int.tmod n 1000000000<0:=by
 have:=Int.tmod_nonneg 1000000000 (wh_b h h9).1
 omega
theorem wh_n (h:WhJ x n w) (h1:n≠0) (h9:x<1000000000):WhJ x (Int.tdiv n 1000000000) (w++[Int.tmod n 1000000000]):=by
 obtain⟨a,b,c⟩:=wh_t h h1 h9
 rw[a,b,c];exact .inr ⟨rfl,rfl⟩
theorem wh_m (h:WhJ x n w) (h1:n≠0) (h9:x<1000000000):(Int.tdiv n 1000000000).natAbs<n.natAbs:=by rw[(wh_t h h1 h9).2.2];omega
theorem wh_e (h:WhJ x n w) (h1:¬n≠0) (h0:0<x:=by assumption):w=[((x:Nat):Int)]:=by
 rcases h with ⟨h,_⟩|⟨_,h⟩
 ·exact absurd aa h1
 exact h
theorem c9_i (h:C9I x y i): -1<=i/\i<=0:=by rcases h with h|⟨h,_⟩<;>omega
theorem c9_x (h:C9I x y i) (h2:0<=i):i=0:=by rcases h with h|⟨h,_⟩<;>omega
theorem c9_1 (h:C9I x y i) (h2:0<=i) (h3:List.getD [((x:Nat):Int)] (Int.toNat i) 0<List.getD [((y:Nat):Int)] (Int.toNat i) 0): -1=cmpN x y:=by
 rw[c9_x h h2] at h3
 unfold cmpN;rw[if_pos (Int.ofNat_lt.1 h3)]
theorem c9_2 (h:C9I x y i) (h2:0<=i) (h3:¬List.getD [((x:Nat):Int)] (Int.toNat i) 0<List.getD [((y:Nat):Int)] (Int.toNat i) 0) (h4:List.getD [((y:Nat):Int)] (Int.toNat i) 0<List.getD [((x:Nat):Int)] (Int.toNat i) 0):1=cmpN x y:=by
 rw[c9_x h h2] at h3 h4
 unfold cmpN;rw[if_neg (fun g=>h3 (Int.ofNat_lt.2 g)),if_pos (Int.ofNat_lt.1 h4)]
theorem c9_n (h:C9I x y i) (h2:0<=i) (h3:¬List.getD [((x:Nat):Int)] (Int.toNat i) 0<List.getD [((y:Nat):Int)] (Int.toNat i) 0) (h4:¬List.getD [((y:Nat):Int)] (Int.toNat i) 0<List.getD [((x:Nat):Int)] (Int.toNat i) 0):C9I x y (i-1):=by
 have e:=c9_x h h2
 rw[e] at h3 h4
 have a:¬x<y:=fun g=>h3 (Int.ofNat_lt.2 g)
 have b:¬y<x:=fun g=>h4 (Int.ofNat_lt.2 g)
 exact .inr ⟨aa,aa⟩
theorem c9_3 (h:C9I x y i) (h2:¬0<=i):0=cmpN x y:=by
 rcases h with h|⟨_,h⟩
 ·omega
 unfold cmpN;rw[if_neg aa,if_neg aa]
theorem e9_l (h:E9I x d i s q):q.length=1:=by rcases h with ⟨_,_,rfl⟩|⟨_,_,rfl⟩<;>rfl
theorem e9_i (h:E9I x d i s q): -1<=i/\i<=0:=by rcases h with ⟨h,_⟩|⟨h,_⟩<;>omega
theorem e9_x (h:E9I x d i s q) (h1:0<=i):i=0/\s=0/\q=[0]:=by
 rcases h with h|⟨h,_⟩
 ·exact h
 omega
theorem e9_s (h:E9I x d i s q) (h1:0<=i):s*1000000000+List.getD [((x:Nat):Int)] (Int.toNat i) 0=((x:Nat):Int):=by
 obtain⟨rfl,rfl,_⟩:=e9_x h h1
 show (0:Int)*1000000000+((x:Nat):Int)=_
 omega
theorem e9_r (h:E9I x d i s q) (h1:0<=i) (hx:x<1000000000) (_:0<d):R64 (s*1000000000)/\R64 (s*1000000000+List.getD [((x:Nat):Int)] (Int.toNat i) 0)/\R64 (Int.tdiv (s*1000000000+List.getD [((x:Nat):Int)] (Int.toNat i) 0) ((d:Nat):Int)):=by
 rw[e9_s h h1,(e9_x h h1).2.1,<-Int.ofNat_tdiv]
 have:=Nat.div_le_self x d
 generalize x / d=z at*
 unfold R64;omega
theorem e9_n (h:E9I x d i s q) (h1:0<=i):E9I x d (i-1) (Int.tmod (s*1000000000+List.getD [((x:Nat):Int)] (Int.toNat i) 0) ((d:Nat):Int)) (q.set (Int.toNat i) (Int.tdiv (s*1000000000+List.getD [((x:Nat):Int)] (Int.toNat i) 0) ((d:Nat):Int))):=by
 rw[e9_s h h1]
 obtain⟨rfl,rfl,rfl⟩:=e9_x h h1
 exact .inr ⟨rfl,rfl,rfl⟩
theorem e9_q (h:E9I x d i s q) (h1:¬0<=i):q=[((x / d:Nat):Int)]/\s=((x%d:Nat):Int):=by
 rcases h with ⟨h,_⟩|⟨_,b,c⟩
 ·omega
 exact⟨c,b⟩
end
theorem by3:ty3.info.bytes=8:=ae
theorem in3:tab.info? 3=some ty3.info:=ae
theorem w259 (l:List Int) (r:Nat) (h:T1 l r):CKa 259 [vL eI l] (vL eI (d1 r)):=by
 refine cG qf259 Z (nB Z) Z (E Z (B.jN (enc:=eI) Z) (l1 (fun (w:List Int)=>[(0,vL eI w)]) (fun _=>[]) (fun w=>T1 w r) (fun w=>List.length w) l Z ?_ (sb Z Z Z) ?_))
 · exact h
 intro w hI0
 have hwl:=t1_l hI0
 refine E Z (B.jK Z un45) (Eg Z Z (fun hc=>B.move Z) Z (Eg Z Z (fun hc=>B.move Z) Z (Eg Z Z (fun hc=>B.jK (qB Z hc) un45) Z (Eg Z Z (fun hc=>B.sub (qB Z hc) Z bj) Z (Eg Z Z (fun hc=>B.idx (z:=0) (i:=(w.length-1)) (qB Z hc) (qB Z hc) un45 sz3 (fun _=>rfl) du du) Z (Eg Z Z (fun hc=>B.loadP (qB Z hc) ag3 sz3) Z (Eg Z Z (fun hc=>B.eql (qB Z hc) Z) Z (E Z (B.pick Z Z Z (gdB Z) Z (jb _)) (Cb Z Z (fun h1=>?_) (fun h1=>?_))))))))))
 ·have h1a:=(t1_p h1).1
  refine E Z (B.jK Z un45) (E Z (B.sub Z Z bj) (E Z (B.slT (j:=(w.length-1)) Z Z un45 sz3 du du) (pk Z (L1 (List.take (w.length-1) w) ?_ ?_ (sb Z Z Z)))))
  · exact t1_n hI0 h1
  · (rw[zn];omega)
 exact Rt Z (leaf (val0:=vL eI w) ae (lsl (by exact t1_e hI0 h1)))
theorem w215 (l:List Int) (r:Nat) (h:T1 l r):CKa 215 [vB false,vL eI l] (.pv (.agg [pB false,pL eI (d1 r)])):=by
 refine cG qf215 Z (nB Z) Z (E Z (B.q5 Z (fun l=>Frz.boxN l Z) Z) (C Z (w259 l r h) Z Z Z (Ef' Z Z (Ef' Z Z (Ef' Z Z (E Z (B.pkF Z Z Z Z Z) (E Z (B.run (val:=.pv (.agg [pB false,pL eI (d1 r)])) (m:=[]) (rd:=[]) ae) ?_)))))))
 refine Rt Z ?_
 exact leaf (val0:=.pv (.agg [pB false,pL eI (d1 r)])) ae bi
theorem w153 (x:Nat) (h0:0<x) (h9:x<1000000000):CKa 153 [vI ((x:Nat):Int)] (.pv (.agg [pB false,pL eI [((x:Nat):Int)]])):=by
 refine cG qf153 Z (nB Z) Z (E Z (B.q5 Z (fun l=>Frz.boxN l Z) Z) (E Z (B.adopt 4 1 3 Z Z) (l3 (fun (n:Int) (w:List Int) (v:Nat)=>[(0,vI n),(2,.bref 3 0),(3,.aref 4 v),(4,vB (decide (((x:Nat):Int)<0)))]) (fun _ w v=>[(3,.box 214 [vB false,vL eI []]),(4,.arr v 1 3 (List.map eI w))]) (fun n w _=>WhJ x n w) (fun n _ _=>Int.natAbs n) ((x:Nat):Int) [] 0 Z ?_ (sb Z Z Z) ?_)))
 · exact .inl ⟨rfl,rfl⟩
 intro n w v hI0
 have hwl:=wh_l hI0
 refine Cp Z Z (fun h1=>?_) (fun h1=>?_)
 ·refine E Z (B.rem Z Z cu) (Cp Z Z (fun h2=>?_) (fun h2=>?_))
  ·exact absurd h2 (wh_d hI0 h9)
  refine E Z (B.q5 (val:=.pv (.slice (List.map eI [(Int.tmod n 1000000000)]))) Z (fun l=>Frz.arr l _ _ _ _ _) Z) (E Z (B.append Z Z Z un45 in3 Z (fun _=>rfl) by3 cu) (E Z (B.quo Z Z ⟨cu,(by have:=wh_b hI0 h9;have:=wh_t hI0 h1 h9;unfold R64;omega)⟩) (pk Z (L3 (Int.tdiv n 1000000000) (w++[(Int.tmod n 1000000000)]) (v+1) ?_ ?_ (sb Z Z Z)))))
  · exact wh_n hI0 h1 h9
  · exact wh_m hI0 h1 h9
 refine tk 9 Z ?_
 refine tn ⟨[(2,.bref 3 0),(3,.aref 4 v),(4,vB (decide (((x:Nat):Int)<0)))],[(3,.box 214 [vB false,vL eI []]),(4,.arr v 1 3 (List.map eI w))]⟩ rfl rfl Z ?_
 rw[show decide (((x:Nat):Int)<0)=false from zk aa]
 refine kc (Fz 9 3 Z Z Z (C Z (w215 w x (.inl (wh_e hI0 h1))) Z Z Z ?_))
 refine Rt Z ?_
 exact leaf (val0:=.pv (.agg [pB false,pL eI (d1 x)])) ae (by rw[d1_p h0])
theorem w219 (x y:Nat):CKa 219 [vL eI [((x:Nat):Int)],vL eI [((y:Nat):Int)]] (vI (cmpN x y)):=by
 refine cG qf219 Z (nB Z) Z (E Z (B.jK Z un45) (E Z (B.jK Z un45) (Cp Z Z (fun h1=>?_) (fun h1=>?_))))
 ·exact absurd Z h1
 refine E Z (B.jK Z un45) (E Z (B.sub Z Z dw) (l1 (fun (i:Int)=>[(0,vL eI [((x:Nat):Int)]),(1,vL eI [((y:Nat):Int)]),(5,vI i)]) (fun _=>[]) (fun i=>C9I x y i) (fun i=>Int.toNat (i+1)) (((List.length [((x:Nat):Int)]:Nat):Int)-1) Z ?_ (sb Z Z Z) ?_))
 · exact .inl rfl
 intro i hI0
 refine Cp Z Z (fun h2=>?_) (fun h2=>?_)
 ·refine E Z (B.idx (z:=0) (i:=(Int.toNat i)) Z Z un45 sz3 (fun _=>rfl) (Int.toNat_of_nonneg dx).symm dx) (E Z (B.idx (z:=0) (i:=(Int.toNat i)) Z Z un45 sz3 (fun _=>rfl) (Int.toNat_of_nonneg dx).symm dx) (Dr Z ae (Cp Z Z (fun h3=>?_) (fun h3=>?_))))
  ·exact Rt Z (leaf (val0:=vI (-1)) ae (li dy))
  refine E Z (B.idx (z:=0) (i:=(Int.toNat i)) Z Z un45 sz3 (fun _=>rfl) (Int.toNat_of_nonneg dx).symm dx) (E Z (B.idx (z:=0) (i:=(Int.toNat i)) Z Z un45 sz3 (fun _=>rfl) (Int.toNat_of_nonneg dx).symm dx) (Dr Z ae (Cp Z Z (fun h4=>?_) (fun h4=>?_))))
  ·exact Rt Z (leaf (val0:=vI 1) ae (li dy))
  refine E Z (B.sub Z Z dw) (pk Z (L1 (i-1) ?_ ?_ (sb Z Z Z)))
  · exact c9_n hI0 h2 h3 h4
  · omega
 exact Rt Z (leaf (val0:=vI 0) ae (li dy))
theorem w258 (x d:Nat) (hd0:0<d) (hx:x<1000000000) (hd:d<1000000000):CKa 258 [vL eI [((x:Nat):Int)],vI ((d:Nat):Int)] (.tup [vL eI (d1 (x / d)),vI (((x%d):Nat):Int)]):=by
 refine cG qf258 Z (nB Z) Z (E Z (B.jN (enc:=eI) Z) (E Z (B.jK Z un45) (E Z (B.makeSl (enc:=eI) (sz:=1) (z0:=0) (n:=(List.length [((x:Nat):Int)])) (m:=(List.length [((x:Nat):Int)])) Z Z Z un45 in3 Z Z Z by3 d3 Z Z) (E Z (B.jK Z un45) (E Z (B.sub Z Z d4) (l3 (fun (i:Int) (r:Int) (q:List Int)=>[(0,vL eI [((x:Nat):Int)]),(1,vI ((d:Nat):Int)),(6,.aref 13 0),(7,vI r),(8,vI i)]) (fun _ _ q=>[(13,.arr 0 1 3 (List.map eI q))]) (fun i r q=>E9I x d i r q) (fun i _ _=>Int.toNat (i+1)) (((List.length [((x:Nat):Int)]:Nat):Int)-1) 0 (List.replicate (List.length [((x:Nat):Int)]) 0) Z ?_ (sb Z Z Z) ?_))))))
 · exact .inl ⟨rfl,rfl,rfl⟩
 intro i r q hI0
 have hql:=e9_l hI0
 refine Cp Z Z (fun h1=>?_) (fun h1=>?_)
 ·refine E Z (B.mul Z Z d4) (E Z (B.idx (z:=0) (i:=(Int.toNat i)) Z Z un45 sz3 (fun _=>rfl) (Int.toNat_of_nonneg d3).symm d3) (E Z (B.add Z Z d4) (E Z (B.quo Z Z ⟨d3,d4⟩) (E Z (B.idxE (n:=(Int.toNat i)) Z Z Z un45 sz3 (Int.toNat_of_nonneg d3).symm d3) (E Z (B.setE (z0:=(Int.tdiv ((r*1000000000)+(List.getD [((x:Nat):Int)] (Int.toNat i) 0)) ((d:Nat):Int))) Z Z Z Z Z sz3 d3 (fun _=>rfl)) (E Z (B.rem Z Z d3) (E Z (B.sub Z Z d4) (pk Z (L3 (i-1) (Int.tmod ((r*1000000000)+(List.getD [((x:Nat):Int)] (Int.toNat i) 0)) ((d:Nat):Int)) (List.set q (Int.toNat i) (Int.tdiv ((r*1000000000)+(List.getD [((x:Nat):Int)] (Int.toNat i) 0)) ((d:Nat):Int))) ?_ ?_ (sb Z Z Z))))))))))
  · exact e9_n hI0 h1
  · omega
 exact Fz 9 6 Z Z Z (C Z (w259 q (x / d) (.inl (e9_q hI0 h1).1)) Z Z Z (Rt Z (leaf (val0:=.tup [vL eI (d1 (x / d)),vI r]) ae (kh (rfl) (li (by first|rfl|exact (e9_q hI0 h1).2))))))
theorem dgs_eq:∀ {s t:List UInt8},Dgs s->Dgs t->s.length=t.length->j8 s=j8 t->s=t:=by
 intro s
 induction s with
 | nil=>intro t _ _ h _;exact (List.length_eq_zero_iff.1 h.symm).symm
 | cons c s ih=>
  intro t hs ht hl hv
  cases t with
  | nil=>cases hl
  | cons d t=>
   have hs':Dgs s:=fun x hx=>hs x (zM _ hx)
   have ht':Dgs t:=fun x hx=>ht x (zM _ hx)
   have hl':s.length=t.length:=by simpa using hl
   have e1:=decV_app [c] s
   have e2:=decV_app [d] t
   rw[decV_one] at e1 e2
   have l1:=decV_lt hs'
   have l2:=decV_lt ht'
   have c1:=hs c (qj ..)
   have d1:=ht d (qj ..)
   rw[show [c]++s=c::s from rfl] at e1
   rw[show [d]++t=d::t from rfl] at e2
   rw[e1,e2,hl'] at hv
   rw[hl'] at l1
   have hc:dgv c=dgv d:=by
    generalize 10 ^ t.length=P at*
    rcases Nat.lt_trichotomy (dgv c) (dgv d) with h|h|h
    ·have:=Nat.mul_le_mul_right P (show dgv c+1<=dgv d from h)
     rw[Nat.add_mul,Nat.one_mul] at this;omega
    ·exact h
    have:=Nat.mul_le_mul_right P (show dgv d+1<=dgv c from h)
    rw[Nat.add_mul,Nat.one_mul] at this;omega
   rw[hc] at hv
   rw[ih hs' ht' hl' aa]
   congr 1
   refine UInt8.toNat_inj.1 ?_
   unfold dgv at hc
   omega
def DcI (n m p:Nat) (s:List UInt8):Prop:=Dgs s/\j8 s+10 ^ s.length*p=n/\(s.length<=m\/10 ^ (s.length-1)<=n)
section
variable {n m p:Nat} {s:List UInt8}
theorem dc_0 (hm:1<=m):DcI n m n []:=⟨fun _ hc=>absurd hc qk,by simp[j8],.inl ao⟩
theorem dc_l (h:DcI n m p s) (hn:n<9223372036854775808) (hm:m<=100):s.length<=100:=by
 rcases h.2.2 with g|g
 ·omega
 rcases Nat.lt_or_ge s.length 21 with k|k
 ·omega
 have:=Nat.pow_le_pow_right (show 0<10 by decide) (show 20<=s.length-1 by omega)
 omega
theorem dc_p (h:DcI n m p s):p<=n:=by
 have:=Nat.le_mul_of_pos_left p (Nat.pow_pos (n:=s.length) (show 0<10 by decide))
 have:=h.2.1
 omega
theorem dc_d (d:Nat) (h:d<10):(km.take (d+1)).drop d=[UInt8.ofNat (48+d)]:=by
 have key:∀ d,d<10->(km.take (d+1)).drop d=[UInt8.ofNat (48+d)]:=ah
 exact key d h
theorem dc_s:List.drop (Int.toNat (((p:Nat):Int)%10)) (List.take (Int.toNat ((((p:Nat):Int)%10)+1)) [48,49,50,51,52,53,54,55,56,57])=[UInt8.ofNat (48+p%10)]:=by
 rw[show Int.toNat (((p:Nat):Int)%10)=p%10 by omega,show Int.toNat ((((p:Nat):Int)%10)+1)=p%10+1 by omega]
 exact dc_d _ (Nat.mod_lt _ ah)
theorem dc_or {a b:Prop} [Decidable a] [Decidable b] (h1:(bif decide a then true else decide b)=true):a\/b:=by
 by_cases h:a
 ·exact .inl h
 rw[zk h] at h1;exact .inr (of_decide_eq_true h1)
theorem dc_no {a b:Prop} [Decidable a] [Decidable b] (h1:(bif decide a then true else decide b)=false):¬a/\¬b:=by
 by_cases h:a
 ·rw[zl h] at h1;cases h1
 rw[zk h] at h1;exact⟨h,of_decide_eq_false h1⟩
theorem dc_n (h:DcI n m p s) (h1:(bif decide (0<((p:Nat):Int)) then true else decide (((s.length:Nat):Int)<((m:Nat):Int)))=true):DcI n m (p / 10) ([UInt8.ofNat (48+p%10)]++s):=by
 obtain⟨a,b,c⟩:=h
 have hd:=dg_byte (d:=p%10) (Nat.mod_lt _ ah)
 have hlt:p%10<10:=Nat.mod_lt _ ah
 have hg:dgv (UInt8.ofNat (48+p%10))=p%10:=by unfold dgv;rw[hd];omega
 refine⟨?_,?_,?_⟩
 ·exact Dgs.app (fun x hx=>by rw[zg.1 hx,hd];omega) a
 ·rw[decV_app,decV_one,hg,za,z8,Nat.pow_add,Nat.pow_one]
  have e:=Nat.mod_add_div p 10
  rw[<-b]
  generalize 10 ^ s.length=P
  generalize j8 s=D
  have:P*p=P*(p%10)+P*(10*(p / 10)):=by rw[<-Nat.mul_add,e]
  rw[this,Nat.mul_comm 10 P,Nat.mul_assoc,Nat.mul_comm (p%10) P]
  omega
 rw[za,z8]
 rcases dc_or h1 with g|g
 ·right
  rw[Nat.add_sub_cancel_left]
  have:=Nat.le_mul_of_pos_right (10 ^ s.length) (show 0<p by omega)
  omega
 left;omega
theorem dc_m (h1:(bif decide (0<((p:Nat):Int)) then true else decide (((s.length:Nat):Int)<((m:Nat):Int)))=true):p / 10+(m-([UInt8.ofNat (48+p%10)]++s).length)<p+(m-s.length):=by
 rw[za,z8]
 rcases dc_or h1 with g|g<;>omega
theorem dc_e (h:DcI n 1 p s) (h1:(bif decide (0<((p:Nat):Int)) then true else decide (((s.length:Nat):Int)<((1:Nat):Int)))=false):s=Lib.decDigits n:=by
 obtain⟨a,b,c⟩:=h
 obtain⟨g1,g2⟩:=dc_no h1
 have hp:p=0:=aa
 rw[hp,Nat.mul_zero,Nat.add_zero] at b
 have l0:=List.length_pos_iff.2 (Un.dec_ne n)
 refine dgs_eq a (dgs_dec n) ?_ (by rw[decV_dec,b])
 have l1:=decV_lt a
 rw[b] at l1
 have l2:=dec_len (n:=n) (k:=s.length) aa l1
 rcases c with c|c
 ·omega
 have l3:=decV_lt (dgs_dec n)
 rw[decV_dec] at l3
 have:s.length-1<(Lib.decDigits n).length:=(Nat.pow_lt_pow_iff_right (show 1<10 by decide)).1 (Nat.lt_of_le_of_lt c l3)
 omega
end
def slN:List UInt8->Nat
 | []=>0
 | c::l=>if c=47 then 0 else slN l+1
section
variable {s:List UInt8} {i:Nat} {n:Int}
theorem by_at (hk:i<s.length):byteAt (bsO s) i=((s[i].toNat:Nat):Int):=by rw[byteAt_bsO,ze,zm hk];rfl
theorem sl_d (hk:i<s.length):s.drop i=s[i]::s.drop (i+1):=List.drop_eq_getElem_cons hk
theorem sl_c (hk:i<s.length):byteAt (bsO s) i=47↔s[i]=47:=by
 rw[by_at hk]
 constructor
 ·intro h
  have:s[i].toNat=47:=aa
  exact UInt8.toNat_inj.1 this
 intro h;rw[h];rfl
theorem sl_n (h:i<=s.length/\slN s=i+slN (s.drop i)) (hk:i<s.length) (h2:¬byteAt (bsO s) i=47):i+1<=s.length/\slN s=(i+1)+slN (s.drop (i+1)):=by
 refine⟨hk,?_⟩
 rw[h.2,sl_d hk,slN,if_neg (fun e=>h2 ((sl_c hk).2 e))];omega
theorem sl_a (h:i<=s.length/\slN s=i+slN (s.drop i)) (hk:i<s.length) (h2:byteAt (bsO s) i=47):((i:Nat):Int)=((slN s:Nat):Int):=by
 rw[h.2,sl_d hk,slN,if_pos ((sl_c hk).1 h2)];rfl
theorem sl_e (h:i<=s.length/\slN s=i+slN (s.drop i)) (h1:¬((i:Nat):Int)<((s.length:Nat):Int)):((s.length:Nat):Int)=((slN s:Nat):Int):=by
 have:=h.1
 rw[h.2,zU aa,slN];omega
theorem va_b (h:i<=s.length/\n=((j8 (s.take i):Nat):Int)) (hd:Dgs s) (hi:i<=17):0<=n/\n<100000000000000000:=by
 have:=decV_lt (hd.take i)
 have h2:10 ^ (s.take i).length<=10 ^ 17:=Nat.pow_le_pow_right ah (by rw[zn];omega)
 have e:(10:Nat) ^ 17=100000000000000000:=rfl
 rw[h.2];omega
theorem va_c (hd:Dgs s) (hk:i<s.length):48<=byteAt (bsO s) i/\byteAt (bsO s) i<=57:=by
 rw[by_at hk]
 have:=hd _ (List.getElem_mem hk)
 omega
theorem va_n (h:i<=s.length/\n=((j8 (s.take i):Nat):Int)) (hd:Dgs s) (hk:i<s.length):10*n+byteAt (bsO s) i-48=((j8 (s.take (i+1)):Nat):Int):=by
 rw[List.take_succ_eq_append_getElem hk,decV_snoc,h.2,by_at hk]
 have:=hd _ (List.getElem_mem hk)
 unfold dgv
 omega
theorem va_e (h:i<=s.length/\n=((j8 (s.take i):Nat):Int)) (h1:¬((i:Nat):Int)<((s.length:Nat):Int)):n=((j8 s:Nat):Int):=by
 rw[h.2,zz aa]
end
section
variable {s a b:List UInt8} {q:Rat}
theorem sl_no (h:∀ x∈a,x≠47):slN a=a.length:=by
 induction a with
 | nil=>rfl
 | cons c l ih=>rw[slN,if_neg (h c (qj ..)),ih (fun x hx=>h x (zM _ hx))];rfl
theorem sl_at (h:∀ x∈a,x≠47):slN (a++47::b)=a.length:=by
 induction a with
 | nil=>rfl
 | cons c l ih=>rw[zO,slN,if_neg (h c (qj ..)),ih (fun x hx=>h x (zM _ hx))];rfl
end
section
variable {x y p q a b:Nat}
theorem dz_1 (h1:cmpN x y<0) (hx:0<x):([]:List Int)=d1 (x / y):=by
 unfold cmpN at h1
 by_cases g:x<y
 ·rw[Nat.div_eq_of_lt g];rfl
 rw[if_neg g] at h1;split at h1<;>exact absurd h1 ah
theorem dz_2 (h1:cmpN x y<0) (hx:0<x):[((x:Nat):Int)]=d1 (x%y):=by
 unfold cmpN at h1
 by_cases g:x<y
 ·rw[Nat.mod_eq_of_lt g,d1_p hx]
 rw[if_neg g] at h1;split at h1<;>exact absurd h1 ah
theorem d1_q (h:0<(((d1 q).length:Nat):Int)):0<q:=by
 rcases Nat.eq_zero_or_pos q with e|e
 ·subst e;exact absurd h ah
 exact e
theorem cm_n (hI:Nat.gcd p q=Nat.gcd a b/\0<p/\p<1000000000/\q<1000000000) (hq:0<q):Nat.gcd q (p%q)=Nat.gcd a b/\0<q/\q<1000000000/\p%q<1000000000:=
 ⟨by rw[<-hI.1,Nat.gcd_comm p q,Nat.gcd_rec q p,Nat.gcd_comm],hq,hI.2.2.2,Nat.lt_trans (Nat.mod_lt _ hq) hI.2.2.2⟩
theorem cm_e (hI:Nat.gcd p q=Nat.gcd a b) (h1:¬0<(((d1 q).length:Nat):Int)):d1 p=d1 (Nat.gcd a b):=by
 have hq:q=0:=by
  unfold d1 at h1
  split at h1
  ·assumption
  exact absurd (show (0:Int)<((1:Nat):Int) by decide) h1
 rw[<-hI,hq,Nat.gcd_zero_right]
theorem dec9 {n:Nat} (h:n<1000000000):(Lib.decDigits n).length<=9:=dec_len ah h
theorem dec_47 (n:Nat):∀ x∈Lib.decDigits n,x≠47:=fun x hx e=>by subst e;exact absurd (dgs_dec _ _ hx) ah
theorem dg_mn (b:Nat):(bif decide ((0:Int)<(((Lib.decDigits b).length:Nat):Int)) then decide (byteAt (bsO (Lib.decDigits b)) 0=45) else false)=false:=by
 cases e:Lib.decDigits b with
 | nil=>rfl
 | cons c l=>
  have hc:=dgs_dec b c (by rw[e];exact qj ..)
  rw[by_at (show 0<(c::l).length by simp)]
  have:decide ((((c::l)[0].toNat:Nat):Int)=45)=false:=zk (by simp only[List.getElem_cons_zero];omega)
  rw[this];cases decide ((0:Int)<(((c::l).length:Nat):Int))<;>rfl
theorem inv_nd (h:0<b):((b:Nat):Rat)⁻¹=⟨1,b,aa,by simp⟩:=by
 rw[Rat.inv_def,Rat.num_natCast,Rat.den_natCast,Rat.mk_eq_divInt];rfl
theorem rc_1 (h:0<b) (h1:(bif decide (((List.length [((b:Nat):Int)]:Nat):Int)=1) then decide (List.getD [((b:Nat):Int)] 0 0=1) else false)=true):vS (bsO (Lib.decDigits 1))=vS (bsO (txt ((b:Nat):Rat)⁻¹)):=by
 have e:b=1:=by
  have h2:decide (((b:Nat):Int)=1)=true:=h1
  have:=of_decide_eq_true h2;omega
 subst e
 rw[inv_nd h]
 unfold txt Lib.itoa
 rw[if_neg (show ¬(1:Int)<0 by decide),if_pos Z,zQ];rfl
theorem rc_2 (h:0<b) (h1:(bif decide (((List.length [((b:Nat):Int)]:Nat):Int)=1) then decide (List.getD [((b:Nat):Int)] 0 0=1) else false)=false):vS (bsO ((Lib.decDigits 1++[47])++Lib.decDigits b))=vS (bsO (txt ((b:Nat):Rat)⁻¹)):=by
 have e:b≠1:=by
  have h2:decide (((b:Nat):Int)=1)=false:=h1
  have:=of_decide_eq_false h2;omega
 rw[inv_nd h]
 unfold txt
 rw[if_neg e,z6];rfl
end
theorem w214 (x y:Nat) (hx:0<x) (hy:0<y) (hx9:x<1000000000) (hy9:y<1000000000):CKa 214 [vL eI [((x:Nat):Int)],vL eI [((y:Nat):Int)]] (.tup [vL eI (d1 (x / y)),vL eI (d1 (x%y))]):=by
 refine cG qf214 Z (nB Z) Z (E Z (B.jN (enc:=eI) Z) (E Z (B.jN (enc:=eI) Z) (C Z (w219 x y) Z Z Z (Cp Z Z (fun h1=>?_) (fun h1=>?_)))))
 ·exact E Z (B.jN (enc:=eI) Z) (Rt Z (leaf (val0:=.tup [vL eI [],vL eI [((x:Nat):Int)]]) ae (kh (lsl d5) (lsl d5))))
 refine E Z (B.jK Z un45) (Cp Z Z (fun h2=>?_) (fun h2=>?_))
 ·exact E Z (B.idx (z:=0) (i:=0) Z Z un45 sz3 (fun _=>rfl) Z (by simp only[zb,zd];omega)) (C Z (w258 x y hy hx9 hy9) Z Z Z (E Z (B.q5 (val:=.pv (.slice (List.map eI [(((x%y):Nat):Int)]))) Z (fun l=>Frz.arr l _ _ _ _ _) Z) (C Z (w259 _ (x%y) (.inl Z)) Z Z Z (Rt Z (leaf Z Z)))))
 exact absurd Z h2
theorem w214d (x y:Nat) (hx:0<x) (hy:0<y) (hx9:x<1000000000) (hy9:y<1000000000):CKa 214 [vL eI (d1 x),vL eI (d1 y)] (.tup [vL eI (d1 (x / y)),vL eI (d1 (x%y))]):=by
 rw[d1_p hx,d1_p hy];exact w214 x y hx hy hx9 hy9
theorem w214o (x:Nat) (hx:0<x) (hx9:x<1000000000):CKa 214 [vL eI [((x:Nat):Int)],vL eI [1]] (.tup [vL eI [((x:Nat):Int)],vL eI []]):=by
 have h:=w214 x 1 hx ah hx9 ah
 rw[Nat.div_one,Nat.mod_one,d1_p hx] at h
 exact h
theorem w195 (a b:Nat) (h0:0<a) (ha:a<1000000000) (hb:b<1000000000):CKa 195 [vL eI (d1 a),vL eI (d1 b)] (vL eI (d1 (Nat.gcd a b))):=by
 refine cG qf195 Z (nB Z) Z (E Z (B.jN (enc:=eI) Z) (l2 (fun (p:Nat) (q:Nat)=>[(0,vL eI (d1 p)),(1,vL eI (d1 q))]) (fun _ _=>[]) (fun p q=>Nat.gcd p q=Nat.gcd a b/\0<p/\p<1000000000/\q<1000000000) (fun _ q=>q) a b Z ?_ (sb Z Z Z) ?_))
 · exact⟨rfl,h0,ha,hb⟩
 intro p q hI0
 refine E Z (B.jK Z un45) (Cp Z Z (fun h1=>?_) (fun h1=>?_))
 ·refine C Z (w214d p q hI0.2.1 (d1_q h1) hI0.2.2.1 hI0.2.2.2) Z Z Z (pk Z (L2 q (p%q) ?_ ?_ (sb Z Z Z)))
  · exact cm_n hI0 (d1_q h1)
  · exact Nat.mod_lt _ (d1_q h1)
 exact Rt Z (leaf (val0:=vL eI (d1 p)) ae (lsl (by exact cm_e hI0.1 h1)))
theorem w195o (b:Nat) (hb:0<b) (h9:b<1000000000):CKa 195 [vL eI [1],vL eI [((b:Nat):Int)]] (vL eI [1]):=by
 have h:=w195 1 b ah ah h9
 rw[Nat.gcd_one_left,d1_p hb] at h
 exact h
theorem w155 (n:Nat) (hn:n<9223372036854775808):CKa 155 [vI ((n:Nat):Int),vI ((1:Nat):Int)] (vS (bsO (Lib.decDigits n))):=by
 refine cG qf155 Z (nB Z) Z (l2 (fun (p:Nat) (s:List UInt8)=>[(0,vI ((p:Nat):Int)),(1,vI ((1:Nat):Int)),(5,vS (bsO s))]) (fun _ _=>[]) (fun p s=>DcI n 1 p s) (fun p s=>p+(1-List.length s)) n [] Z ?_ (sb Z Z Z) ?_)
 · exact dc_0 (zA 1)
 intro p s hI0
 have hsl:=dc_l hI0 hn ah
 have hpn:=dc_p hI0
 refine Eg Z Z (fun hc=>B.move Z) Z (Eg Z Z (fun hc=>B.lenB (a:=s) (qB Z hc) un9) Z (Eg Z Z (fun hc=>B.move Z) Z (Eg Z Z (fun hc=>B.lss (qB Z hc) (qB Z hc)) Z (E Z (B.pick Z Z Z Z (gdB Z) (jB _)) (Cb Z Z (fun h1=>?_) (fun h1=>?_))))))
 ·refine E Z (B.remN Z Z du ah) (E Z (B.remN Z Z du ah) (E Z (B.add Z Z bj) (E Z (B.slMB (a:=[48,49,50,51,52,53,54,55,56,57]) (i:=(Int.toNat (((p:Nat):Int)%10))) (j:=(Int.toNat ((((p:Nat):Int)%10)+1))) Z Z Z un9 (Int.toNat_of_nonneg du).symm (Int.toNat_of_nonneg du).symm du du) (E Z (B.catB (a:=(List.drop (Int.toNat (((p:Nat):Int)%10)) (List.take (Int.toNat ((((p:Nat):Int)%10)+1)) [48,49,50,51,52,53,54,55,56,57]))) (b:=s) Z Z (by simp only[zo,zn,zb,zd];omega)) (E Z (B.quoN Z Z du ah bj) (pk Z (L2 (p / 10) ((List.drop (Int.toNat (((p:Nat):Int)%10)) (List.take (Int.toNat ((((p:Nat):Int)%10)+1)) [48,49,50,51,52,53,54,55,56,57]))++s) ?_ ?_ (sb Z Z Z))))))))
  · (rw[dc_s];exact dc_n hI0 h1)
  · (rw[dc_s];exact dc_m h1)
 exact Rt Z (leaf (val0:=vS (bsO s)) ae (ls (by exact congrArg bsO (dc_e hI0 h1))))
theorem w161 (x:Nat) (h9:x<1000000000):CKa 161 [.pv (.agg [pB false,pL eI [((x:Nat):Int)]])] (vS (bsO (Lib.decDigits x))):=by
 refine cG qf161 Z (nB Z) Z (E Z (B.jK Z un45) (Cp Z Z (fun h1=>?_) (fun h1=>?_)))
 ·exact absurd h1 (show ((1:Nat):Int)≠0 by decide)
 refine E Z (B.jK Z un45) (E Z (B.sub Z Z d6) (E Z (B.idx (z:=0) (i:=(List.length [((x:Nat):Int)]- 1)) Z Z un45 sz3 (fun _=>rfl) aa (by simp only[zb,zd];omega)) (C Z (w155 x aa) Z Z Z (E Z (B.jK Z un45) (E Z (B.sub Z Z d6) (l1 (fun (i:Int)=>[(1,.bref 2 0),(3,vS (bsO (Lib.decDigits x))),(4,vI i)]) (fun _=>[(2,.box 214 [vB false,vL eI [((x:Nat):Int)]])]) (fun i=>i= -1) (fun i=>Int.toNat (i+1)) (((List.length [((x:Nat):Int)]:Nat):Int)-2) Z ?_ (sb Z Z Z) ?_))))))
 · rfl
 intro i hI0
 refine Cp Z Z (fun h2=>?_) (fun h2=>?_)
 ·exact absurd h2 (by rw[hI0];decide)
 exact CF Z Z (Rt Z (leaf Z Z))
theorem w193 (s:List UInt8) (hl:List.length s<=1000000000):CKa 193 [vS (bsO s)] (vI (((slN s):Nat):Int)):=by
 refine cG qf193 Z (nB Z) Z (l1 (fun (i:Nat)=>[(0,vS (bsO s)),(3,vI ((i:Nat):Int))]) (fun _=>[]) (fun i=>i<=List.length s/\slN s=i+slN (List.drop i s)) (fun i=>List.length s-i) 0 Z ?_ (sb Z Z Z) ?_)
 · exact⟨zt _,by simp⟩
 intro i hI0
 refine E Z (B.lenB (a:=s) Z un9) (Cp Z Z (fun h1=>?_) (fun h1=>?_))
 ·refine E Z (B.sidx (i:=i) Z Z un9 Z (show i<List.length s from aa)) (Cp Z Z (fun h2=>?_) (fun h2=>?_))
  ·exact Rt Z (leaf (val0:=vI ((i:Nat):Int)) ae (li d7))
  refine E Z (B.add Z Z bj) (pk Z (L1 (i+1) ?_ ?_ (sb Z Z Z)))
  · exact sl_n hI0 aa h2
  · omega
 exact E Z (B.lenB (a:=s) Z un9) (Rt Z (leaf (val0:=vI ((s.length:Nat):Int)) ae (li d7)))
theorem w216 (s:List UInt8) (hd:Dgs s) (hl:List.length s<=18):CKa 216 [vS (bsO s)] (vI (((j8 s):Nat):Int)):=by
 refine cG qf216 Z (nB Z) Z (l2 (fun (i:Nat) (n:Int)=>[(0,vS (bsO s)),(3,vI n),(4,vI ((i:Nat):Int))]) (fun _ _=>[]) (fun i n=>i<=List.length s/\n=((j8 (List.take i s):Nat):Int)) (fun i _=>List.length s-i) 0 0 Z ?_ (sb Z Z Z) ?_)
 · exact⟨zt _,by simp[j8]⟩
 intro i n hI0
 refine E Z (B.lenB (a:=s) Z un9) (Cp Z Z (fun h1=>?_) (fun h1=>?_))
 ·have hvb:=va_b hI0 hd aa
  have hcb:=va_c hd (i:=i) aa
  refine E Z (B.mul Z Z bj) (E Z (B.sidx (i:=i) Z Z un9 Z (show i<List.length s from aa)) (E Z (B.toI Z un5 un3 bj Z) (E Z (B.add Z Z bj) (E Z (B.sub Z Z bj) (E Z (B.add Z Z bj) (pk Z (L2 (i+1) (((10*n)+(byteAt (bsO s) i))-48) ?_ ?_ (sb Z Z Z))))))))
  · exact⟨aa,va_n hI0 hd aa⟩
  · omega
 exact Rt Z (leaf (val0:=vI n) ae (li (by exact va_e hI0 h1)))
theorem w216d (b:Nat) (h9:b<1000000000):CKa 216 [vS (bsO (Lib.decDigits b))] (vI ((b:Nat):Int)):=by
 have h:=w216 (Lib.decDigits b) (dgs_dec b) (by have:=dec9 h9;omega)
 rw[decV_dec] at h
 exact h
theorem w217 (b:Nat) (h0:0<b) (h9:b<1000000000):CKa 217 [vS (bsO (Lib.decDigits b))] (.pv (.agg [pB false,pL eI [((b:Nat):Int)]])):=by
 refine cG qf217 Z (nB Z) Z (E Z (B.q5 Z (fun l=>Frz.boxN l Z) Z) (E Z (B.lenB (a:=(Lib.decDigits b)) Z un9) (Eg Z Z (fun hc=>B.move Z) Z (Eg Z Z (fun hc=>B.sidx (i:=0) (qB Z hc) Z un9 Z (show 0<List.length (Lib.decDigits b) from d8)) Z (Eg Z Z (fun hc=>B.eql (qB Z hc) Z) Z (E Z (B.pick Z Z Z (gdB Z) Z (jb _)) ?_))))))
 refine tk 2 Z ?_
 refine tn ⟨[(0,vS (bsO (Lib.decDigits b))),(2,.bref 3 0),(3,vB (bif (decide (0<((List.length (Lib.decDigits b):Nat):Int))) then (decide ((byteAt (bsO (Lib.decDigits b)) 0)=45)) else false))],[(3,.box 214 [vB false,vL eI []])]⟩ rfl rfl Z ?_
 rw[dg_mn b]
 refine kc (CF Z Z (E Z (B.adopt 5 1 3 Z Z) (l3 (fun (r:List UInt8) (w:List Int) (v:Nat)=>[(0,vS (bsO r)),(2,.bref 3 0),(3,vB false),(4,.aref 5 v)]) (fun _ w v=>[(3,.box 214 [vB false,vL eI []]),(5,.arr v 1 3 (List.map eI w))]) (fun r w _=>r=Lib.decDigits b/\w=[]) (fun r _ _=>List.length r) (Lib.decDigits b) [] 0 Z ?_ (sb Z Z Z) ?_)))
 · exact⟨rfl,rfl⟩
 intro r w v hI0
 refine E Z (B.lenB (a:=r) Z un9) (Cp Z Z (fun h1=>?_) (fun h1=>?_))
 ·exact absurd h1 (by rw[hI0.1];have:=dec9 h9;omega)
 obtain⟨er,ew⟩:=hI0
 subst er
 subst ew
 refine C Z (w216d b h9) Z Z Z (E Z (B.q5 (val:=.pv (.slice (List.map eI [((b:Nat):Int)]))) Z (fun l=>Frz.arr l _ _ _ _ _) Z) (E Z (B.appendZ Z Z Z un45 in3 Z (fun _=>rfl) by3 d8) (C Z (w215 _ b (.inl Z)) Z Z Z ?_)))
 refine Rt Z ?_
 exact leaf (val0:=.pv (.agg [pB false,pL eI (d1 b)])) ae (by rw[d1_p h0])
theorem w158 (b:Nat) (h0:0<b) (h9:b<1000000000):CKa 158 [vS (bsO (Lib.decDigits b))] (.tup [.pv (.agg [pB false,pL eI [((b:Nat):Int)]]),.pv (.agg [pB false,pL eI [((1:Nat):Int)]])]):=by
 refine cG qf158 Z (nB Z) Z (E Z (B.q5 Z (fun l=>Frz.boxN l Z) Z) (E Z (B.q5 Z (fun l=>Frz.boxN l Z) Z) (C Z (w193 (Lib.decDigits b) (by have:=dec9 h9;omega)) Z Z Z (E Z (B.lenB (a:=(Lib.decDigits b)) Z un9) (Cp Z Z (fun h1=>?_) (fun h1=>?_))))))
 ·refine C Z (w217 b h0 h9) Z Z Z (C Z (w153 1 ah ah) Z Z Z ?_)
  refine Rt Z ?_
  exact leaf (val0:=.tup [.pv (.agg [pB false,pL eI [((b:Nat):Int)]]),.pv (.agg [pB false,pL eI [((1:Nat):Int)]])]) ae bi
 exact absurd (by rw[sl_no (dec_47 b)]) h1
theorem w161d (x:Nat) (h0:0<x) (h9:x<1000000000):CKa 161 [.pv (.agg [.lit (.bool false),.slice (List.map eI (d1 x))])] (vS (bsO (Lib.decDigits x))):=by
 rw[d1_p h0];exact w161 x h9
theorem w152 (b:Nat) (h0:0<b) (h9:b<1000000000):CKa 152 [.pv (.agg [pB false,pL eI [((1:Nat):Int)]]),.pv (.agg [pB false,pL eI [((b:Nat):Int)]])] (vS (bsO (txt ((b:Nat):Rat)⁻¹))):=by
 refine cG qf152 Z (nB Z) Z (CF Z Z (C Z (w195o b h0 h9) Z Z Z (C Z (w214o 1 aa aa) Z Z Z (C Z (w214o b aa aa) Z Z Z (C Z (w215 _ 1 (.inl Z)) Z Z Z (C Z (w161d 1 aa aa) Z Z Z (E Z (B.jK Z un45) (Eg Z Z (fun hc=>B.move Z) Z (Eg Z Z (fun hc=>B.idx (z:=0) (i:=0) (qB Z hc) Z un45 sz3 (fun _=>rfl) Z cu) Z (Eg Z Z (fun hc=>B.loadP (qB Z hc) ag3 sz3) Z (Eg Z Z (fun hc=>B.eql (qB Z hc) Z) Z (E Z (B.pick Z Z Z (gdB Z) Z (jb _)) (Cb Z Z (fun h1=>?_) (fun h1=>?_))))))))))))))
 ·refine Rt Z ?_
  exact leaf (val0:=vS (bsO (Lib.decDigits 1))) ae d9
 refine E Z (B.catB (a:=(Lib.decDigits 1)) (b:=[47]) Z Z dA) (C Z (w215 _ b (.inl Z)) Z Z Z (C Z (w161d b aa aa) Z Z Z (E Z (B.catB (a:=((Lib.decDigits 1)++[47])) (b:=(Lib.decDigits b)) Z Z dA) ?_)))
 refine Rt Z ?_
 exact leaf (val0:=vS (bsO (((Lib.decDigits 1)++[47])++(Lib.decDigits b)))) ae d9
theorem w182 (b:Nat) (h0:0<b) (h9:b<1000000000):CKa 182 [vS (bsO (Lib.decDigits b))] (vS (bsO (txt ((b:Nat):Rat)⁻¹))):=by
 refine cG qf182 Z (nB Z) Z (C Z (w158 b h0 h9) Z Z Z (E Z (B.q5 Z (fun l=>Frz.boxN l Z) Z) (E Z (B.q5 Z (fun l=>Frz.boxN l Z) Z) (C Z (w152 b h0 h9) Z Z Z ?_))))
 refine Rt Z ?_
 exact leaf (val0:=vS (bsO (txt ((b:Nat):Rat)⁻¹))) ae bi
theorem w70 (x:Nat) (h0:0<x) (h9:x<1000000000):CKa 70 [vI ((x:Nat):Int)] (vS (bsO (Lib.decDigits x))):=by
 refine cG qf70 Z (nB Z) Z (C Z (w153 x h0 h9) Z Z Z (C Z (w161 x h9) Z Z Z ?_))
 refine Rt Z ?_
 exact leaf (val0:=vS (bsO (Lib.decDigits x))) ae bi
theorem gc_n {a b p q:Nat} (h:Nat.gcd p q=Nat.gcd a b) (_:0<((q:Nat):Int)):Nat.gcd q (p%q)=Nat.gcd a b:=by
 rw[<-h,Nat.gcd_comm p q,Nat.gcd_rec q p,Nat.gcd_comm]
theorem gc_e {a b p q:Nat} (h:Nat.gcd p q=Nat.gcd a b) (h1:¬0<((q:Nat):Int)):((p:Nat):Int)=((Nat.gcd a b:Nat):Int):=by
 have hq:q=0:=aa
 rw[hq,Nat.gcd_zero_right] at h
 rw[h]
abbrev qS (q:Rat):Prop:=q.num.natAbs<1000000000/\q.den<1000000000
def sgT (z:Int):List UInt8:=if z<0 then [45] else []
def frq (x y:Int):Rat:=(x:Rat) / (y:Rat)
def Dq (q:Rat):List UInt8:=Lib.decDigits q.num.natAbs++(if q.den=1 then [] else 47::Lib.decDigits q.den)
section
variable {s r:List UInt8}
theorem pr_h:(bif decide (0<((s.length:Nat):Int)) then decide (byteAt (bsO s) 0=45) else false)=ko s [45]:=by
 unfold ko
 cases s with
 | nil=>rfl
 | cons c l=>
  rw[by_at (show 0<(c::l).length by simp)]
  have e1:decide (0<(((c::l).length:Nat):Int))=true:=zl (by simp only[zb];omega)
  have e2:decide (([45]:List UInt8).length<=(c::l).length)=true:=zl ao
  rw[e1,e2]
  have e3:((((c::l)[0].toNat:Nat):Int)=45)↔((c::l).take ([45]:List UInt8).length=[45]):=by
   simp only[List.getElem_cons_zero,z8,List.take_succ_cons,List.take_zero,List.cons.injEq,and_true]
   constructor
   ·intro h
    exact UInt8.toNat_inj.1 (show c.toNat=45 by omega)
   rintro rfl;rfl
  exact decide_eq_decide.2 e3
end
section
variable {s a b l:List UInt8} {q:Rat}
theorem hp_mn {l:List UInt8}:ko (45::l) [45]=true:=by
 unfold ko;simp
theorem itoa_nat (n:Nat):Lib.itoa (n:Int)=Lib.decDigits n:=by
 unfold Lib.itoa;rw[if_neg aa];rfl
theorem itoa_47 (z:Int):∀ x∈Lib.itoa z,x≠47:=by
 intro x hx e
 subst e
 unfold Lib.itoa at hx
 split at hx
 ·rcases zE.1 hx with h|h
  ·exact absurd h ah
  exact absurd (dgs_dec _ _ h) ah
 exact absurd (dgs_dec _ _ hx) ah
theorem txt_1 (h:q.den=1):txt q=Lib.itoa q.num:=by unfold txt;rw[if_pos h,zQ]
theorem txt_2 (h:q.den≠1):txt q=Lib.itoa q.num++47::Lib.decDigits q.den:=by unfold txt;rw[if_neg h]
end
section
variable {q:Rat} {s D:List UInt8} {b:Bool} {n d:Int}
theorem qk_x:txt q=if q.num<0 then 45::Dq q else Dq q:=by
 unfold txt Dq Lib.itoa
 split
 ·rfl
 rename_i h
 rw[show q.num.toNat=q.num.natAbs by omega]
theorem dq_47:∀ x∈Lib.decDigits q.num.natAbs,x≠47:=by rw[<-itoa_nat];exact itoa_47 _
theorem dq_h:ko (Dq q) [45]=false:=by
 unfold ko Dq
 cases h:Lib.decDigits q.num.natAbs with
 | nil=>exact absurd h (Un.dec_ne _)
 | cons c l=>
  have hc:=dgs_dec q.num.natAbs c (by rw[h];exact qj ..)
  have:¬((c::l++(if q.den=1 then [] else 47::Lib.decDigits q.den)).take ([45]:List UInt8).length=[45]):=by
   intro e
   simp only[z8,zO,List.take_succ_cons,List.take_zero,List.cons.injEq,and_true] at e
   rw[e] at hc
   exact absurd hc ah
  rw[zk this,Bool.and_false]
theorem qk_s (hs:s=txt q) (hb:ko s [45]=b):b=decide (q.num<0):=by
 rw[<-hb,hs,qk_x]
 by_cases h:q.num<0
 ·rw[if_pos h,hp_mn,zl h]
 rw[if_neg h,dq_h,zk h]
theorem qk_D (hs:s=txt q) (hD:D=qJ s [45]):D=Dq q:=by
 rw[hD,hs,qk_x]
 unfold qJ
 by_cases h:q.num<0
 ·rw[if_pos h,hp_mn];rfl
 rw[if_neg h,dq_h];rfl
theorem qk_1 (hb:ko s [45]=b) (h:b=true):1<=s.length:=by
 rw[h] at hb;unfold ko at hb
 simp only[zj,zf] at hb
 exact hb.1
theorem slN_le:∀ D:List UInt8,slN D<=D.length
 | []=>zA _
 | c::l=>by
  have:=slN_le l
  unfold slN
  split
  ·exact zt _
  rw[zb];omega
theorem qk_t (hb:ko s [45]=b) (h2:b=true) (hD:D=qJ s [45]):List.drop 1 s=D:=by
 rw[hD];unfold qJ;rw[hb,h2];rfl
theorem qk_f (hb:ko s [45]=b) (h2:b=false) (hD:D=qJ s [45]):s=D:=by
 rw[hD];unfold qJ;rw[hb,h2];rfl
theorem dq_sl:slN (Dq q)=(Lib.decDigits q.num.natAbs).length:=by
 unfold Dq
 split
 ·rw[zQ,sl_no dq_47]
 exact sl_at dq_47
theorem dq_len:(Dq q).length=(Lib.decDigits q.num.natAbs).length+(if q.den=1 then 0 else (Lib.decDigits q.den).length+1):=by
 unfold Dq
 split<;>simp
theorem qk_len (hs:s=txt q) (h:qS q):s.length<=20:=by
 have e:=dq_len (q:=q)
 have h1:=dec9 h.1
 have h2:=dec9 h.2
 rw[hs,qk_x]
 split at e<;>split<;>(try rw[zb])<;>omega
theorem qk_w (hD:D=Dq q) (h:qS q) (e:(bif decide (9<((slN D:Nat):Int)) then true else decide (10<((D.length:Nat):Int)-((slN D:Nat):Int)))=true):False:=by
 have h1:=dec9 h.1
 have h2:=dec9 h.2
 have g:=dq_len (q:=q)
 rcases dc_or e with e|e
 ·rw[hD,dq_sl] at e;omega
 rw[hD,dq_sl,g] at e;split at e<;>omega
theorem qk_v (hn:n=q.num) (hd:d=(q.den:Int)):DV.tup [vI n,vI d,vB true]=.tup [vI q.num,vI (q.den:Int),vB true]:=by rw[hn,hd]
theorem qk_n (hs:s=txt q) (hb:ko s [45]=b) (h:b=true):0-((q.num.natAbs:Nat):Int)=q.num:=by
 have:=of_decide_eq_true ((qk_s hs hb).symm.trans h)
 omega
theorem qk_p (hs:s=txt q) (hb:ko s [45]=b) (h:b=false):((q.num.natAbs:Nat):Int)=q.num:=by
 have:=of_decide_eq_false ((qk_s hs hb).symm.trans h)
 omega
theorem qk_d (hD:D=Dq q) (h:¬((slN D:Nat):Int)<((D.length:Nat):Int)):(1:Int)=(q.den:Int):=by
 rw[hD,dq_sl,dq_len] at h
 by_cases hq:q.den=1
 ·rw[hq];rfl
 rw[if_neg hq] at h;omega
theorem w216n (q:Rat) (D:List UInt8) (hD:D=Dq q) (h:q.num.natAbs<1000000000):CKa 216 [vS (bsO (D.take (slN D)))] (vI ((q.num.natAbs:Nat):Int)):=by
 have e:D.take (slN D)=Lib.decDigits q.num.natAbs:=by rw[hD,dq_sl,Dq,List.take_left]
 rw[e];exact w216d _ h
theorem w216m (q:Rat) (D:List UInt8) (hD:D=Dq q) (h:q.den<1000000000) (hl:slN D<D.length):CKa 216 [vS (bsO (D.drop (slN D+1)))] (vI ((q.den:Nat):Int)):=by
 have hq:q.den≠1:=by
  intro e
  rw[hD,dq_sl,dq_len,if_pos e] at hl;omega
 have e:D.drop (slN D+1)=Lib.decDigits q.den:=by rw[hD,dq_sl,Dq,if_neg hq,<-List.drop_drop,List.drop_left];rfl
 rw[e];exact w216d _ h
end
section
variable {n d X Y:Int} {q:Rat}
theorem of_c (hn:n.natAbs<=4000000000000000000) (hd:d<=4000000000000000000) (h0:0<d):¬(bif (bif (bif decide (n<(-4000000000000000000)) then true else decide (4000000000000000000<n)) then true else decide (d<(-4000000000000000000))) then true else decide (4000000000000000000<d))=true:=by
 rw[zk (show ¬n < -4000000000000000000 by omega),zk (show ¬4000000000000000000<n by omega),zk (show ¬d < -4000000000000000000 by omega),zk (show ¬4000000000000000000<d by omega)]
 decide
theorem of_pos (hY:0<Y):0<Nat.gcd X.natAbs Y.natAbs:=Nat.gcd_pos_of_pos_right _ aa
theorem of_p (h0:0<d):Int.tdiv n ((Nat.gcd n.natAbs d.natAbs:Nat):Int)=(frq n d).num/\Int.tdiv d ((Nat.gcd n.natAbs d.natAbs:Nat):Int)=((frq n d).den:Int):=by
 have h:=mk_nd (X:=n) h0
 unfold frq
 rw[h.1,h.2]
 exact⟨Int.tdiv_eq_ediv_of_dvd (Int.ofNat_dvd_left.2 (Nat.gcd_dvd_left ..)),Int.tdiv_eq_ediv_of_dvd (Int.ofNat_dvd_left.2 (Nat.gcd_dvd_right ..))⟩
theorem of_t (x:Int) (g:Nat):(Int.tdiv x ((g:Nat):Int)).natAbs<=x.natAbs:=by rw[Int.natAbs_tdiv];exact Nat.div_le_self _ _
theorem of_b (hP:Int.tdiv n ((Nat.gcd n.natAbs d.natAbs:Nat):Int)=(frq n d).num/\Int.tdiv d ((Nat.gcd n.natAbs d.natAbs:Nat):Int)=((frq n d).den:Int)) (hn:n.natAbs<=4000000000000000000) (hd:d<=4000000000000000000) (h0:0<d):(frq n d).num.natAbs<9223372036854775808/\(frq n d).den<9223372036854775808:=by
 have h1:=of_t n (Nat.gcd n.natAbs d.natAbs)
 have h2:=of_t d (Nat.gcd n.natAbs d.natAbs)
 rw[hP.1] at h1
 rw[hP.2] at h2
 omega
theorem w155m (X:Int) (h:X.natAbs<9223372036854775808):CKa 155 [vI (max X (0-X)),vI 1] (vS (bsO (Lib.decDigits X.natAbs))):=by
 have:=w155 X.natAbs h
 rwa [show ((X.natAbs:Nat):Int)=max X (0-X) by omega] at this
theorem ofs_1 (h:q.num<0):sgT q.num=[45]:=if_pos h
theorem ofs_2 (h:¬q.num<0):sgT q.num=[]:=if_neg h
theorem of_l1 {n:Nat} (h:n<9223372036854775808):(Lib.decDigits n).length<=20:=dec_len ah (Nat.lt_trans h ah)
theorem of_l3 (z:Int):(sgT z).length<=1:=by unfold sgT;split<;>decide
theorem sg_i (z:Int):sgT z++Lib.decDigits z.natAbs=Lib.itoa z:=by
 unfold sgT Lib.itoa
 by_cases h:z<0
 ·rw[if_pos h,if_pos h];rfl
 rw[if_neg h,if_neg h,show z.natAbs=z.toNat by omega];rfl
theorem of_e1 (h:1<((q.den:Nat):Int)):vS (bsO (((sgT q.num++Lib.decDigits q.num.natAbs)++[47])++Lib.decDigits q.den))=vS (bsO (txt q)):=by
 rw[sg_i,txt_2 aa,z6];rfl
theorem of_e2 (h:¬1<((q.den:Nat):Int)):vS (bsO (sgT q.num++Lib.decDigits q.num.natAbs))=vS (bsO (txt q)):=by
 have:=q.den_pos
 rw[sg_i,txt_1 aa]
end
def lgE (q:Rat):Int:=bif jd q then 4 else 0
section
variable {q r:Rat} {z:Int}
theorem tz_0:txt 0=[48]:=ae
theorem tz_1:txt q=[48]↔q.num=0:=by
 constructor
 ·intro h
  rw[qk_x] at h
  by_cases g:q.num<0
  ·rw[if_pos g] at h;cases h
  rw[if_neg g] at h
  unfold Dq at h
  have h1:Lib.decDigits q.num.natAbs=[48]:=by
   cases e:Lib.decDigits q.num.natAbs with
   | nil=>exact absurd e (Un.dec_ne _)
   | cons a l=>
    rw[e,zO] at h
    simp only[List.cons.injEq,List.append_eq_nil_iff] at h
    rw[h.1,h.2.1]
  have h2:=decV_dec q.num.natAbs
  rw[h1] at h2
  have h3:q.num.natAbs=0:=h2.symm.trans ah
  omega
 intro h
 have e:q=0:=Rat.num_eq_zero.1 h
 rw[e];exact tz_0
theorem tz_b:decide (txt q=[48])=decide (q=0):=decide_eq_decide.2 (tz_1.trans Rat.num_eq_zero)
theorem sn_1 (h:txt q=[48]):0=js q.num:=by rw[tz_1.1 h];rfl
theorem sn_c:(bif decide (0<(((txt q).length:Nat):Int)) then decide (byteAt (bsO (txt q)) 0=45) else false)=decide (q.num<0):=by
 have e0:∀ (a:UInt8) (l:List UInt8),decide (byteAt (bsO (a::l)) 0=45)=decide (a=45):=fun a l=>by
  refine decide_eq_decide.2 ?_
  rw[byteAt_bsO]
  show ((a.toNat:Nat):Int)=45↔_
  constructor
  ·intro h;exact UInt8.toNat_inj.1 (by have:(45:UInt8).toNat=45:=rfl;omega)
  intro h;rw[h];rfl
 by_cases g:q.num<0
 ·rw[qk_x,if_pos g,zl g,e0];simp
 rw[qk_x,if_neg g,zk g]
 have:=dq_h (q:=q)
 unfold ko at this
 cases e:Dq q with
 | nil=>rfl
 | cons a l=>
  rw[e] at this
  simp only[zb,zd,List.take_succ_cons,List.take_zero,List.cons.injEq,and_true] at this
  simp at this
  rw[e0]
  simp[this]
theorem sn_2 (h0:¬txt q=[48]) (h:(bif decide (0<(((txt q).length:Nat):Int)) then decide (byteAt (bsO (txt q)) 0=45) else false)=true): -1=js q.num:=by
 rw[sn_c] at h
 unfold js;rw[if_pos (of_decide_eq_true h)]
theorem sn_3 (h0:¬txt q=[48]) (h:(bif decide (0<(((txt q).length:Nat):Int)) then decide (byteAt (bsO (txt q)) 0=45) else false)=false):1=js q.num:=by
 rw[sn_c] at h
 have h1:¬q.num=0:=fun e=>h0 (tz_1.2 e)
 unfold js;rw[if_neg (of_decide_eq_false h),if_neg h1]
theorem sg_lt {z:Int}:js z<0↔z<0:=by unfold js;split<;>(try split)<;>omega
theorem sg_0 {z:Int}:js z=0↔z=0:=by unfold js;split<;>(try split)<;>omega
theorem ng_l (h:js q.num<0):1<=(txt q).length:=by rw[qk_x,if_pos (sg_lt.1 h)];simp
theorem dq_ng:Dq (-q)=Dq q:=by unfold Dq;rw[Rat.neg_num,Rat.neg_den,Int.natAbs_neg]
theorem ng_1 (h:js q.num<0):(txt q).drop 1=txt (-q):=by
 rw[qk_x,qk_x,if_pos (sg_lt.1 h),if_neg (by rw[Rat.neg_num];have:=sg_lt.1 h;omega),dq_ng];rfl
theorem ng_2 (h:js q.num=0):txt q=txt (-q):=by
 rw[Rat.num_eq_zero.1 (sg_0.1 h)];rfl
theorem ng_3 (h:¬js q.num<0) (h2:¬js q.num=0):[45]++txt q=txt (-q):=by
 have h3:¬q.num<0:=fun e=>h (sg_lt.2 e)
 have h4:¬q.num=0:=fun e=>h2 (sg_0.2 e)
 rw[qk_x,qk_x,if_neg h3,if_pos (by rw[Rat.neg_num];omega),dq_ng];rfl
theorem itoa_txt (z:Int):Lib.itoa z=txt (z:Rat):=(txt_1 (q:=(z:Rat)) Z).symm
theorem ab_l (h:js z<0):1<=(Lib.itoa z).length:=by unfold Lib.itoa;rw[if_pos (sg_lt.1 h)];simp
theorem ab_1 (h:js z<0):(Lib.itoa z).drop 1=Lib.decDigits z.natAbs:=by unfold Lib.itoa;rw[if_pos (sg_lt.1 h)];rfl
theorem ab_2 (h:¬js z<0):Lib.itoa z=Lib.decDigits z.natAbs:=by
 have h3:¬z<0:=fun e=>h (sg_lt.2 e)
 unfold Lib.itoa;rw[if_neg h3,show z.toNat=z.natAbs by omega]
theorem tx_sl:slN (txt q)=(Lib.itoa q.num).length:=by
 by_cases h:q.den=1
 ·rw[txt_1 h,sl_no (itoa_47 _)]
 rw[txt_2 h,sl_at (itoa_47 _)]
theorem rnu_1:(txt q).take (slN (txt q))=Lib.itoa q.num:=by
 rw[tx_sl]
 by_cases h:q.den=1
 ·rw[txt_1 h,List.take_length]
 rw[txt_2 h,List.take_left]
theorem nu_l (h:(txt q).length<=900000):(Lib.itoa q.num).length<=900000:=by rw[<-tx_sl];exact qf (slN_le _) h
theorem rnu_2 (h:((slN (txt q):Nat):Int)=(((txt q).length:Nat):Int)):[49]=Lib.decDigits q.den:=by
 rw[tx_sl] at h
 by_cases g:q.den=1
 ·rw[g];kernel_rfl
 rw[txt_2 g,za,zb] at h;omega
theorem rnu_3 (h:¬((slN (txt q):Nat):Int)=(((txt q).length:Nat):Int)):(txt q).drop (slN (txt q)+1)=Lib.decDigits q.den:=by
 rw[tx_sl] at h ⊢
 by_cases g:q.den=1
 ·rw[txt_1 g] at h;exact absurd Z h
 rw[txt_2 g,<-List.drop_drop,List.drop_left];rfl
theorem la_1 (h:(bif decide (600<(((Lib.decDigits q.num.natAbs).length:Nat):Int)) then true else decide (600<(((Lib.decDigits q.den).length:Nat):Int)))=true):4=lgE q:=by
 unfold lgE jd longN
 rcases dc_or h with h|h
 ·rw[zl (show 600<(Lib.decDigits q.num.natAbs).length by omega)];rfl
 rw[zl (show 600<(Lib.decDigits q.den).length by omega),Bool.or_true];rfl
theorem la_2 (h:(bif decide (600<(((Lib.decDigits q.num.natAbs).length:Nat):Int)) then true else decide (600<(((Lib.decDigits q.den).length:Nat):Int)))=false):0=lgE q:=by
 obtain⟨h1,h2⟩:=dc_no h
 unfold lgE jd longN
 rw[zk (show ¬600<(Lib.decDigits q.num.natAbs).length by omega),zk (show ¬600<(Lib.decDigits q.den).length by omega)];rfl
theorem ar_p {x y:Int} (hx:x.natAbs<1000000000) (hy:y.natAbs<1000000000):(x*y).natAbs<=1000000000000000000:=by
 rw[Int.natAbs_mul];exact Nat.mul_le_mul (Nat.le_of_lt hx) (Nat.le_of_lt hy)
theorem ar_q (a:qS q) (b:qS r):0<((q.den:Nat):Int)*((r.den:Nat):Int)/\((q.den:Nat):Int)*((r.den:Nat):Int)<=1000000000000000000/\(q.num*((r.den:Nat):Int)).natAbs<=1000000000000000000/\(r.num*((q.den:Nat):Int)).natAbs<=1000000000000000000/\(q.num*r.num).natAbs<=1000000000000000000:=by
 have n1:=q.den_nz
 have n2:=r.den_nz
 have h:=ar_p (x:=(q.den:Int)) (y:=(r.den:Int)) aa aa
 have h0:=Int.mul_pos (a:=(q.den:Int)) (b:=(r.den:Int)) aa aa
 exact⟨h0,aa,ar_p a.1 aa,ar_p b.1 aa,ar_p a.1 b.1⟩
theorem dn_c (q:Rat):(((q.den:Nat):Int):Rat)≠0:=icast_ne b8
theorem dn_e (q:Rat):q=(q.num:Rat) / (((q.den:Nat):Int):Rat):=(Rat.num_divInt_den q).symm.trans (Rat.divInt_eq_div _ _)
theorem ad_1:frq (q.num*((r.den:Nat):Int)+r.num*((q.den:Nat):Int)) (((q.den:Nat):Int)*((r.den:Nat):Int))=q+r:=by
 unfold frq
 rw[Rat.intCast_add,Rat.intCast_mul,Rat.intCast_mul,Rat.intCast_mul]
 conv=>rhs;rw[dn_e q,dn_e r]
 have h1:=dn_c q
 have h2:=dn_c r
 generalize (((q.den:Nat):Int):Rat)=a at*
 generalize (((r.den:Nat):Int):Rat)=b at*
 grind
theorem rmu_1:frq (q.num*r.num) (((q.den:Nat):Int)*((r.den:Nat):Int))=q*r:=by
 unfold frq
 rw[Rat.intCast_mul,Rat.intCast_mul]
 conv=>rhs;rw[dn_e q,dn_e r]
 have h1:=dn_c q
 have h2:=dn_c r
 generalize (((q.den:Nat):Int):Rat)=a at*
 generalize (((r.den:Nat):Int):Rat)=b at*
 grind
theorem rdi_1:q*r⁻¹=q / r:=(Rat.div_def q r).symm
end
theorem qS_i {b:Nat} (h0:0<b) (h9:b<1000000000):qS ((b:Nat):Rat)⁻¹:=by rw[inv_nd h0];exact⟨show (1:Int).natAbs<1000000000 by decide,h9⟩
theorem un33:tab.underlying 33=some (.string):=ae
theorem w154 (a b:Nat) (ha:a<9223372036854775808) (hb:b<9223372036854775808):CKa 154 [vI ((a:Nat):Int),vI ((b:Nat):Int)] (vI (((Nat.gcd a b):Nat):Int)):=by
 refine cG qf154 Z (nB Z) Z (l2 (fun (p:Nat) (q:Nat)=>[(0,vI ((p:Nat):Int)),(1,vI ((q:Nat):Int))]) (fun _ _=>[]) (fun p q=>Nat.gcd p q=Nat.gcd a b) (fun _ q=>q) a b Z ?_ (sb Z Z Z) ?_)
 · exact rfl
 intro p q hI0
 refine Cp Z Z (fun h1=>?_) (fun h1=>?_)
 ·refine E Z (B.rem Z Z aa) (Dr Z ae (pk Z (L2 q (p%q) ?_ ?_ (sb Z Z Z))))
  · exact gc_n hI0 h1
  · exact Nat.mod_lt _ aa
 exact Rt Z (leaf (val0:=vI ((p:Nat):Int)) ae (li (by exact gc_e hI0 h1)))
theorem w154m (X Y:Int) (hY:0<Y) (hY2:Y<=4000000000000000000) (hX:X.natAbs<=4000000000000000000):CKa 154 [vI (max X (0-X)),vI Y] (vI ((Nat.gcd X.natAbs Y.natAbs:Nat):Int)):=by
 have:=w154 X.natAbs Y.natAbs aa aa
 rwa [show ((X.natAbs:Nat):Int)=max X (0-X) by omega,show ((Y.natAbs:Nat):Int)=Y by omega] at this
theorem w157 (q:Rat) (s:List UInt8) (hs:s=txt q) (h:qS q):CKa 157 [vS (bsO s)] (.tup [vI (Rat.num q),vI ((Rat.den q:Nat):Int),vB true]):=by
 refine cG qf157 Z (nB Z) Z ?_
 have hl:=qk_len hs h
 refine E Z (B.lenB (a:=s) Z un9) (Cp Z Z (fun h1=>?_) (fun h1=>?_))
 ·exact absurd h1 aa
 refine E Z (B.lenB (a:=s) Z un9) (Eg Z Z (fun hc=>B.move Z) Z (Eg Z Z (fun hc=>B.sidx (i:=0) (qB Z hc) Z un9 Z (show 0<List.length s from dB)) Z (Eg Z Z (fun hc=>B.eql (qB Z hc) Z) Z (E Z (B.pick Z Z Z (gdB Z) Z (jb _)) ?_))))
 refine tk 5 Z ?_
 refine tn ⟨[(5,vS (bsO s)),(6,vB (bif (decide (0<((s.length:Nat):Int))) then (decide ((byteAt (bsO s) 0)=45)) else false))],[]⟩ rfl rfl Z ?_
 rw[pr_h]
 generalize hb:ko s [45]=b
 obtain⟨D,hD⟩:∃ D,D=qJ s [45]:=⟨_,rfl⟩
 have hb1:=qk_1 hb
 refine kc (Cb Z Z (fun h2=>?_) (fun h2=>?_))
 ·refine E Z (B.slLB (a:=s) (i:=1) Z Z un9 Z dB) ?_
  refine tk 7 Z ?_
  refine tn ⟨[(5,vS (bsO (List.drop 1 s))),(6,vB b)],[]⟩ rfl rfl Z ?_
  have hDs:=qk_D hs hD
  have hDl:D.length<=20:=by rw[hD];have:=trimP_len s [45];omega
  have hsl:=slN_le D
  rw[qk_t hb h2 hD]
  refine kc (C Z (w193 D aa) Z Z Z (Eg Z Z (fun hc=>B.move Z) Z (Eg Z Z (fun hc=>B.lenB (a:=D) (qB Z hc) un9) Z (Eg Z Z (fun hc=>B.move Z) Z (Eg Z Z (fun hc=>B.sub (qB Z hc) (qB Z hc) dC) Z (Eg Z Z (fun hc=>B.gtr (qB Z hc) Z) Z (E Z (B.pick Z Z Z Z (gdB Z) (jB _)) (Cb Z Z (fun h3=>?_) (fun h3=>?_)))))))))
  ·exact (qk_w hDs h h3).elim
  refine E Z (B.slHB (a:=D) (j:=(slN D)) Z Z un9 Z dB) (C Z (w216n q D hDs h.1) Z Z Z (E Z (B.lenB (a:=D) Z un9) (Cp Z Z (fun h4=>?_) (fun h4=>?_))))
  ·refine E Z (B.add Z Z dC) (E Z (B.slLB (a:=D) (i:=((slN D)+1)) Z Z un9 aa dB) (C Z (w216m q D hDs h.2 aa) Z Z Z (Cb Z Z (fun h5=>?_) (fun h5=>?_))))
   ·refine E Z (B.sub Z Z dC) ?_
    refine Rt Z ?_
    exact leaf (val0:=.tup [vI (0-(((Int.natAbs (Rat.num q)):Nat):Int)),vI (((Rat.den q):Nat):Int),vB true]) ae en
   refine Rt Z ?_
   exact leaf (val0:=.tup [vI (((Int.natAbs (Rat.num q)):Nat):Int),vI (((Rat.den q):Nat):Int),vB true]) ae en
  refine Cb Z Z (fun h6=>?_) (fun h6=>?_)
  ·refine E Z (B.sub Z Z dC) ?_
   refine Rt Z ?_
   exact leaf (val0:=.tup [vI (0-(((Int.natAbs (Rat.num q)):Nat):Int)),vI 1,vB true]) ae en
  refine Rt Z ?_
  exact leaf (val0:=.tup [vI (((Int.natAbs (Rat.num q)):Nat):Int),vI 1,vB true]) ae en
 refine tk 7 Z ?_
 refine tn ⟨[(5,vS (bsO s)),(6,vB b)],[]⟩ rfl rfl Z ?_
 have hDs:=qk_D hs hD
 have hDl:D.length<=20:=by rw[hD];have:=trimP_len s [45];omega
 have hsl:=slN_le D
 rw[qk_f hb h2 hD]
 refine kc (C Z (w193 D aa) Z Z Z (Eg Z Z (fun hc=>B.move Z) Z (Eg Z Z (fun hc=>B.lenB (a:=D) (qB Z hc) un9) Z (Eg Z Z (fun hc=>B.move Z) Z (Eg Z Z (fun hc=>B.sub (qB Z hc) (qB Z hc) dC) Z (Eg Z Z (fun hc=>B.gtr (qB Z hc) Z) Z (E Z (B.pick Z Z Z Z (gdB Z) (jB _)) (Cb Z Z (fun h7=>?_) (fun h7=>?_)))))))))
 ·exact (qk_w hDs h h7).elim
 refine E Z (B.slHB (a:=D) (j:=(slN D)) Z Z un9 Z dB) (C Z (w216n q D hDs h.1) Z Z Z (E Z (B.lenB (a:=D) Z un9) (Cp Z Z (fun h8=>?_) (fun h8=>?_))))
 ·refine E Z (B.add Z Z dC) (E Z (B.slLB (a:=D) (i:=((slN D)+1)) Z Z un9 aa dB) (C Z (w216m q D hDs h.2 aa) Z Z Z (Cb Z Z (fun h9=>?_) (fun h9=>?_))))
  ·refine E Z (B.sub Z Z dC) ?_
   refine Rt Z ?_
   exact leaf (val0:=.tup [vI (0-(((Int.natAbs (Rat.num q)):Nat):Int)),vI (((Rat.den q):Nat):Int),vB true]) ae en
  refine Rt Z ?_
  exact leaf (val0:=.tup [vI (((Int.natAbs (Rat.num q)):Nat):Int),vI (((Rat.den q):Nat):Int),vB true]) ae en
 refine Cb Z Z (fun h10=>?_) (fun h10=>?_)
 ·refine E Z (B.sub Z Z dC) ?_
  refine Rt Z ?_
  exact leaf (val0:=.tup [vI (0-(((Int.natAbs (Rat.num q)):Nat):Int)),vI 1,vB true]) ae en
 refine Rt Z ?_
 exact leaf (val0:=.tup [vI (((Int.natAbs (Rat.num q)):Nat):Int),vI 1,vB true]) ae en
theorem w59 (n d:Int) (hd0:0<d) (hn:n.natAbs<=4000000000000000000) (hd:d<=4000000000000000000):CKa 59 [vI n,vI d] (vS (bsO (txt (frq n d)))):=by
 refine cG qf59 Z (nB Z) Z (Eg Z Z (fun hc=>B.move Z) Z (Eg Z Z (fun hc=>B.gtr (qB Z hc) Z) Z (E Z (B.pick Z Z Z Z (gdB Z) (jB _)) (Eg Z Z (fun hc=>B.move Z) Z (Eg Z Z (fun hc=>B.lss (qB Z hc) Z) Z (E Z (B.pick Z Z Z Z (gdB Z) (jB _)) (Eg Z Z (fun hc=>B.move Z) Z (Eg Z Z (fun hc=>B.gtr (qB Z hc) Z) Z (E Z (B.pick Z Z Z Z (gdB Z) (jB _)) (Cb Z Z (fun h1=>?_) (fun h1=>?_)))))))))))
 ·exact absurd h1 (of_c hn hd hd0)
 have hP:=of_p (n:=n) hd0
 have hB:=of_b hP hn hd hd0
 refine Cp Z Z (fun h2=>?_) (fun h2=>?_)
 ·exact absurd h2 aa
 refine E Z (B.sub Z Z dG) (E Z (B.max Z Z) (C Z (w154m n d hd0 hd hn) Z Z Z (E Z (B.quo Z Z ⟨(by have:=of_pos (X:=n) hd0;omega),dG⟩) (E Z (B.quo Z Z ⟨(by have:=of_pos (X:=n) hd0;omega),dG⟩) (Dr Z ae ?_)))))
 refine tk 7 Z ?_
 refine tn ⟨[(0,vI (Int.tdiv n (((Nat.gcd (Int.natAbs n) (Int.natAbs d)):Nat):Int))),(1,vI (Int.tdiv d (((Nat.gcd (Int.natAbs n) (Int.natAbs d)):Nat):Int)))],[]⟩ rfl rfl Z ?_
 rw[hP.1,hP.2]
 refine kc (Cj [(0,vI (Rat.num (frq n d))),(1,vI ((Rat.den (frq n d):Nat):Int)),(6,vS (bsO (sgT (Rat.num (frq n d)))))] [] Z Z Z (fun h3=>?_) (fun h3=>?_) ?_)
 ·replace h3:=of_decide_eq_true h3
  refine pk Z ?_
  show Sub _ _ _
  first|rw[ofs_1 ab]|rw[ofs_2 ab]
  exact sb Z Z rfl
 ·replace h3:=of_decide_eq_false h3
  refine pk Z ?_
  show Sub _ _ _
  first|rw[ofs_1 ab]|rw[ofs_2 ab]
  exact sb Z Z rfl
 refine E Z (B.sub Z Z dG) (E Z (B.max Z Z) (C Z (w155m (Rat.num (frq n d)) hB.1) Z Z Z (E Z (B.catB (a:=(sgT (Rat.num (frq n d)))) (b:=(Lib.decDigits (Int.natAbs (Rat.num (frq n d))))) Z Z dH) (Cp Z Z (fun h4=>?_) (fun h4=>?_)))))
 ·refine E Z (B.catB (a:=((sgT (Rat.num (frq n d)))++(Lib.decDigits (Int.natAbs (Rat.num (frq n d)))))) (b:=[47]) Z Z dH) (C Z (w155 (Rat.den (frq n d)) hB.2) Z Z Z (E Z (B.catB (a:=(((sgT (Rat.num (frq n d)))++(Lib.decDigits (Int.natAbs (Rat.num (frq n d)))))++[47])) (b:=(Lib.decDigits (Rat.den (frq n d)))) Z Z dH) ?_))
  refine Rt Z ?_
  exact leaf (val0:=vS (bsO ((((sgT (Rat.num (frq n d)))++(Lib.decDigits (Int.natAbs (Rat.num (frq n d)))))++[47])++(Lib.decDigits (Rat.den (frq n d)))))) ae dI
 refine Rt Z ?_
 exact leaf (val0:=vS (bsO ((sgT (Rat.num (frq n d)))++(Lib.decDigits (Int.natAbs (Rat.num (frq n d))))))) ae dI
theorem w62 (q:Rat):CKa 62 [vS (bsO (txt q))] (vB (decide (q=0))):=by
 refine cG qf62 Z (nB Z) Z (E Z (B.seqB (a:=(txt q)) (b:=[48]) Z Z) ?_)
 refine Rt Z ?_
 exact leaf (val0:=vB (decide ((txt q)=[48]))) ae (by exact lb (tz_b))
theorem w137 (q:Rat) (hl:List.length (txt q)<=900000):CKa 137 [vS (bsO (txt q))] (vI (js (Rat.num q))):=by
 refine cG qf137 Z (nB Z) Z (E Z (B.seqB (a:=(txt q)) (b:=[48]) Z Z) (Cp Z Z (fun h1=>?_) (fun h1=>?_)))
 ·refine Rt Z ?_
  exact leaf (val0:=vI 0) ae dJ
 refine E Z (B.lenB (a:=(txt q)) Z un33) (Eg Z Z (fun hc=>B.move Z) Z (Eg Z Z (fun hc=>B.sidx (i:=0) (qB Z hc) Z un33 Z (show 0<List.length (txt q) from (by first|omega|(have hc2:=hc;simp at hc2;omega)))) Z (Eg Z Z (fun hc=>B.eql (qB Z hc) Z) Z (E Z (B.pick Z Z Z (gdB Z) Z (jb _)) (Cb Z Z (fun h2=>?_) (fun h2=>?_))))))
 ·refine Rt Z ?_
  exact leaf (val0:=vI (-1)) ae dJ
 refine Rt Z ?_
 exact leaf (val0:=vI 1) ae dJ
theorem w137z (z:Int) (hl:(Lib.itoa z).length<=900000):CKa 137 [vS (bsO (Lib.itoa z))] (vI (js z)):=by
 rw[itoa_txt] at hl ⊢
 exact w137 (z:Rat) hl
theorem w87 (q:Rat) (hl:List.length (txt q)<=900000):CKa 87 [vS (bsO (txt q))] (vS (bsO (txt (-q)))):=by
 refine cG qf87 Z (nB Z) Z (C Z (w137 q hl) Z Z Z (Cp Z Z (fun h1=>?_) (fun h1=>?_)))
 ·refine E Z (B.slLB (a:=(txt q)) (i:=1) Z Z un33 Z (by exact ng_l ab)) ?_
  refine Rt Z ?_
  exact leaf (val0:=vS (bsO (List.drop 1 (txt q)))) ae dK
 refine C Z (w137 q hl) Z Z Z (Cp Z Z (fun h2=>?_) (fun h2=>?_))
 ·refine Rt Z ?_
  exact leaf (val0:=vS (bsO (txt q))) ae dK
 refine E Z (B.catB (a:=[45]) (b:=(txt q)) Z Z cu) ?_
 refine Rt Z ?_
 exact leaf (val0:=vS (bsO ([45]++(txt q)))) ae dK
theorem w63 (z:Int) (hl:List.length (Lib.itoa z)<=900000):CKa 63 [vS (bsO (Lib.itoa z))] (vS (bsO (Lib.decDigits (Int.natAbs z)))):=by
 refine cG qf63 Z (nB Z) Z (C Z (w137z z hl) Z Z Z (Cp Z Z (fun h1=>?_) (fun h1=>?_)))
 ·refine E Z (B.slLB (a:=(Lib.itoa z)) (i:=1) Z Z un33 Z (by exact ab_l ab)) ?_
  refine Rt Z ?_
  exact leaf (val0:=vS (bsO (List.drop 1 (Lib.itoa z)))) ae dL
 refine Rt Z ?_
 exact leaf (val0:=vS (bsO (Lib.itoa z))) ae dL
theorem w207 (q:Rat) (hl:List.length (txt q)<=900000):CKa 207 [vS (bsO (txt q))] (vS (bsO (Lib.itoa (Rat.num q)))):=by
 refine cG qf207 Z (nB Z) Z (C Z (w193 (txt q) aa) Z Z Z (E Z (B.slHB (a:=(txt q)) (j:=(slN (txt q))) Z Z un33 Z (by exact slN_le _)) ?_))
 refine Rt Z ?_
 exact leaf (val0:=vS (bsO (List.take (slN (txt q)) (txt q)))) ae (by exact congrArg (fun a=>vS (bsO a)) rnu_1)
theorem w208 (q:Rat) (hl:List.length (txt q)<=900000):CKa 208 [vS (bsO (txt q))] (vS (bsO (Lib.decDigits (Rat.den q)))):=by
 refine cG qf208 Z (nB Z) Z (C Z (w193 (txt q) aa) Z Z Z (E Z (B.lenB (a:=(txt q)) Z un33) (Cp Z Z (fun h1=>?_) (fun h1=>?_))))
 ·refine Rt Z ?_
  exact leaf (val0:=vS (bsO [49])) ae dM
 refine E Z (B.add Z Z (by unfold R64;have:=slN_le (txt q);omega)) (E Z (B.slLB (a:=(txt q)) (i:=((slN (txt q))+1)) Z Z un33 aa (by have:=slN_le (txt q);omega)) ?_)
 refine Rt Z ?_
 exact leaf (val0:=vS (bsO (List.drop ((slN (txt q))+1) (txt q)))) ae dM
theorem w141 (q:Rat) (hl:List.length (txt q)<=900000):CKa 141 [vS (bsO (txt q))] (vI (lgE q)):=by
 refine cG qf141 Z (nB Z) Z (C Z (w207 q hl) Z Z Z (C Z (w63 (Rat.num q) (nu_l hl)) Z Z Z (E Z (B.lenB (a:=(Lib.decDigits (Int.natAbs (Rat.num q)))) Z un33) (Eg Z Z (fun hc=>B.move Z) Z (Eg Z Z (fun hc=>B.call (w208 q hl) Z (ds1 (qB Z hc)) Z) Z (Eg Z Z (fun hc=>B.lenB (a:=(Lib.decDigits (Rat.den q))) (qB Z hc) un33) Z (Eg Z Z (fun hc=>B.gtr (qB Z hc) Z) Z (E Z (B.pick Z Z Z Z (gdB Z) (jB _)) (Cb Z Z (fun h1=>?_) (fun h1=>?_))))))))))
 ·refine Rt Z ?_
  exact leaf (val0:=vI 4) ae dN
 refine Rt Z ?_
 exact leaf (val0:=vI 0) ae dN
theorem w67 (q r:Rat) (hq:qS q) (hr:qS r):CKa 67 [vS (bsO (txt q)),vS (bsO (txt r))] (vS (bsO (txt (q+r)))):=by
 refine cG qf67 Z (nB Z) Z (C Z (w157 q (txt q) Z hq) Z Z Z (C Z (w157 r (txt r) Z hr) Z Z Z (Et Z Z (B.move Z) (E Z (B.pick Z Z Z Z Z (kX _)) (Cb Z Z (fun h1=>?_) (fun h1=>?_))))))
 ·have hb:=ar_q hq hr
  refine E Z (B.mul Z Z bj) (E Z (B.mul Z Z bj) (E Z (B.add Z Z bj) (E Z (B.mul Z Z bj) (C Z (w59 (((Rat.num q)*((Rat.den r:Nat):Int))+((Rat.num r)*((Rat.den q:Nat):Int))) (((Rat.den q:Nat):Int)*((Rat.den r:Nat):Int)) hb.1 aa aa) Z Z Z ?_))))
  refine Rt Z ?_
  exact leaf (val0:=vS (bsO (txt (frq (((Rat.num q)*((Rat.den r:Nat):Int))+((Rat.num r)*((Rat.den q:Nat):Int))) (((Rat.den q:Nat):Int)*((Rat.den r:Nat):Int)))))) ae (by exact congrArg (fun a=>vS (bsO (txt a))) ad_1)
 exact Bool.noConfusion (show true=false from h1)
theorem w69 (q r:Rat) (hq:qS q) (hr:qS r):CKa 69 [vS (bsO (txt q)),vS (bsO (txt r))] (vS (bsO (txt (q*r)))):=by
 refine cG qf69 Z (nB Z) Z (C Z (w157 q (txt q) Z hq) Z Z Z (C Z (w157 r (txt r) Z hr) Z Z Z (Et Z Z (B.move Z) (E Z (B.pick Z Z Z Z Z (kX _)) (Cb Z Z (fun h1=>?_) (fun h1=>?_))))))
 ·have hb:=ar_q hq hr
  refine E Z (B.mul Z Z bj) (E Z (B.mul Z Z bj) (C Z (w59 ((Rat.num q)*(Rat.num r)) (((Rat.den q:Nat):Int)*((Rat.den r:Nat):Int)) hb.1 aa aa) Z Z Z ?_))
  refine Rt Z ?_
  exact leaf (val0:=vS (bsO (txt (frq ((Rat.num q)*(Rat.num r)) (((Rat.den q:Nat):Int)*((Rat.den r:Nat):Int)))))) ae (by exact congrArg (fun a=>vS (bsO (txt a))) rmu_1)
 exact Bool.noConfusion (show true=false from h1)
theorem w106 (q:Rat) (b:Nat) (hq:qS q) (h0:0<b) (h9:b<1000000000):CKa 106 [vS (bsO (txt q)),vS (bsO (Lib.decDigits b))] (vS (bsO (txt (q / ((b:Nat):Rat))))):=by
 refine cG qf106 Z (nB Z) Z (C Z (w182 b h0 h9) Z Z Z (C Z (w69 q ((b:Nat):Rat)⁻¹ hq (qS_i h0 h9)) Z Z Z ?_))
 refine Rt Z ?_
 exact leaf (val0:=vS (bsO (txt (q*((b:Nat):Rat)⁻¹)))) ae (by exact congrArg (fun a=>vS (bsO (txt a))) rdi_1)
end Go.Lens.Tb
end
section
namespace Go.Lens.Tb
open Go.Proofs Go.Lens.Un
variable [Lz] [Dn]
set_option maxRecDepth 100000
attribute [local irreducible] TK PK T RG EfR Body CG
abbrev eR (p:KI×Rat):List PV:=[pS (bsO (txt (Prod.snd p))),pI (Prod.fst (Prod.fst p)),pI (Prod.snd (Prod.fst p))]
def rrZ:KI×Rat:=((0,0),0)
def chR (n m:Int):Int:=if qx [qz n 0 8,qz m (kB (0-n)) n]=0/\Int.tmod (n-m) 2≠0 then 18 else qx [qz n 0 8,qz m (kB (0-n)) n]
def nfac:Nat->Nat
 | 0=>1
 | n+1=>(n+1)*nfac n
def facR (n:Int):Rat:=((nfac n.toNat:Nat):Rat)
def nfP (P:PL):PL:=(q8 P).map fun k=>(k,cf P k)
def fiP (P:PL) (l:List KI):PL:=(l.filter fun k=>decide (cf P k≠0)).map fun k=>(k,cf P k)
def orR (P:PL) (n t:Nat):PL:=fiP P ((List.range n).flatMap rowK++(List.range t).map fun i=>(((n-i:Nat):Int),(i:Int)))
section
variable {n m low high:Int}
theorem wn_1 (h:(bif decide (n<low) then true else decide (high<n))=true):3=qz n low high:=by
 unfold qz outF qO
 rcases dc_or h with h|h
 ·rw[zl h];rfl
 rw[zl h,Bool.or_true];rfl
theorem wn_2 (h:(bif decide (n<low) then true else decide (high<n))=false):0=qz n low high:=by
 obtain⟨h1,h2⟩:=dc_no h
 unfold qz outF qO
 rw[zk h1,zk h2];rfl
theorem chr_b (h:qx [qz n 0 8,qz m (kB (0-n)) n]=0):(0<=n/\n<=8)/\ -n<=m/\m<=n:=by
 rw[kF,kF] at h
 have h1:=wi_0.1 h.1
 have h2:=wi_0.1 h.2.1
 have e:kB (0-n)=0-n:=by unfold kB;omega
 rw[e] at h2
 exact⟨h1,aa,aa⟩
theorem chr_1 (h:(bif decide (qx [qz n 0 8,qz m (kB (0-n)) n]=0) then decide (Int.tmod (n-m) 2≠0) else false)=true):18=chR n m:=by
 unfold chR
 rw[if_pos (by
  cases g:decide (qx [qz n 0 8,qz m (kB (0-n)) n]=0) with
  | false=>rw[g] at h;cases h
  | true=>rw[g] at h;exact⟨of_decide_eq_true g,of_decide_eq_true h⟩)]
theorem chr_2 (h:(bif decide (qx [qz n 0 8,qz m (kB (0-n)) n]=0) then decide (Int.tmod (n-m) 2≠0) else false)=false):qx [qz n 0 8,qz m (kB (0-n)) n]=chR n m:=by
 unfold chR
 rw[if_neg (by
  rintro⟨h1,h2⟩
  rw[zl h1] at h
  exact of_decide_eq_false h h2)]
end
section
variable {n:Int} {i:Nat} {s:Rat}
theorem qk_two {a b:Bool} (h:(bif a then b else false)=true):a=true/\b=true:=by cases a<;>simp_all
theorem qS_n {k:Nat} (h:k<1000000000):qS ((k:Nat):Rat):=⟨by rw[Rat.num_natCast];exact h,by rw[Rat.den_natCast];decide⟩
theorem txt_n (k:Nat):txt ((k:Nat):Rat)=Lib.decDigits k:=(itoa_txt (k:Int)).symm.trans (itoa_nat k)
theorem w70t (i:Nat) (h0:0<i) (h:i<=100):CKa 70 [vI ((i:Nat):Int)] (vS (bsO (txt ((i:Nat):Rat)))):=by
 rw[txt_n];exact w70 i h0 aa
theorem fa_0:(1:Rat)=((nfac (2-1):Nat):Rat):=rfl
theorem fa_b:∀ i,i<=8->nfac i<=40320:=ah
theorem fa_s1 (h:s=((nfac (i-1):Nat):Rat)) (hi:2<=i):s*((i:Nat):Rat)=((nfac (i+1-1):Nat):Rat):=by
 obtain⟨j,rfl⟩:∃ j,i=j+1:=⟨i-1,aa⟩
 rw[h]
 show ((nfac j:Nat):Rat)*((j+1:Nat):Rat)=(((j+1)*nfac j:Nat):Rat)
 rw[Rat.natCast_mul,Rat.mul_comm]
theorem fa_e (h:s=((nfac (i-1):Nat):Rat)/\(i=2\/((i:Nat):Int)<=n+1)) (h2:2<=i/\i<=9) (h3:¬((i:Nat):Int)<=n) (h0:0<=n/\n<=8):s=facR n:=by
 rw[h.1]
 unfold facR
 rcases h.2 with g|g
 ·subst g
  have:n=0\/n=1:=aa
  rcases this with rfl|rfl<;>rfl
 rw[show i-1=n.toNat by omega]
end
section
variable {P o q:PL} {k n:Nat} {s:Rat} {i j:Int}
theorem gd_split (hk:k<P.length):P.take (k+1)=P.take k++[P.getD k rrZ]:=by
 rw[List.take_succ_eq_append_getElem hk,ze,zm hk];rfl
theorem qS_z {z:Int} (h:z.natAbs<1000000000):qS ((z:Int):Rat):=⟨by rw[Rat.num_intCast];exact h,by rw[Rat.den_intCast];decide⟩
theorem nb_q {B:Nat} (h:NB P B) (hB:B<1000000000) (K:KI):qS (cf P K):=by
 obtain⟨z,e,hz⟩:=h.cf K
 rw[e];exact qS_z aa
theorem nb_t {B:Nat} (h:NB P B) (k:Nat):NB (P.take k) B:=by
 obtain⟨Z,rfl,hZ⟩:=h
 refine⟨Z.take k,by rw[List.map_take],?_⟩
 have e:Un.l1 Z=Un.l1 (Z.take k)+Un.l1 (Z.drop k):=by rw[<-l1_app,List.take_append_drop]
 omega
theorem nb_g {B:Nat} (h:NB P B) (hB:B<1000000000) (hk:k<P.length):qS (Prod.snd (P.getD k rrZ)):=by
 obtain⟨Z,rfl,hZ⟩:=h
 obtain⟨p,hp,e⟩:=zD.1 (q7 (z:=rrZ) hk)
 rw[<-e]
 have:=l1_mem hp
 exact qS_z aa
theorem cf_snoc (hk:k<P.length) (K:KI):cf (P.take (k+1)) K=cf (P.take k) K+(if (P.getD k rrZ).1=K then (P.getD k rrZ).2 else 0):=by
 rw[gd_split hk,cf_app]
 obtain⟨a,c⟩:=P.getD k rrZ
 rw[jl,cf_nil,Rat.add_zero]
theorem coe_1 (h:s=cf (P.take k) (i,j)) (hk:k<P.length) (hb:(bif decide (Prod.fst (Prod.fst (P.getD k rrZ))=i) then decide (Prod.snd (Prod.fst (P.getD k rrZ))=j) else false)=true):s+Prod.snd (P.getD k rrZ)=cf (P.take (k+1)) (i,j):=by
 have e:Prod.fst (P.getD k rrZ)=(i,j):=by
  obtain⟨h1,h2⟩:=qk_two hb
  exact Prod.ext (of_decide_eq_true h1) (of_decide_eq_true h2)
 rw[cf_snoc hk,if_pos e,h]
theorem coe_2 (h:s=cf (P.take k) (i,j)) (hk:k<P.length) (hb:(bif decide (Prod.fst (Prod.fst (P.getD k rrZ))=i) then decide (Prod.snd (Prod.fst (P.getD k rrZ))=j) else false)=false):s=cf (P.take (k+1)) (i,j):=by
 have e:¬Prod.fst (P.getD k rrZ)=(i,j):=by
  intro e
  rw[e] at hb
  simp at hb
 rw[cf_snoc hk,if_neg e,h,Rat.add_zero]
theorem or_len:∀ n t,t<=n+1->n<=33->(orR P n t).length<=1000:=by
 intro n t ht hn
 unfold orR fiP
 rw[zH]
 refine qf (List.length_filter_le _ _) ?_
 rw[za,zH,List.length_range]
 have h1:∀ n,n<=33->((List.range n).flatMap rowK).length<=900:=by decide +kernel
 have:=h1 n hn
 omega
theorem or_q (h:q=orR P n (Int.toNat (((n:Nat):Int)-i))) (hi: -1<=i/\i<=((n:Nat):Int)) (hn:n<=33):q.length<=1000:=by rw[h];exact or_len _ _ aa hn
theorem or_step (t:Nat):orR P n (t+1)=orR P n t++(if cf P (((n-t:Nat):Int),(t:Int))=0 then [] else [((((n-t:Nat):Int),(t:Int)),cf P (((n-t:Nat):Int),(t:Int)))]):=by
 unfold orR fiP
 rw[List.range_succ,qa,<-z6,List.filter_append,qa]
 congr 1
 simp only[zy,zW]
 by_cases h:cf P (((n-t:Nat):Int),(t:Int))=0
 ·rw[if_pos h];simp[h]
 rw[if_neg h];simp[h]
theorem or_k (hi: -1<=i/\i<=((n:Nat):Int)) (h0:0<=i):orR P n (Int.toNat (((n:Nat):Int)-(i-1)))=orR P n (Int.toNat (((n:Nat):Int)-i))++(if cf P (i,((n:Nat):Int)-i)=0 then [] else [((i,((n:Nat):Int)-i),cf P (i,((n:Nat):Int)-i))]):=by
 rw[show Int.toNat (((n:Nat):Int)-(i-1))=Int.toNat (((n:Nat):Int)-i)+1 by omega,or_step,show ((n-Int.toNat (((n:Nat):Int)-i):Nat):Int)=i by omega,show ((Int.toNat (((n:Nat):Int)-i):Nat):Int)=((n:Nat):Int)-i by omega]
theorem or_t (h:q=orR P n (Int.toNat (((n:Nat):Int)-i))) (hi: -1<=i/\i<=((n:Nat):Int)) (h0:0<=i) (hb:(!(decide (cf P (i,((n:Nat):Int)-i)=0)))=true):q++[((i,((n:Nat):Int)-i),cf P (i,((n:Nat):Int)-i))]=orR P n (Int.toNat (((n:Nat):Int)-(i-1))):=by
 rw[or_k hi h0,if_neg aQ,h]
theorem or_f (h:q=orR P n (Int.toNat (((n:Nat):Int)-i))) (hi: -1<=i/\i<=((n:Nat):Int)) (h0:0<=i) (hb:(!(decide (cf P (i,((n:Nat):Int)-i)=0)))=false):q=orR P n (Int.toNat (((n:Nat):Int)-(i-1))):=by
 rw[or_k hi h0,if_pos aQ,h,zQ]
theorem or_n (h:q=orR P n (Int.toNat (((n:Nat):Int)-i))) (hi:i= -1):q=orR P (n+1) 0:=by
 rw[h,hi,show Int.toNat (((n:Nat):Int) - -1)=n+1 by omega]
 have e:(List.range (n+1)).flatMap rowK=(List.range n).flatMap rowK++rowK n:=by rw[List.range_succ,List.flatMap_append];simp
 unfold orR
 rw[e,List.range_zero,zW,zQ];rfl
theorem or_e (h:o=orR P n 0) (hn:n=33):o=nfP P:=by
 rw[h,hn]
 unfold orR nfP fiP q8 keys32
 rw[List.range_zero,zW,zQ]
end
theorem fa83_2:fadQ tab 83 2=some 2:=ae
theorem w27 (l:List Int) (hl:l.length<=1000000000000000):CKa 27 [vL eI l] (vI (qx l)):=by
 refine cG qf27 Z (nB Z) Z (l1 (fun (k:Nat)=>[(0,vL eI l),(3,vI ((k:Nat):Int))]) (fun _=>[]) (fun k=>k<=List.length l/\qx l=qx (List.drop k l)) (fun k=>List.length l-k) 0 Z ?_ (sb Z Z Z) ?_)
 · exact⟨zt _,rfl⟩
 intro k hI0
 refine E Z (B.jK Z un45) (Cp Z Z (fun h1=>?_) (fun h1=>?_))
 ·refine E Z (B.idx (z:=0) (i:=k) Z Z un45 sz3 (fun _=>rfl) Z aa) (Cp Z Z (fun h2=>?_) (fun h2=>?_))
  ·exact E Z (B.idx (z:=0) (i:=k) Z Z un45 sz3 (fun _=>rfl) Z aa) (Rt Z (leaf (val0:=vI (l.getD k 0)) ae (li bH)))
  refine E Z (B.add Z Z bj) (pk Z (L1 (k+1) ?_ ?_ (sb Z Z Z)))
  · (refine⟨aa,?_⟩;rw[hI0.2,drop_at l k 0 aa,qx,if_pos aa])
  · omega
 exact Rt Z (leaf (val0:=vI 0) ae (li bH))
theorem w105 (n low high:Int):CKa 105 [vI n,vI low,vI high] (vI (qz n low high)):=by
 refine cG qf105 Z (nB Z) Z (Eg Z Z (fun hc=>B.move Z) Z (Eg Z Z (fun hc=>B.move Z) Z (Eg Z Z (fun hc=>B.gtr (qB Z hc) (qB Z hc)) Z (E Z (B.pick Z Z Z Z (gdB Z) (jB _)) (Cb Z Z (fun h1=>?_) (fun h1=>?_))))))
 ·exact Rt Z (leaf (val0:=vI 3) ae (li dO))
 exact Rt Z (leaf (val0:=vI 0) ae (li dO))
theorem w17 (n m:Int):CKa 17 [vI n,vI m] (vI (chR n m)):=by
 refine cG qf17 Z (nB Z) Z (C Z (w105 n 0 8) Z Z Z (E Z (B.subW Z Z) (C Z (w105 m (kB (0-n)) n) Z Z Z (E Z (B.q5 (val:=.pv (.slice (List.map eI [(qz n 0 8),(qz m (kB (0-n)) n)]))) Z (fun l=>Frz.arr l _ _ _ _ _) Z) (C Z (w27 [(qz n 0 8),(qz m (kB (0-n)) n)] (zV Z)) Z Z Z (Eg Z Z (fun hc=>B.move Z) Z (Eg Z Z (fun hc=>B.move Z) Z (Eg Z Z (fun hc=>B.sub (qB Z hc) (qB Z hc) (by have hb:=chr_b (of_decide_eq_true (eq_of_beq hc));unfold R64;omega)) Z (Eg Z Z (fun hc=>B.rem (qB Z hc) Z aa) Z (Eg Z Z (fun hc=>B.neq (qB Z hc) Z) Z (E Z (B.pick Z Z Z (gdB Z) Z (jb _)) (Cb Z Z (fun h1=>?_) (fun h1=>?_)))))))))))))
 ·exact Rt Z (leaf (val0:=vI 18) ae (li dP))
 exact Rt Z (leaf (val0:=vI (qx [(qz n 0 8),(qz m (kB (0-n)) n)])) ae (li dP))
theorem w107 (n:Int) (h0:0<=n/\n<=8):CKa 107 [vI n] (vS (bsO (txt (facR n)))):=by
 refine cG qf107 Z (nB Z) Z (l2 (fun (i:Nat) (s:Rat)=>[(0,vI n),(3,vS (bsO (txt s))),(4,vI ((i:Nat):Int))]) (fun _ _=>[]) (fun i s=>(2<=i/\i<=9)/\(s=((nfac (i-1):Nat):Rat)/\(i=2\/((i:Nat):Int)<=n+1))) (fun i _=>10-i) 2 1 Z ?_ (sb ae Z Z) ?_)
 · exact⟨⟨ah,ah⟩,fa_0,.inl rfl⟩
 intro i s hI0
 refine Cp Z Z (fun h1=>?_) (fun h1=>?_)
 ·refine C Z (w70t i aa aa) Z Z Z (C Z (w69 s ((i:Nat):Rat) (by rw[hI0.2.1];exact qS_n (Nat.lt_of_le_of_lt (fa_b _ aa) ah)) (qS_n aa)) Z Z Z (E Z (B.add Z Z bj) (pk Z (L2 (i+1) (s*((i:Nat):Rat)) ?_ ?_ (sb Z Z Z)))))
  · exact⟨⟨aa,aa⟩,fa_s1 hI0.2.1 aa,.inr aa⟩
  · omega
 refine Rt Z ?_
 exact leaf (val0:=vS (bsO (txt s))) ae (by exact congrArg (fun a=>vS (bsO (txt a))) (fa_e hI0.2 hI0.1 aa h0))
theorem w196 (P:PL) (M:Nat) (i j:Int) (hl:List.length P<=1000000) (hn:NB P M) (hB:M<1000000000):CKa 196 [vL eR P,vI i,vI j] (vS (bsO (txt (cf P (i,j))))):=by
 refine cG qf196 Z (nB Z) Z (l2 (fun (k:Nat) (s:Rat)=>[(0,vL eR P),(1,vI i),(2,vI j),(7,vS (bsO (txt s))),(8,vI ((k:Nat):Int))]) (fun _ _=>[]) (fun k s=>k<=List.length P/\s=cf (List.take k P) (i,j)) (fun k _=>List.length P-k) 0 0 Z ?_ (sb ae Z Z) ?_)
 · exact⟨zt _,rfl⟩
 intro k s hI0
 refine E Z (B.jK Z un28) (Cp Z Z (fun h1=>?_) (fun h1=>?_))
 ·refine E Z (B.idx (z:=rrZ) (i:=k) Z Z un28 sz83 (fun _=>rfl) Z aa) (Eg Z Z (fun hc=>B.move Z) Z (Eg Z Z (fun hc=>B.move Z) Z (Eg Z Z (fun hc=>B.idx (z:=rrZ) (i:=k) (qB Z hc) (qB Z hc) un28 sz83 (fun _=>rfl) Z aa) Z (Eg Z Z (fun hc=>B.fadP (qB Z hc) fa83_2 Z) Z (Eg Z Z (fun hc=>B.loadP (qB Z hc) ag3 sz3) Z (Eg Z Z (fun hc=>B.move Z) Z (Eg Z Z (fun hc=>B.eql (qB Z hc) (qB Z hc)) Z (E Z (B.pick Z Z Z (gdB Z) Z (jb _)) (Cb Z Z (fun h2=>?_) (fun h2=>?_))))))))))
  ·refine E Z (B.idx (z:=rrZ) (i:=k) Z Z un28 sz83 (fun _=>rfl) Z aa) (C Z (w67 s (Prod.snd (List.getD P k rrZ)) (by rw[hI0.2];exact nb_q (nb_t hn k) hB _) (nb_g hn hB aa)) Z Z Z (E Z (B.add Z Z bj) (pk Z (L2 (k+1) (s+(Prod.snd (List.getD P k rrZ))) ?_ ?_ (sb Z Z Z)))))
   · first|exact⟨aa,coe_1 hI0.2 aa ab⟩|exact⟨aa,coe_2 hI0.2 aa ab⟩
   · omega
  refine E Z (B.add Z Z bj) (pk Z (L2 (k+1) s ?_ ?_ (sb Z Z Z)))
  · first|exact⟨aa,coe_1 hI0.2 aa ab⟩|exact⟨aa,coe_2 hI0.2 aa ab⟩
  · omega
 refine Rt Z ?_
 exact leaf (val0:=vS (bsO (txt s))) ae cd
theorem w123 (P:PL) (M:Nat) (hl:List.length P<=1000000) (hn:NB P M) (hB:M<1000000000):CKa 123 [vL eR P] (vL eR (nfP P)):=by
 refine cL 10 [] qf123 Z (nB Z) Z Z (kc (E Z (B.jN (enc:=eR) Z) (E Z (B.adopt 13 3 83 Z Z) (l3 (fun (n:Nat) (v:Nat) (o:PL)=>[(0,vL eR P),(3,.aref 13 v),(4,vI ((n:Nat):Int))]) (fun _ v o=>[(13,.arr v 3 83 (List.map eR o))]) (fun n v o=>n<=33/\v=List.length o/\o=orR P n 0) (fun n _ _=>33-n) 0 0 [] Z ?_ (sb Z Z Z) ?_))))
 · exact⟨zt _,rfl,rfl⟩
 intro n v o hI0
 refine Cp Z Z (fun h1=>?_) (fun h1=>?_)
 ·refine l3 (fun (i:Int) (u:Nat) (q:PL)=>[(0,vL eR P),(3,.aref 13 u),(4,vI ((n:Nat):Int)),(5,vI i)]) (fun _ u q=>[(13,.arr u 3 83 (List.map eR q))]) (fun i u q=>(-1<=i/\i<=((n:Nat):Int))/\u=List.length q/\q=orR P n (Int.toNat (((n:Nat):Int)-i))) (fun i _ _=>Int.toNat (i+1)) ((n:Nat):Int) v o Z ?_ (sb Z Z Z) ?_
  · (exact⟨⟨aa,Int.le_refl _⟩,hI0.2.1,by rw[hI0.2.2,Int.sub_self];rfl⟩)
  intro i u q hI1
  have hq:=or_q hI1.2.2 hI1.1 hI0.1
  refine Cp Z Z (fun h2=>?_) (fun h2=>?_)
  ·refine E Z (B.sub Z Z bj) (C Z (w196 P M i (((n:Nat):Int)-i) hl hn hB) Z Z Z (C Z (w62 (cf P (i,(((n:Nat):Int)-i)))) Z Z Z (Cb Z Z (fun h3=>?_) (fun h3=>?_))))
   ·refine E Z (B.sub Z Z bj) (E Z (B.run (val:=.pv (.agg [pS (bsO (txt (cf P (i,(((n:Nat):Int)-i))))),pI i,pI (((n:Nat):Int)-i)])) (m:=[]) (rd:=[]) ae) (E Z (B.q5 (val:=.pv (.slice (List.map eR [(((i),((((n:Nat):Int)-i))),((cf P (i,(((n:Nat):Int)-i))):Rat))]))) (val0:=.aref 42 0) (m0:=[(42,.arr 0 3 83 [[pS (bsO (txt (Prod.snd (((i),((((n:Nat):Int)-i))),((cf P (i,(((n:Nat):Int)-i))):Rat))))),pI (Prod.fst (Prod.fst (((i),((((n:Nat):Int)-i))),((cf P (i,(((n:Nat):Int)-i))):Rat)))),pI (Prod.snd (Prod.fst (((i),((((n:Nat):Int)-i))),((cf P (i,(((n:Nat):Int)-i))):Rat))))]])]) (rd:=[]) ae (fun l=>Frz.arr l _ _ _ _ _) Z) (E Z (B.append (enc:=eR) (l:=q) (r:=[(((i),((((n:Nat):Int)-i))),((cf P (i,(((n:Nat):Int)-i))):Rat))]) Z Z Z un28 in83 Z (fun _=>rfl) by83 cu) (E Z (B.sub Z Z bj) (pk Z (L3 (i-1) (u+1) (q++[(((i),((((n:Nat):Int)-i))),((cf P (i,(((n:Nat):Int)-i))):Rat))]) ?_ ?_ (sb Z Z Z)))))))
    · (first|exact⟨⟨aa,aa⟩,by rw[hI1.2.1,za];rfl,or_t hI1.2.2 hI1.1 aa ab⟩|exact⟨⟨aa,aa⟩,hI1.2.1,or_f hI1.2.2 hI1.1 aa ab⟩)
    · omega
   refine E Z (B.sub Z Z bj) (pk Z (L3 (i-1) u q ?_ ?_ (sb Z Z Z)))
   · (first|exact⟨⟨aa,aa⟩,by rw[hI1.2.1,za];rfl,or_t hI1.2.2 hI1.1 aa ab⟩|exact⟨⟨aa,aa⟩,hI1.2.1,or_f hI1.2.2 hI1.1 aa ab⟩)
   · omega
  refine E Z (B.add Z Z bj) (pk Z (L3 (n+1) u q ?_ ?_ (sb Z Z Z)))
  · exact⟨aa,hI1.2.1,or_n hI1.2.2 aa⟩
  · omega
 refine Fz 11 3 Z Z Z ?_
 refine Rt Z ?_
 exact qU (val0:=vL eR o) (out0:=[]) (.inr Z) ae (by exact lsl (or_e hI0.2.2 aa)) rfl
structure RfOk (P:PL):Prop where
 k:∀ p∈P,(0<=p.1.1/\p.1.1<=1000)/\0<=p.1.2/\p.1.2<=1000
 l:P.length<=700
def kV (P R:PL):PL:=nfP (qH P R)
def addP (P R:PL):PL:=nfP (P++R)
section
variable {P R o q:PL} {i k:Nat}
theorem row_snoc (a:KI×Rat) (hk:k<R.length):rowP a (R.take (k+1))=rowP a (R.take k)++[(kadd a.1 (R.getD k rrZ).1,a.2*(R.getD k rrZ).2)]:=by
 rw[gd_split hk];unfold rowP;rw[qa];rfl
theorem prods_snoc (hi:i<P.length):qH (P.take (i+1)) R=qH (P.take i) R++rowP (P.getD i rrZ) R:=by
 rw[gd_split hi];unfold qH;rw[List.flatMap_append];simp
theorem mup_t {A:PL} (h:q=A++rowP (P.getD i rrZ) (R.take k)) (hk:k<R.length):q++[((Prod.fst (Prod.fst (P.getD i rrZ))+Prod.fst (Prod.fst (R.getD k rrZ)),Prod.snd (Prod.fst (P.getD i rrZ))+Prod.snd (Prod.fst (R.getD k rrZ))),Prod.snd (P.getD i rrZ)*Prod.snd (R.getD k rrZ))]=A++rowP (P.getD i rrZ) (R.take (k+1)):=by
 rw[row_snoc _ hk,h,z6];rfl
theorem mup_n (h:q=qH (P.take i) R++rowP (P.getD i rrZ) (R.take k)) (hk:R.length<=k) (hi:i<P.length):q=qH (P.take (i+1)) R:=by
 rw[prods_snoc hi,h,zz hk]
theorem mup_l (h:q=qH (P.take i) R++rowP (P.getD i rrZ) (R.take k)) (hP:P.length<=700) (hR:R.length<=700) (hi:i<=P.length) (hk:k<=R.length):q.length<=600000:=by
 have e:(rowP (P.getD i rrZ) (R.take k)).length<=700:=by unfold rowP;rw[zH,zn];omega
 have f:(qH (P.take i) R).length<=700*700:=by
  rw[prods_len]
  exact Nat.mul_le_mul (by rw[zn];omega) hR
 rw[h,za];omega
theorem mup_a (h:o=qH (P.take i) R) (hP:P.length<=700) (hR:R.length<=700) (hi:P.length<=i):o.length<=1000000:=by
 rw[h,zz hi,prods_len]
 exact qf (Nat.mul_le_mul hP hR) ah
end
theorem w84 (P R:PL) (U V:Nat) (hP:RfOk P) (hR:RfOk R) (nP:NB P U) (nR:NB R V) (hB:U<1000000000) (hC:V<1000000000) (hBC:U*V<1000000000):CKa 84 [vL eR P,vL eR R] (vL eR (kV P R)):=by
 refine cL 10 [] qf84 Z (nB Z) Z Z (kc (E Z (B.jN (enc:=eR) Z) (E Z (B.adopt 15 3 83 Z Z) (l3 (fun (i:Nat) (v:Nat) (o:PL)=>[(0,vL eR P),(1,vL eR R),(5,.aref 15 v),(6,vI ((i:Nat):Int))]) (fun _ v o=>[(15,.arr v 3 83 (List.map eR o))]) (fun i v o=>i<=List.length P/\v=List.length o/\o=qH (List.take i P) R) (fun i _ _=>List.length P-i) 0 0 [] Z ?_ (sb Z Z Z) ?_))))
 · exact⟨zt _,rfl,rfl⟩
 intro i v o hI0
 refine E Z (B.jK Z un28) (Cp Z Z (fun h1=>?_) (fun h1=>?_))
 ·refine l3 (fun (k:Nat) (u:Nat) (q:PL)=>[(0,vL eR P),(1,vL eR R),(5,.aref 15 u),(6,vI ((i:Nat):Int)),(7,vI ((k:Nat):Int))]) (fun _ u q=>[(15,.arr u 3 83 (List.map eR q))]) (fun k u q=>k<=List.length R/\u=List.length q/\q=qH (List.take i P) R++rowP (List.getD P i rrZ) (List.take k R)) (fun k _ _=>List.length R-k) 0 v o Z ?_ (sb Z Z Z) ?_
  · (exact⟨zt _,hI0.2.1,by rw[hI0.2.2];exact (zQ _).symm⟩)
  intro k u q hI1
  have hq:=mup_l hI1.2.2 hP.l hR.l hI0.1 hI1.1
  refine E Z (B.jK Z un28) (Cp Z Z (fun h2=>?_) (fun h2=>?_))
  ·refine E Z (B.idx (z:=rrZ) (i:=i) Z Z un28 sz83 (fun _=>rfl) Z cu) (E Z (B.idx (z:=rrZ) (i:=k) Z Z un28 sz83 (fun _=>rfl) Z cu) (C Z (w69 (Prod.snd (List.getD P i rrZ)) (Prod.snd (List.getD R k rrZ)) (nb_g nP hB aa) (nb_g nR hC aa)) Z Z Z (E Z (B.idx (z:=rrZ) (i:=i) Z Z un28 sz83 (fun _=>rfl) Z cu) (E Z (B.idx (z:=rrZ) (i:=k) Z Z un28 sz83 (fun _=>rfl) Z cu) (E Z (B.add Z Z dQ) (E Z (B.idx (z:=rrZ) (i:=i) Z Z un28 sz83 (fun _=>rfl) Z cu) (E Z (B.idx (z:=rrZ) (i:=k) Z Z un28 sz83 (fun _=>rfl) Z cu) (E Z (B.add Z Z dQ) (E Z (B.run (val:=.pv (.agg [pS (bsO (txt ((Prod.snd (List.getD P i rrZ))*(Prod.snd (List.getD R k rrZ))))),pI ((Prod.fst (Prod.fst (List.getD P i rrZ)))+(Prod.fst (Prod.fst (List.getD R k rrZ)))),pI ((Prod.snd (Prod.fst (List.getD P i rrZ)))+(Prod.snd (Prod.fst (List.getD R k rrZ))))])) (m:=[]) (rd:=[]) ae) (E Z (B.q5 (val:=.pv (.slice (List.map eR [(((((Prod.fst (Prod.fst (List.getD P i rrZ)))+(Prod.fst (Prod.fst (List.getD R k rrZ))))),(((Prod.snd (Prod.fst (List.getD P i rrZ)))+(Prod.snd (Prod.fst (List.getD R k rrZ)))))),(((Prod.snd (List.getD P i rrZ))*(Prod.snd (List.getD R k rrZ))):Rat))]))) (val0:=.aref 65 0) (m0:=[(65,.arr 0 3 83 [[pS (bsO (txt (Prod.snd (((((Prod.fst (Prod.fst (List.getD P i rrZ)))+(Prod.fst (Prod.fst (List.getD R k rrZ))))),(((Prod.snd (Prod.fst (List.getD P i rrZ)))+(Prod.snd (Prod.fst (List.getD R k rrZ)))))),(((Prod.snd (List.getD P i rrZ))*(Prod.snd (List.getD R k rrZ))):Rat))))),pI (Prod.fst (Prod.fst (((((Prod.fst (Prod.fst (List.getD P i rrZ)))+(Prod.fst (Prod.fst (List.getD R k rrZ))))),(((Prod.snd (Prod.fst (List.getD P i rrZ)))+(Prod.snd (Prod.fst (List.getD R k rrZ)))))),(((Prod.snd (List.getD P i rrZ))*(Prod.snd (List.getD R k rrZ))):Rat)))),pI (Prod.snd (Prod.fst (((((Prod.fst (Prod.fst (List.getD P i rrZ)))+(Prod.fst (Prod.fst (List.getD R k rrZ))))),(((Prod.snd (Prod.fst (List.getD P i rrZ)))+(Prod.snd (Prod.fst (List.getD R k rrZ)))))),(((Prod.snd (List.getD P i rrZ))*(Prod.snd (List.getD R k rrZ))):Rat))))]])]) (rd:=[]) ae (fun l=>Frz.arr l _ _ _ _ _) Z) (E Z (B.append (enc:=eR) (l:=q) (r:=[(((((Prod.fst (Prod.fst (List.getD P i rrZ)))+(Prod.fst (Prod.fst (List.getD R k rrZ))))),(((Prod.snd (Prod.fst (List.getD P i rrZ)))+(Prod.snd (Prod.fst (List.getD R k rrZ)))))),(((Prod.snd (List.getD P i rrZ))*(Prod.snd (List.getD R k rrZ))):Rat))]) Z Z Z un28 in83 Z (fun _=>rfl) by83 cu) (Dr Z ae (E Z (B.add Z Z dQ) (pk Z (L3 (k+1) (u+1) (q++[(((((Prod.fst (Prod.fst (List.getD P i rrZ)))+(Prod.fst (Prod.fst (List.getD R k rrZ))))),(((Prod.snd (Prod.fst (List.getD P i rrZ)))+(Prod.snd (Prod.fst (List.getD R k rrZ)))))),(((Prod.snd (List.getD P i rrZ))*(Prod.snd (List.getD R k rrZ))):Rat))]) ?_ ?_ (sb Z Z Z))))))))))))))))
   · (exact⟨aa,by rw[hI1.2.1,za];rfl,mup_t hI1.2.2 aa⟩)
   · omega
  refine E Z (B.add Z Z dQ) (pk Z (L3 (i+1) u q ?_ ?_ (sb Z Z Z)))
  · exact⟨aa,hI1.2.1,mup_n hI1.2.2 aa aa⟩
  · omega
 refine Fz 9 5 Z Z Z (C Z (w123 o (U*V) (mup_a hI0.2.2 hP.l hR.l aa) (by rw[hI0.2.2,zz aa];exact nP.qH nR) hBC) Z Z Z ?_)
 refine Rt Z ?_
 exact qU (val0:=vL eR (nfP o)) (out0:=[]) (.inr Z) ae (by exact lsl (by rw[hI0.2.2,zz aa];rfl)) rfl
theorem w83 (P R:PL) (U V:Nat) (hP:RfOk P) (hR:RfOk R) (nP:NB P U) (nR:NB R V) (hBC:U+V<1000000000):CKa 83 [vL eR P,vL eR R] (vL eR (addP P R)):=by
 refine cL 10 [] qf83 Z (nB Z) Z Z (kc (E Z (B.jN (enc:=eR) Z) (E Z (B.run Z) (E Z (B.append (enc:=eR) (l:=[]) (r:=P) Z Z Z un28 in83 Z (fun _=>rfl) by83 dR) (E Z (B.appendZ Z Z Z un28 in83 Z (fun _=>rfl) by83 dR) (C Z (w123 (P++R) (U+V) (by rw[za];have:=hP.l;have:=hR.l;omega) (nP.app nR) hBC) Z Z Z ?_))))))
 refine Rt Z ?_
 exact qU (val0:=vL eR (nfP (P++R))) (out0:=[]) (.inr Z) ae Z rfl
abbrev eQt (q:Rat):List PV:=[pS (bsO (txt q))]
def lgF (e:Int) (l:List Rat):Int:=l.foldl (fun b q=>if b=0 then lgE q else b) e
def trR (p:KI×Rat):Trm:=⟨txt p.2,p.1.1,p.1.2⟩
def samB (F:List Trm) (e b:Int) (W:PL):Bool:=decide (e=lgF b (W.map Prod.snd))&&decide (F=(if lgF b (W.map Prod.snd)≠0 then [] else W).map trR)
theorem rf_nf {P:PL}:RfOk (nfP P):=⟨fun p hp=>by
 unfold nfP at hp
 obtain⟨k,hk,rfl⟩:=zD.1 hp
 have:=(mem_ordP.1 hk).1
 simp only;omega,by unfold nfP;rw[zH];exact qf (List.length_filter_le _ _) (of_decide_eq_true ae)⟩
theorem rf_1 {c:Rat}:RfOk [((0,0),c)]:=⟨fun p hp=>by rw[zg.1 hp];exact⟨⟨Int.le_refl 0,(by decide:(0:Int)<=1000)⟩,Int.le_refl 0,(by decide:(0:Int)<=1000)⟩,(by decide:1<=700)⟩
theorem nb_m:NB [((0,0), -1)] 1:=⟨[((0,0), -1)],rfl,zA _⟩
theorem tx_m1:txt (-1)=[45,49]:=ae
section
variable {P W:PL} {o l:List Rat} {k:Nat} {e b:Int} {F:List Trm}
theorem cs_1 (h:o=List.map Prod.snd (List.take k P)) (hk:k<P.length):o++[Prod.snd (P.getD k rrZ)]=List.map Prod.snd (List.take (k+1) P):=by
 rw[gd_split hk,qa,h];rfl
theorem lgf_s (hk:k<l.length):lgF e (l.take (k+1))=if lgF e (l.take k)=0 then lgE (l.getD k 0) else lgF e (l.take k):=by
 unfold lgF
 rw[List.take_succ_eq_append_getElem hk,List.foldl_append,ze,zm hk];rfl
theorem lgf_1 (h:b=lgF e (l.take k)) (hk:k<l.length) (h0:b=0):lgE (l.getD k 0)=lgF e (l.take (k+1)):=by rw[lgf_s hk,<-h,if_pos h0]
theorem lgf_2 (h:b=lgF e (l.take k)) (hk:k<l.length) (h0:¬b=0):b=lgF e (l.take (k+1)):=by rw[lgf_s hk,<-h,if_neg h0]
theorem trR_m (W:PL):vL eR W=vL eY (W.map trR):=by
 show DV.pv (.slice (List.map eR W))=.pv (.slice (List.map eY (List.map trR W)))
 rw[List.map_map];rfl
theorem w86r (F:List Trm) (W:PL) (h1:List.length F<=1000000) (h2:List.length W<=1000000):CKa 86 [vL eY F,vL eR W] (vB (decide (F=W.map trR))):=by
 rw[trR_m];exact w86 F _ h1 (by rw[zH];exact h2)
theorem sam_1 (h:lgF b (W.map Prod.snd)≠0):(bif decide (e=lgF b (W.map Prod.snd)) then decide (F=List.map trR []) else false)=samB F e b W:=by
 unfold samB;rw[if_pos h];cases decide (e=lgF b (W.map Prod.snd))<;>rfl
theorem sam_2 (h:¬lgF b (W.map Prod.snd)≠0):(bif decide (e=lgF b (W.map Prod.snd)) then decide (F=List.map trR W) else false)=samB F e b W:=by
 unfold samB;rw[if_neg h];cases decide (e=lgF b (W.map Prod.snd))<;>rfl
end
theorem w108 (P:PL) (U:Nat) (hP:RfOk P) (nP:NB P U) (hB:U<1000000000):CKa 108 [vL eR P,vS (bsO (txt (-1)))] (vL eR (kV P [((0,0), -1)])):=by
 refine cL 10 [] qf108 Z (nB Z) Z Z (kc (E Z (B.jN (enc:=eR) Z) (E Z (B.run (val:=.pv (.agg [pS (bsO (txt (-1))),pI 0,pI 0])) (m:=[]) (rd:=[]) ae) (E Z (B.q5 (val:=.pv (.slice (List.map eR [(((0),(0)),((-1):Rat))]))) (val0:=.aref 18 0) (m0:=[(18,.arr 0 3 83 [[pS (bsO (txt (Prod.snd (((0),(0)),((-1):Rat))))),pI (Prod.fst (Prod.fst (((0),(0)),((-1):Rat)))),pI (Prod.snd (Prod.fst (((0),(0)),((-1):Rat))))]])]) (rd:=[]) ae (fun l=>Frz.arr l _ _ _ _ _) Z) (C Z (w84 P [((0,0), -1)] U 1 hP rf_1 nP nb_m hB ah aa) Z Z Z ?_)))))
 refine Rt Z ?_
 exact qU (val0:=vL eR (kV P [((0,0), -1)])) (out0:=[]) (.inr Z) ae Z rfl
theorem w108m (P:PL) (U:Nat) (hP:RfOk P) (nP:NB P U) (hB:U<1000000000):CKa 108 [vL eR P,vS (bsO [45,49])] (vL eR (kV P [((0,0), -1)])):=by
 have h:=w108 P U hP nP hB
 rw[tx_m1] at h
 exact h
theorem w109 (P:PL) (hl:List.length P<=1000000):CKa 109 [vL eR P] (vL eQt (List.map Prod.snd P)):=by
 refine cL 10 [] qf109 Z (nB Z) Z Z (kc (E Z (B.jN (enc:=eQt) Z) (E Z (B.adopt 13 1 33 Z Z) (E Z (B.jK Z un28) (l2 (fun (k:Nat) (o:List Rat)=>[(3,.aref 13 k),(6,vL eR P),(7,vI ((List.length P:Nat):Int)),(8,vI ((k:Nat):Int))]) (fun k o=>[(13,.arr k 1 33 (List.map eQt o))]) (fun k o=>k<=List.length P/\o=List.map Prod.snd (List.take k P)) (fun k _=>List.length P-k) 0 [] Z ?_ (sb Z Z Z) ?_)))))
 · exact⟨zt _,rfl⟩
 intro k o hI0
 have hol:List.length o=k:=by rw[hI0.2,zH,zn];omega
 refine Cp Z Z (fun h1=>?_) (fun h1=>?_)
 ·refine E Z (B.idx (z:=rrZ) (i:=k) Z Z un28 sz83 (fun _=>rfl) Z cu) (E Z (B.q5 (val:=.pv (.slice (List.map eQt [(Prod.snd (List.getD P k rrZ))]))) (val0:=.aref 25 0) (m0:=[(25,.arr 0 1 33 [[pS (bsO (txt (Prod.snd (List.getD P k rrZ))))]])]) (rd:=[]) ae (fun l=>Frz.arr l _ _ _ _ _) Z) (E Z (B.append (enc:=eQt) (l:=o) (r:=[(Prod.snd (List.getD P k rrZ))]) Z Z Z un61 in33 Z (fun _=>rfl) by33 cu) (E Z (B.add Z Z bj) (pk Z (L2 (k+1) (o++[(Prod.snd (List.getD P k rrZ))]) ?_ ?_ (sb Z Z Z))))))
  · exact⟨aa,cs_1 hI0.2 aa⟩
  · omega
 refine Fz 7 3 Z Z Z ?_
 refine Rt Z ?_
 exact qU (val0:=vL eQt o) (out0:=[]) (.inr Z) ae (by exact lsl cd) rfl
theorem w44 (e:Int) (l:List Rat) (hl:List.length l<=1000000) (hl2:∀ q∈l,List.length (txt q)<=900000):CKa 44 [vI e,vL eQt l] (vI (lgF e l)):=by
 refine cL 10 [] qf44 Z (nB Z) Z Z (kc (E Z (B.jK Z un61) (l2 (fun (k:Nat) (b:Int)=>[(0,vI b),(7,vL eQt l),(8,vI ((l.length:Nat):Int)),(9,vI ((k:Nat):Int))]) (fun _ _=>[]) (fun k b=>k<=List.length l/\b=lgF e (List.take k l)) (fun k _=>List.length l-k) 0 e Z ?_ (sb Z Z Z) ?_)))
 · exact⟨zt _,rfl⟩
 intro k b hI0
 refine Cp Z Z (fun h1=>?_) (fun h1=>?_)
 ·refine E Z (B.idx (z:=0) (i:=k) Z Z un61 sz33 (fun _=>rfl) Z aa) (Cp Z Z (fun h2=>?_) (fun h2=>?_))
  ·refine C Z (w141 (l.getD k 0) (hl2 _ (q7 aa))) Z Z Z (E Z (B.add Z Z bj) (pk Z (L2 (k+1) (lgE (l.getD k 0)) ?_ ?_ (sb Z Z Z))))
   · first|exact⟨aa,lgf_1 hI0.2 aa ab⟩|exact⟨aa,lgf_2 hI0.2 aa ab⟩
   · omega
  refine E Z (B.add Z Z bj) (pk Z (L2 (k+1) b ?_ ?_ (sb Z Z Z)))
  · first|exact⟨aa,lgf_1 hI0.2 aa ab⟩|exact⟨aa,lgf_2 hI0.2 aa ab⟩
  · omega
 refine Rt Z ?_
 exact qU (val0:=vI b) (out0:=[]) (.inr Z) ae (by exact li cd) rfl
theorem w19 (F:List Trm) (e b:Int) (W:PL) (hlf:List.length F<=1000000) (hlw:List.length W<=1000000) (hw:∀ q∈List.map Prod.snd W,List.length (txt q)<=900000):CKa 19 [vL eY F,vI e,vI b,vL eR W] (vB (samB F e b W)):=by
 refine cL 10 [] qf19 Z (nB Z) Z Z (kc (C Z (w109 W hlw) Z Z Z (C Z (w44 b (List.map Prod.snd W) (by rw[zH];exact hlw) hw) Z Z Z (Cp Z Z (fun h1=>?_) (fun h1=>?_)))))
 ·refine E Z (B.jN (enc:=eR) Z) (Eg Z Z (fun hc=>B.move Z) Z (Eg Z Z (fun hc=>B.call (w58 F hlf) Z (ds1 (qB Z hc)) Z) Z (Eg Z Z (fun hc=>B.move Z) Z (Eg Z Z (fun hc=>B.call (w86r F [] hlf ah) Z (ds2 (qB Z hc) (qB Z hc)) Z) Z (E Z (B.pick Z Z Z (gdB Z) Z (jb _)) ?_)))))
  refine Rt Z ?_
  exact qU (val0:=vB (bif (decide (e=(lgF b (List.map Prod.snd W)))) then (decide (F=List.map trR [])) else false)) (out0:=[]) (.inr Z) ae (by exact lb dS) rfl
 refine Eg Z Z (fun hc=>B.move Z) Z (Eg Z Z (fun hc=>B.call (w58 F hlf) Z (ds1 (qB Z hc)) Z) Z (Eg Z Z (fun hc=>B.move Z) Z (Eg Z Z (fun hc=>B.call (w86r F W hlf hlw) Z (ds2 (qB Z hc) (qB Z hc)) Z) Z (E Z (B.pick Z Z Z (gdB Z) Z (jb _)) ?_))))
 refine Rt Z ?_
 exact qU (val0:=vB (bif (decide (e=(lgF b (List.map Prod.snd W)))) then (decide (F=List.map trR W)) else false)) (out0:=[]) (.inr Z) ae (by exact lb dS) rfl
def zrD (N K s:Nat):Rat:=facR (((N:Nat):Int)-((s:Nat):Int)) / (facR ((s:Nat):Int)*(facR ((((N:Nat):Int)+((K:Nat):Int)) / 2-((s:Nat):Int))*facR ((((N:Nat):Int)-((K:Nat):Int)) / 2-((s:Nat):Int))))
def zrC (N K s:Nat):Rat:=if ((s:Nat):Int)%2=1 then -(zrD N K s) else zrD N K s
def zrT (N K s:Nat):Nat->PL
 | 0=>[((0,0),zrC N K s)]
 | i+1=>kV (zrT N K s i) sqP
def zrH (N K:Nat):Nat:=Int.toNat ((((N:Nat):Int)-((K:Nat):Int)) / 2)
def zrR (N K:Nat):Nat->PL
 | 0=>[]
 | s+1=>addP (zrR N K s) (zrT N K s (zrH N K-s))
def zrX:Nat->PL×PL
 | 0=>([((0,0),1)],[])
 | j+1=>(addP (kV (zrX j).1 zX) (kV (kV (zrX j).2 zY) [((0,0), -1)]),addP (kV (zrX j).1 zY) (kV (zrX j).2 zX))
def refZ (N K:Nat) (m:Int):PL:=kV (zrR N K (zrH N K+1)) (if m<0 then (zrX K).2 else (zrX K).1)
theorem rf_s:RfOk sqP:=⟨dc ae,dc ae⟩
theorem rf_x:RfOk zX:=⟨dc ae,dc ae⟩
theorem rf_y:RfOk zY:=⟨dc ae,dc ae⟩
theorem nb_s:NB sqP 2:=sq_nb
theorem nb_x:NB zX 1:=nb_k
theorem nb_y:NB zY 1:=nb_k
section
variable {P R A:PL} {j N S L:Nat} {g:KI->Rat}
theorem j2 (h:Eqv P R):nfP P=nfP R:=by
 have e:cf P=cf R:=funext h
 unfold nfP q8;rw[e]
theorem cf_nd:∀ {l:List KI},l.Nodup->∀ k,cf (l.map fun a=>(a,g a)) k=if k∈l then g k else 0
 | [],_,k=>by simp[cf_nil]
 | a::l,h,k=>by
  have h:=List.nodup_cons.1 h
  rw[zy,jl,cf_nd h.2 k]
  by_cases e:a=k
  ·subst e;simp[h.1,Rat.add_zero]
  rw[if_neg e,Rat.zero_add]
  simp[Ne.symm e]
theorem nf_e (hk:∀ a∈P.map (·.1),0<=a.1/\0<=a.2/\a.1+a.2<=32):Eqv (nfP P) P:=fun k=>by
 unfold nfP
 rw[cf_nd (pw_nd ordP_pw)]
 by_cases h:k∈q8 P
 ·rw[if_pos h]
 rw[if_neg h]
 by_cases h2:k∈P.map (·.1)
 ·exact (zi.1 fun e=>h (mem_ordP.2 ⟨hk k h2,e⟩)).symm
 exact (cf_no h2).symm
theorem nb_nf {B:Nat} (h:NB P B):NB (nfP P) B:=by
 obtain⟨Z,rfl,hZ⟩:=h
 refine⟨(q8 (Z.map cI)).map fun k=>(k,cfZ Z k),?_,qf (l1_nf Z _ (pw_nd ordP_pw)) hZ⟩
 unfold nfP
 rw[List.map_map]
 exact List.map_congr_left fun k _=>by show (k,cf (Z.map cI) k)=(k,((cfZ Z k:Int):Rat));rw[cfZ_e]
theorem nb_mu {U V W:Nat} (h:NB P U) (g:NB R V) (hW:U*V<=W):NB (kV P R) W:=(nb_nf (h.qH g)).le hW
theorem prods_one (b:Rat) (A:PL):qH A [((0,0),b)]=scl b A:=by
 induction A with
 | nil=>rfl
 | cons p A ih=>
  have e:qH (p::A) [((0,0),b)]=(kadd p.1 (0,0),p.2*b)::qH A [((0,0),b)]:=rfl
  rw[e,ih]
  have:kadd p.1 (0,0)=p.1:=by unfold kadd;simp
  rw[this];rfl
end
section
variable {N K s i j:Nat} {a b c d m:Int} {q r x y:PL}
theorem zrX_e:∀ j,j<=9->Eqv (zrX j).1 (zPw j).1/\Eqv (zrX j).2 (zPw j).2
 | 0,_=>⟨Eqv.rfl,Eqv.rfl⟩
 | j+1,hj=>by
  obtain⟨e1,e2⟩:=zrX_e j aa
  obtain⟨z1,z2⟩:=zPw_i j
  obtain⟨y1,y2⟩:=zPw_i (j+1)
  have k32:∀ {N:Nat} {A:PL} {i:Nat},ZI i N A->i<=32->∀ a∈A.map (·.1),0<=a.1/\0<=a.2/\a.1+a.2<=32:=fun h hi a ha=>by have:=h.2.1 a ha;omega
  have m1:Eqv (kV (zrX j).1 zX) (qH (zPw j).1 zX):=by unfold kV;rw[j2 (e1.qH Eqv.rfl)];exact nf_e (k32 (z1.pr (k:=(1,0)) ah) aa)
  have m2:Eqv (kV (zrX j).2 zY) (qH (zPw j).2 zY):=by unfold kV;rw[j2 (e2.qH Eqv.rfl)];exact nf_e (k32 (z2.pr (k:=(0,1)) ah) aa)
  have m3:Eqv (kV (zrX j).1 zY) (qH (zPw j).1 zY):=by unfold kV;rw[j2 (e1.qH Eqv.rfl)];exact nf_e (k32 (z1.pr (k:=(0,1)) ah) aa)
  have m4:Eqv (kV (zrX j).2 zX) (qH (zPw j).2 zX):=by unfold kV;rw[j2 (e2.qH Eqv.rfl)];exact nf_e (k32 (z2.pr (k:=(1,0)) ah) aa)
  have m5:Eqv (kV (kV (zrX j).2 zY) [((0,0), -1)]) (scl ((-1:Int):Rat) (qH (zPw j).2 zY)):=by
   unfold kV
   rw[prods_one]
   have:nfP (scl (-1) (nfP (qH (zrX j).2 zY)))=nfP (scl (-1) (qH (zPw j).2 zY)):=j2 (Eqv.scl (-1) m2)
   rw[this]
   refine nf_e fun a ha=>?_
   rw[scl_keys] at ha
   exact k32 (z2.pr (k:=(0,1)) ah) aa a ha
  have m6:Eqv (kV (zrX j).2 zX) (scl ((1:Int):Rat) (qH (zPw j).2 zX)):=m4.trans fun k=>by rw[cf_scl];exact (Rat.mul_one _).symm
  have c1:(zrX (j+1)).1=nfP (zPw (j+1)).1:=j2 (m1.app m5)
  have c2:(zrX (j+1)).2=nfP (zPw (j+1)).2:=j2 (m3.app m6)
  exact⟨by rw[c1];exact nf_e (k32 y1 aa),by rw[c2];exact nf_e (k32 y2 aa)⟩
theorem nb_xj:∀ j,NB (zrX j).1 (2 ^ j)/\NB (zrX j).2 (2 ^ j)
 | 0=>⟨nb_k,NB.nil.le (zt _)⟩
 | j+1=>by
  obtain⟨h1,h2⟩:=nb_xj j
  rw[Nat.pow_succ,Nat.mul_two]
  exact⟨nb_nf ((nb_mu h1 nb_x (Nat.le_of_eq (Nat.mul_one _))).app (nb_mu (nb_mu h2 nb_y (Nat.le_of_eq (Nat.mul_one _))) nb_m (Nat.le_of_eq (Nat.mul_one _)))),nb_nf ((nb_mu h1 nb_y (Nat.le_of_eq (Nat.mul_one _))).app (nb_mu h2 nb_x (Nat.le_of_eq (Nat.mul_one _))))⟩
theorem nb_x8 (h:j<=8):NB (zrX j).1 256/\NB (zrX j).2 256:=⟨(nb_xj j).1.le (p256 h),(nb_xj j).2.le (p256 h)⟩
theorem rf_0:RfOk []:=⟨fun p hp=>(by cases hp),zt _⟩
theorem rf_xy:RfOk (zrX j).1/\RfOk (zrX j).2:=by
 cases j
 ·exact⟨rf_1,rf_0⟩
 exact⟨rf_nf,rf_nf⟩
theorem rf_t:RfOk (zrT N K s i):=by
 cases i
 ·exact rf_1
 exact rf_nf
theorem rf_r:RfOk (zrR N K s):=by
 cases s
 ·exact rf_0
 exact rf_nf
theorem zf_q (h:a<=8):qS (facR a):=qS_n (Nat.lt_of_le_of_lt (fa_b a.toNat aa) ah)
theorem fa_3:∀ a,a<9->∀ b,b<9->∀ c,c<9->a+b+c<=8->nfac a*(nfac b*nfac c)<=40320:=dc ae
theorem zf_q2 (h:b.toNat+c.toNat<=8):qS (facR b*facR c):=by
 have g:=fa_3 0 ah b.toNat aa c.toNat aa aa
 rw[show nfac 0=1 from rfl,Nat.one_mul] at g
 unfold facR
 rw[<-Rat.natCast_mul]
 exact qS_n aa
theorem zf_m:facR a*(facR b*facR c)=((nfac a.toNat*(nfac b.toNat*nfac c.toNat):Nat):Rat):=by
 unfold facR
 rw[Rat.natCast_mul,Rat.natCast_mul]
theorem nfac_p:∀ n,0<nfac n
 | 0=>ah
 | n+1=>Nat.mul_pos (Nat.succ_pos n) (nfac_p n)
theorem zf_0:0<nfac a.toNat*(nfac b.toNat*nfac c.toNat):=Nat.mul_pos (nfac_p _) (Nat.mul_pos (nfac_p _) (nfac_p _))
theorem zf_3 (h:a.toNat+b.toNat+c.toNat<=8):nfac a.toNat*(nfac b.toNat*nfac c.toNat)<1000000000:=by
 have:=fa_3 a.toNat aa b.toNat aa c.toNat aa aa
 omega
theorem w106t (q r:Rat) (b:Nat) (hr:r=((b:Nat):Rat)) (hq:qS q) (h0:0<b) (h9:b<1000000000):CKa 106 [vS (bsO (txt q)),vS (bsO (txt r))] (vS (bsO (txt (q / r)))):=by
 subst hr
 rw[txt_n];exact w106 q b hq h0 h9
theorem zc_1 (h:((s:Nat):Int)%2=1):zrC N K s= -(facR (((N:Nat):Int)-((s:Nat):Int)) / (facR ((s:Nat):Int)*(facR ((((N:Nat):Int)+((K:Nat):Int)) / 2-((s:Nat):Int))*facR ((((N:Nat):Int)-((K:Nat):Int)) / 2-((s:Nat):Int))))):=if_pos h
theorem zc_2 (h:¬((s:Nat):Int)%2=1):zrC N K s=facR (((N:Nat):Int)-((s:Nat):Int)) / (facR ((s:Nat):Int)*(facR ((((N:Nat):Int)+((K:Nat):Int)) / 2-((s:Nat):Int))*facR ((((N:Nat):Int)-((K:Nat):Int)) / 2-((s:Nat):Int)))):=if_neg h
theorem zr_2 (h:q=zrT N K s i):kV q sqP=zrT N K s (i+1):=by rw[h];rfl
theorem zr_1 (h:r=zrR N K s) (g:q=zrT N K s i) (hi:i=zrH N K-s):addP r q=zrR N K (s+1):=by rw[h,g,hi];rfl
theorem zx_1 (h:x=(zrX j).1) (g:y=(zrX j).2):addP (kV x zX) (kV (kV y zY) [((0,0), -1)])=(zrX (j+1)).1:=by rw[h,g];rfl
theorem zx_2 (h:x=(zrX j).1) (g:y=(zrX j).2):addP (kV x zY) (kV y zX)=(zrX (j+1)).2:=by rw[h,g];rfl
theorem zr_e1 (h:r=zrR N K s) (hs:s=zrH N K+1) (g:y=(zrX j).2) (hj:j=K) (hm:m<0):kV r y=refZ N K m:=by rw[h,hs,g,hj];unfold refZ;rw[if_pos hm]
theorem zr_e2 (h:r=zrR N K s) (hs:s=zrH N K+1) (g:x=(zrX j).1) (hj:j=K) (hm:¬m<0):kV r x=refZ N K m:=by rw[h,hs,g,hj];unfold refZ;rw[if_neg hm]
end
section
variable {N K s i:Nat} {a:Int}
theorem fz_e (h0:0<=a) (h:a<=8):facR a=((jA a:Int):Rat):=by
 have key:∀ n,n<9->((nfac n:Nat):Int)=facL.getD n 0:=ah
 unfold facR jA
 rw[<-key a.toNat aa];rfl
theorem zrH_e (h:K<=N):((zrH N K:Nat):Int)=(((N:Nat):Int)-((K:Nat):Int)) / 2:=by unfold zrH;omega
theorem zc_e (h:RaN ((N:Nat):Int) ((K:Nat):Int)) (hs:s<=zrH N K):zrC N K s=crR ((N:Nat):Int) ((K:Nat):Int) ((s:Nat):Int):=by
 unfold RaN at h
 unfold zrH at hs
 unfold zrC zrD crR
 rw[fz_e aa aa,fz_e aa aa,fz_e aa aa,fz_e aa aa,Rat.intCast_mul,Rat.intCast_mul]
 generalize ((jA (((N:Nat):Int)-((s:Nat):Int)):Int):Rat)=p
 generalize ((jA ((s:Nat):Int):Int):Rat)=q
 generalize ((jA ((((N:Nat):Int)+((K:Nat):Int)) / 2-((s:Nat):Int)):Int):Rat)=u
 generalize ((jA ((((N:Nat):Int)-((K:Nat):Int)) / 2-((s:Nat):Int)):Int):Rat)=v
 rw[<-Rat.mul_assoc]
 split
 ·rw[Rat.neg_mul,Rat.one_mul]
 rw[Rat.one_mul]
theorem cr_N (h:RaN ((N:Nat):Int) ((K:Nat):Int)) (hs:s<=zrH N K):(crR ((N:Nat):Int) ((K:Nat):Int) ((s:Nat):Int)).den=1/\(crR ((N:Nat):Int) ((K:Nat):Int) ((s:Nat):Int)).num.natAbs*2 ^ (zrH N K-s)<=2000:=by
 unfold RaN at h
 have e:zrH N K=(N-K) / 2:=by unfold zrH;omega
 rw[e] at hs ⊢
 exact cr_f N aa K aa s aa aa
theorem zd_q (h:RaN ((N:Nat):Int) ((K:Nat):Int)) (hs:((s:Nat):Int)<(((N:Nat):Int)-((K:Nat):Int)) / 2+1):qS (zrD N K s):=by
 have hs:s<=zrH N K:=by unfold zrH;omega
 have g:=cr_N h hs
 have l:(crR ((N:Nat):Int) ((K:Nat):Int) ((s:Nat):Int)).num.natAbs<=2000:=qf (Nat.le_mul_of_pos_right _ (Nat.pow_pos ah)) g.2
 rw[<-zc_e h hs] at g l
 unfold zrC at g l
 split at g<;>rename_i hc
 ·rw[if_pos hc] at l
  rw[Rat.neg_num,Int.natAbs_neg] at l
  rw[Rat.neg_den] at g
  exact⟨aa,aa⟩
 rw[if_neg hc] at l
 exact⟨aa,aa⟩
theorem nb_ti (h:RaN ((N:Nat):Int) ((K:Nat):Int)) (hs:s<=zrH N K):∀ i,NB (zrT N K s i) ((crR ((N:Nat):Int) ((K:Nat):Int) ((s:Nat):Int)).num.natAbs*2 ^ i)
 | 0=>by rw[zrT,zc_e h hs];exact NB.of (fun p hp=>by rw[zg.1 hp];exact (cr_N h hs).1) ao
 | i+1=>nb_mu (nb_ti h hs i) nb_s (by rw[Nat.pow_succ,Nat.mul_assoc];exact zA _)
theorem nb_t2 (h:RaN ((N:Nat):Int) ((K:Nat):Int)) (hs:s<=zrH N K) (hi:i<=zrH N K-s):NB (zrT N K s i) 2000:=(nb_ti h hs i).le (qf (Nat.mul_le_mul_left _ (Nat.pow_le_pow_right ah hi)) (cr_N h hs).2)
theorem nb_t1 (h:RaN ((N:Nat):Int) ((K:Nat):Int)) (hs:((s:Nat):Int)<(((N:Nat):Int)-((K:Nat):Int)) / 2+1) (hi:((i:Nat):Int)<=(((N:Nat):Int)-((K:Nat):Int)) / 2-((s:Nat):Int)):NB (zrT N K s i) 2000:=nb_t2 h dT dT
theorem nb_ri (h:RaN ((N:Nat):Int) ((K:Nat):Int)):∀ s,s<=zrH N K+1->NB (zrR N K s) (2000*s)
 | 0,_=>NB.nil
 | s+1,hs=>by rw[Nat.mul_succ];exact nb_nf ((nb_ri h s aa).app (nb_t2 h aa (zA _)))
theorem nb_r1 (h:RaN ((N:Nat):Int) ((K:Nat):Int)) (hs:((s:Nat):Int)<=(((N:Nat):Int)-((K:Nat):Int)) / 2+1):NB (zrR N K s) 10000:=by
 have g:=nb_ri h s dT
 unfold RaN at h
 exact g.le aa
theorem zrT_e (h:RaN ((N:Nat):Int) ((K:Nat):Int)) (hs:s<=zrH N K):∀ i,i<=zrH N K-s->Eqv (zrT N K s i) (powP (crR ((N:Nat):Int) ((K:Nat):Int) ((s:Nat):Int)) i)
 | 0,_=>by rw[zrT,zc_e h hs];exact Eqv.rfl
 | i+1,hi=>by
  have e1:=zrT_e h hs i aa
  have e:zrT N K s (i+1)=nfP (powP (crR ((N:Nat):Int) ((K:Nat):Int) ((s:Nat):Int)) (i+1)):=j2 (e1.qH Eqv.rfl)
  rw[e]
  exact nf_e fun a ha=>by have:=pw_key ha;unfold zrH RaN at *;omega
theorem zrR_e (h:RaN ((N:Nat):Int) ((K:Nat):Int)):∀ s,s<=zrH N K+1->Eqv (zrR N K s) (radP ((N:Nat):Int) ((K:Nat):Int) s)
 | 0,_=>Eqv.rfl
 | s+1,hs=>by
  have e1:=zrR_e h s aa
  have e2:=zrT_e h (s:=s) aa (zrH N K-s) (zA _)
  have et:zrH N K-s=Int.toNat ((((N:Nat):Int)-((K:Nat):Int)) / 2-((s:Nat):Int)):=by unfold zrH;omega
  rw[et] at e2
  have e:zrR N K (s+1)=nfP (radP ((N:Nat):Int) ((K:Nat):Int) (s+1)):=by
   rw[zrR,et]
   exact j2 (e1.app (e2.trans fun k=>by rw[cf_scl];exact (Rat.mul_one _).symm))
  have h5:Int.toNat ((((N:Nat):Int)-((K:Nat):Int)) / 2+1)=zrH N K+1:=by unfold zrH RaN at *;omega
  have r2:=(rad_i h (s+1) (by rw[h5];exact hs)).2
  rw[e]
  refine nf_e fun a ha=>?_
  have:=r2 a ha
  unfold RaN at h
  omega
theorem refZ_e (h:RaN ((N:Nat):Int) ((K:Nat):Int)) {m:Int} (hK:max m (0-m)=((K:Nat):Int)):refZ N K m=nfP (zeP ((N:Nat):Int) m):=by
 have hh:=h
 unfold RaN at hh
 have e1:=zrR_e h (zrH N K+1) (zA _)
 obtain⟨x1,x2⟩:=zrX_e K aa
 unfold refZ zeP
 rw[hK,zS]
 have e2:radP ((N:Nat):Int) ((K:Nat):Int) (zrH N K+1)=radQ ((N:Nat):Int) ((K:Nat):Int):=by unfold radQ zrH;congr 1;omega
 rw[e2] at e1
 refine j2 (e1.qH ?_)
 split
 ·exact x2
 exact x1
end
theorem w18 (N K:Nat) (m:Int) (hN:N<=8) (hK:max m (0-m)=((K:Nat):Int)) (hKN:K<=N) (hR:RaN ((N:Nat):Int) ((K:Nat):Int)):CKa 18 [vI ((N:Nat):Int),vI m] (vL eR (refZ N K m)):=by
 refine cL 10 [] qf18 Z (nB Z) Z Z ?_
 have hH:=zrH_e hKN
 refine kc (E Z (B.jN (enc:=eR) Z) (E Z (B.sub Z Z bj) (E Z (B.max Z Z) ?_)))
 refine tk 2 Z ?_
 refine tn ⟨[(0,vI ((N:Nat):Int)),(1,vI m),(5,vI (max m (0-m)))],[]⟩ rfl rfl Z ?_
 rw[hK]
 refine kc (E Z (B.run (val:=.pv (.agg [pS (bsO [49]),pI 2,pI 0])) (m:=[]) (rd:=[]) ae) (E Z (B.run (val:=.pv (.agg [pS (bsO [49]),pI 0,pI 2])) (m:=[]) (rd:=[]) ae) (E Z (B.q5 (val:=.pv (.slice (List.map eR [(((2),(0)),(1:Rat)),(((0),(2)),(1:Rat))]))) (val0:=.aref 33 0) (m0:=[(33,.arr 0 3 83 [[pS (bsO (txt (Prod.snd (((2),(0)),(1:Rat))))),pI (Prod.fst (Prod.fst (((2),(0)),(1:Rat)))),pI (Prod.snd (Prod.fst (((2),(0)),(1:Rat))))],[pS (bsO (txt (Prod.snd (((0),(2)),(1:Rat))))),pI (Prod.fst (Prod.fst (((0),(2)),(1:Rat)))),pI (Prod.snd (Prod.fst (((0),(2)),(1:Rat))))]])]) (rd:=[]) ae (fun l=>Frz.arr l _ _ _ _ _) Z) (E Z (B.jN (enc:=eR) Z) (l2 (fun (s:Nat) (r:PL)=>[(0,vI ((N:Nat):Int)),(1,vI m),(5,vI ((K:Nat):Int)),(6,vL eR [(((2),(0)),(1:Rat)),(((0),(2)),(1:Rat))]),(7,vL eR r),(8,vI ((s:Nat):Int))]) (fun _ _=>[]) (fun s r=>((s:Nat):Int)<=(((N:Nat):Int)-((K:Nat):Int)) / 2+1/\r=zrR N K s) (fun s _=>10-s) 0 [] Z ?_ (sb Z Z Z) ?_)))))
 · exact⟨aa,rfl⟩
 intro s r hI0
 have hz0:=hI0
 refine E Z (B.sub Z Z bj) (E Z (B.quoN Z Z dU ah bj) (Cp Z Z (fun h1=>?_) (fun h1=>?_)))
 ·refine E Z (B.sub Z Z bj) (C Z (w107 (((N:Nat):Int)-((s:Nat):Int)) aa) Z Z Z (C Z (w107 ((s:Nat):Int) aa) Z Z Z (E Z (B.add Z Z bj) (E Z (B.quoN Z Z dU ah bj) (E Z (B.sub Z Z bj) (C Z (w107 (((((N:Nat):Int)+((K:Nat):Int)) / 2)-((s:Nat):Int)) aa) Z Z Z (E Z (B.sub Z Z bj) (E Z (B.quoN Z Z dU ah bj) (E Z (B.sub Z Z bj) (C Z (w107 (((((N:Nat):Int)-((K:Nat):Int)) / 2)-((s:Nat):Int)) aa) Z Z Z (C Z (w69 (facR (((((N:Nat):Int)+((K:Nat):Int)) / 2)-((s:Nat):Int))) (facR (((((N:Nat):Int)-((K:Nat):Int)) / 2)-((s:Nat):Int))) (zf_q aa) dV) Z Z Z (C Z (w69 (facR ((s:Nat):Int)) ((facR (((((N:Nat):Int)+((K:Nat):Int)) / 2)-((s:Nat):Int)))*(facR (((((N:Nat):Int)-((K:Nat):Int)) / 2)-((s:Nat):Int)))) (zf_q aa) dV) Z Z Z (C Z (w106t (facR (((N:Nat):Int)-((s:Nat):Int))) ((facR ((s:Nat):Int))*((facR (((((N:Nat):Int)+((K:Nat):Int)) / 2)-((s:Nat):Int)))*(facR (((((N:Nat):Int)-((K:Nat):Int)) / 2)-((s:Nat):Int))))) _ zf_m (zf_q aa) zf_0 (zf_3 aa)) Z Z Z ?_)))))))))))))
  refine E Z (B.remN Z Z dU ah) (Cj [(0,vI ((N:Nat):Int)),(1,vI m),(5,vI ((K:Nat):Int)),(6,vL eR [(((2),(0)),(1:Rat)),(((0),(2)),(1:Rat))]),(7,vL eR r),(8,vI ((s:Nat):Int)),(9,vS (bsO (txt (zrC N K s))))] [] Z Z Z (fun h2=>?_) (fun h2=>?_) ?_)
  ·replace h2:=of_decide_eq_true h2
   refine C Z (w87 ((facR (((N:Nat):Int)-((s:Nat):Int))) / ((facR ((s:Nat):Int))*((facR (((((N:Nat):Int)+((K:Nat):Int)) / 2)-((s:Nat):Int)))*(facR (((((N:Nat):Int)-((K:Nat):Int)) / 2)-((s:Nat):Int)))))) (qf (qk_len Z (zd_q hR aa)) ah)) Z Z Z (pk Z ?_)
   show Sub _ _ _
   first|rw[zc_1 ab]|rw[zc_2 ab]
   exact sb Z Z rfl
  ·replace h2:=of_decide_eq_false h2
   refine pk Z ?_
   show Sub _ _ _
   first|rw[zc_1 ab]|rw[zc_2 ab]
   exact sb Z Z rfl
  refine E Z (B.run (val:=.pv (.agg [pS (bsO (txt (zrC N K s))),pI 0,pI 0])) (m:=[]) (rd:=[]) ae) (E Z (B.q5 (val:=.pv (.slice (List.map eR [(((0),(0)),((zrC N K s):Rat))]))) (val0:=.aref 72 0) (m0:=[(72,.arr 0 3 83 [[pS (bsO (txt (Prod.snd (((0),(0)),((zrC N K s):Rat))))),pI (Prod.fst (Prod.fst (((0),(0)),((zrC N K s):Rat)))),pI (Prod.snd (Prod.fst (((0),(0)),((zrC N K s):Rat))))]])]) (rd:=[]) ae (fun l=>Frz.arr l _ _ _ _ _) Z) (l2 (fun (i:Nat) (q:PL)=>[(0,vI ((N:Nat):Int)),(1,vI m),(5,vI ((K:Nat):Int)),(6,vL eR [(((2),(0)),(1:Rat)),(((0),(2)),(1:Rat))]),(7,vL eR r),(8,vI ((s:Nat):Int)),(10,vL eR q),(11,vI ((i:Nat):Int))]) (fun _ _=>[]) (fun i q=>((i:Nat):Int)<=(((N:Nat):Int)-((K:Nat):Int)) / 2-((s:Nat):Int)/\q=zrT N K s i) (fun i _=>10-i) 0 ([((0,0),zrC N K s)]) Z ?_ (sb Z Z Z) ?_))
  · exact⟨aa,rfl⟩
  intro i q hI1
  refine E Z (B.sub Z Z bj) (E Z (B.quoN Z Z dU ah bj) (E Z (B.sub Z Z bj) (Cp Z Z (fun h3=>?_) (fun h3=>?_))))
  ·refine C Z (w84 q [(((2),(0)),(1:Rat)),(((0),(2)),(1:Rat))] 2000 2 (by rw[hI1.2];exact rf_t) rf_s (by rw[hI1.2];exact nb_t1 hR aa aa) nb_s ah ah ah) Z Z Z (E Z (B.add Z Z bj) (pk Z (L2 (i+1) (kV q [(((2),(0)),(1:Rat)),(((0),(2)),(1:Rat))]) ?_ ?_ (sb Z Z Z))))
   · exact⟨aa,zr_2 hI1.2⟩
   · omega
  refine C Z (w83 r q 10000 2000 dW (by rw[hI1.2];exact rf_t) dX (by rw[hI1.2];exact nb_t1 hR aa aa) ah) Z Z Z (E Z (B.add Z Z bj) (pk Z (L2 (s+1) (addP r q) ?_ ?_ (sb Z Z Z))))
  · exact⟨aa,zr_1 hI0.2 hI1.2 aa⟩
  · omega
 refine E Z (B.run (val:=.pv (.agg [pS (bsO [49]),pI 0,pI 0])) (m:=[]) (rd:=[]) ae) (E Z (B.q5 (val:=.pv (.slice (List.map eR [(((0),(0)),(1:Rat))]))) (val0:=.aref 90 0) (m0:=[(90,.arr 0 3 83 [[pS (bsO (txt (Prod.snd (((0),(0)),(1:Rat))))),pI (Prod.fst (Prod.fst (((0),(0)),(1:Rat)))),pI (Prod.snd (Prod.fst (((0),(0)),(1:Rat))))]])]) (rd:=[]) ae (fun l=>Frz.arr l _ _ _ _ _) Z) (E Z (B.q5 (val:=.pv (.slice (List.map eR []))) (val0:=.aref 91 0) (m0:=[(91,.arr 0 3 83 [])]) (rd:=[]) ae (fun l=>Frz.arr l _ _ _ _ _) Z) (E Z (B.run (val:=.pv (.agg [pS (bsO [49]),pI 1,pI 0])) (m:=[]) (rd:=[]) ae) (E Z (B.q5 (val:=.pv (.slice (List.map eR [(((1),(0)),(1:Rat))]))) (val0:=.aref 93 0) (m0:=[(93,.arr 0 3 83 [[pS (bsO (txt (Prod.snd (((1),(0)),(1:Rat))))),pI (Prod.fst (Prod.fst (((1),(0)),(1:Rat)))),pI (Prod.snd (Prod.fst (((1),(0)),(1:Rat))))]])]) (rd:=[]) ae (fun l=>Frz.arr l _ _ _ _ _) Z) (E Z (B.run (val:=.pv (.agg [pS (bsO [49]),pI 0,pI 1])) (m:=[]) (rd:=[]) ae) (E Z (B.q5 (val:=.pv (.slice (List.map eR [(((0),(1)),(1:Rat))]))) (val0:=.aref 95 0) (m0:=[(95,.arr 0 3 83 [[pS (bsO (txt (Prod.snd (((0),(1)),(1:Rat))))),pI (Prod.fst (Prod.fst (((0),(1)),(1:Rat)))),pI (Prod.snd (Prod.fst (((0),(1)),(1:Rat))))]])]) (rd:=[]) ae (fun l=>Frz.arr l _ _ _ _ _) Z) (l3 (fun (j:Nat) (x:PL) (y:PL)=>[(1,vI m),(5,vI ((K:Nat):Int)),(7,vL eR r),(12,vL eR x),(13,vL eR y),(14,vL eR [(((1),(0)),(1:Rat))]),(15,vL eR [(((0),(1)),(1:Rat))]),(16,vI ((j:Nat):Int))]) (fun _ _ _=>[]) (fun j x y=>j<=K/\x=(zrX j).1/\y=(zrX j).2) (fun j _ _=>K-j) 0 ([((0,0),1)]) [] Z ?_ (sb Z Z Z) ?_)))))))
 · exact⟨zt _,rfl,rfl⟩
 intro j x y hI2
 refine Cp Z Z (fun h4=>?_) (fun h4=>?_)
 ·refine C Z (w84 x [(((1),(0)),(1:Rat))] 256 1 dY rf_x ep nb_x ah ah ah) Z Z Z (C Z (w84 y [(((0),(1)),(1:Rat))] 256 1 ee rf_y eu nb_y ah ah ah) Z Z Z (C Z (w108m (kV y [(((0),(1)),(1:Rat))]) 256 rf_nf (nb_mu eu nb_y ah) ah) Z Z Z (C Z (w83 (kV x [(((1),(0)),(1:Rat))]) (kV (kV y [(((0),(1)),(1:Rat))]) [((0,0), -1)]) 256 256 rf_nf rf_nf (nb_mu ep nb_x ah) (nb_mu (U:=256) (nb_mu eu nb_y ah) nb_m ah) ah) Z Z Z (C Z (w84 x [(((0),(1)),(1:Rat))] 256 1 dY rf_y ep nb_y ah ah ah) Z Z Z (C Z (w84 y [(((1),(0)),(1:Rat))] 256 1 ee rf_x eu nb_x ah ah ah) Z Z Z (C Z (w83 (kV x [(((0),(1)),(1:Rat))]) (kV y [(((1),(0)),(1:Rat))]) 256 256 rf_nf rf_nf (nb_mu ep nb_y ah) (nb_mu eu nb_x ah) ah) Z Z Z (E Z (B.add Z Z bj) (pk Z (L3 (j+1) (addP (kV x [(((1),(0)),(1:Rat))]) (kV (kV y [(((0),(1)),(1:Rat))]) [((0,0), -1)])) (addP (kV x [(((0),(1)),(1:Rat))]) (kV y [(((1),(0)),(1:Rat))])) ?_ ?_ (sb Z Z Z))))))))))
  · exact⟨aa,zx_1 hI2.2.1 hI2.2.2,zx_2 hI2.2.1 hI2.2.2⟩
  · omega
 refine Cp Z Z (fun h5=>?_) (fun h5=>?_)
 ·refine C Z (w84 r y 10000 256 dW ee dX eu ah ah ah) Z Z Z ?_
  refine Rt Z ?_
  exact qU (val0:=vL eR (kV r y)) (out0:=[]) (.inr Z) ae (by exact lsl eg) rfl
 refine C Z (w84 r x 10000 256 dW dY dX ep ah ah ah) Z Z Z ?_
 refine Rt Z ?_
 exact qU (val0:=vL eR (kV r x)) (out0:=[]) (.inr Z) ae (by exact lsl eg) rfl
theorem w19t {F:List Trm} {e b:Int} {W:PL} (hs:samB F e b W=true) (hlf:List.length F<=1000000) (hlw:List.length W<=1000000) (hw:∀ q∈List.map Prod.snd W,List.length (txt q)<=900000):CKa 19 [vL eY F,vI e,vI b,vL eR W] (vB true):=by
 have h:=w19 F e b W hlf hlw hw
 rwa [hs] at h
theorem ch_e (n m:Int):chR n m=zeE n m:=by
 unfold chR zeE
 by_cases h:qz n 0 8=0
 ·have hn:=wi_0.1 h
  have e1:kB (0-n)=0-n:=by unfold kB;omega
  rw[e1,if_neg (show ¬qz n 0 8≠0 from fun g=>g h),qx,if_pos h]
  by_cases g:qz m (0-n) n=0
  ·have hm:=wi_0.1 g
   have e2:kB (n-m)=n-m:=by unfold kB;omega
   have a1:qx [qz m (0-n) n]=0:=by rw[qx,if_pos g];rfl
   have a2:∀ x,qx [qz m (0-n) n,x]=qx [x]:=fun x=>by rw[qx,if_pos g]
   rw[e2,a1,a2]
   by_cases k:Int.tmod (n-m) 2≠0
   ·rw[if_pos ⟨rfl,k⟩,zl k];rfl
   rw[if_neg (fun q=>k q.2),zk k];rfl
  have a1:qx [qz m (0-n) n]=qz m (0-n) n:=by rw[qx,if_neg g]
  have a2:∀ x,qx [qz m (0-n) n,x]=qz m (0-n) n:=fun x=>by rw[qx,if_neg g]
  rw[a1,a2,if_neg (fun q=>g q.1)]
 rw[if_pos h,qx,if_neg h,if_neg (fun q=>h q.1)]
section
variable {n m:Int} {N K:Nat} {l:List Rat} {P:PL} {q:Rat}
theorem cz_n (h:chR n m=0):∃ N K:Nat,n=((N:Nat):Int)/\max m (0-m)=((K:Nat):Int)/\RaN ((N:Nat):Int) ((K:Nat):Int):=by
 rw[ch_e] at h
 have h1:¬qz n 0 8≠0:=fun g=>by unfold zeE at h;rw[if_pos g] at h;exact g h
 have h2:¬qx [qz m (0-n) n,qO (decide (Int.tmod (kB (n-m)) 2≠0)) 18]≠0:=fun g=>g (by rw[<-ze_e h1];exact h)
 have hr:=ze_n h1 h2
 have hn:=ze_b0 h1
 refine⟨n.toNat,(max m (0-m)).toNat,aa,aa,?_⟩
 rwa [show ((n.toNat:Nat):Int)=n by omega,show (((max m (0-m)).toNat:Nat):Int)=max m (0-m) by omega]
theorem lgF_0:∀ {l:List Rat} {b:Int},lgF b l=if b=0 then (bif l.any jd then 4 else 0) else b
 | [],b=>by unfold lgF;simp only[List.foldl_nil,List.any_nil,cond_false];split<;>simp_all
 | a::l,b=>by
  have ih:= @lgF_0 l
  have e:lgF b (a::l)=lgF (if b=0 then lgE a else b) l:=rfl
  rw[e,ih,List.any_cons]
  unfold lgE
  by_cases h:b=0
  ·rw[if_pos h,if_pos h]
   cases jd a
   ·simp
   simp
  rw[if_neg h,if_neg h,if_neg h]
theorem nf_lg (P:PL):lgF 0 ((nfP P).map Prod.snd)=polE P:=by
 rw[lgF_0,if_pos rfl]
 unfold polE polL nfP
 rw[List.map_map,List.any_map];rfl
theorem nf_can (P:PL):(nfP P).map trR=canT P:=by unfold nfP canT;rw[List.map_map];rfl
theorem ord_l (P:PL):(q8 P).length<=561:=qf (List.length_filter_le _ _) (of_decide_eq_true ae)
theorem ms_l (e:Int) (P:PL):(erL e (polT P)).length<=1000000:=by
 unfold erL polT
 split
 ·exact zt _
 cases polL P
 ·show (canT P).length<=_;unfold canT;rw[zH];exact qf (ord_l P) ah
 exact zt _
theorem ms_w:(refZ N K m).length<=1000000:=by unfold refZ kV nfP;rw[zH];exact qf (ord_l _) ah
theorem ms_x (hR:RaN ((N:Nat):Int) ((K:Nat):Int)):∀ q∈List.map Prod.snd (refZ N K m),List.length (txt q)<=900000:=by
 intro q hq
 have h1:=nb_r1 (s:=zrH N K+1) hR (by unfold zrH RaN at *;omega)
 have h2:=nb_x8 (j:=K) dZ
 have h3:NB (qH (zrR N K (zrH N K+1)) (if m<0 then (zrX K).2 else (zrX K).1)) 2560000:=by
  split
  ·exact h1.qH h2.2
  exact h1.qH h2.1
 unfold refZ kV nfP at hq
 rw[List.map_map] at hq
 obtain⟨k,_,rfl⟩:=zD.1 hq
 exact qf (qk_len Z (nb_q h3 ah k)) ah
theorem ms_1 (hK:max m (0-m)=((K:Nat):Int)) (hR:RaN ((N:Nat):Int) ((K:Nat):Int)) (h:chR ((N:Nat):Int) m=0):samB (erL (zeE ((N:Nat):Int) m) (polT (zeP ((N:Nat):Int) m))) (erE (zeE ((N:Nat):Int) m) (polE (zeP ((N:Nat):Int) m))) (chR ((N:Nat):Int) m) (refZ N K m)=true:=by
 have hz:zeE ((N:Nat):Int) m=0:=by rw[<-ch_e];exact h
 rw[h,hz,refZ_e hR hK]
 unfold samB erL erE
 rw[nf_lg,if_neg ao,if_neg ao]
 unfold polE polT
 cases polL (zeP ((N:Nat):Int) m)
 ·simp[nf_can]
 simp
theorem ms_2 (h:¬chR n m=0):samB (erL (zeE n m) (polT (zeP n m))) (erE (zeE n m) (polE (zeP n m))) (chR n m) []=true:=by
 have hz:zeE n m≠0:=by rw[<-ch_e];exact h
 unfold samB erL erE
 rw[if_pos hz,if_pos hz,ch_e]
 simp[lgF]
end
theorem w3 (hp:qZ) (hf:FacLaid) (n m:Int):CKa 3 [vI n,vI m] (vB true):=by
 refine cL 10 [] qf3 Z (nB Z) Z Z (kc (C Z (w16 hp hf n m) Z Z Z (C Z (w17 n m) Z Z Z (E Z (B.jN (enc:=eR) Z) (Cp Z Z (fun h1=>?_) (fun h1=>?_))))))
 ·obtain⟨N,K,rfl,hK,hR⟩:=cz_n h1
  refine C Z (w18 N K m dZ hK dZ hR) Z Z Z (C Z (w19t (ms_1 hK hR h1) (ms_l _ _) ms_w (ms_x hR)) Z Z Z (Et Z Z (B.call (w20 hp hf) Z Z Z) (E Z (B.pick Z Z Z Z Z (kX _)) ?_)))
  refine Rt Z ?_
  exact qU (val0:=vB (bif true then true else false)) (out0:=[]) (.inr Z) ae Z rfl
 refine C Z (w19t (ms_2 h1) (ms_l _ _) (zt _) (fun q hq=>by cases hq)) rfl rfl rfl (Et rfl rfl (B.call (w20 hp hf) rfl rfl rfl) (E rfl (B.pick rfl rfl rfl rfl rfl (kX _)) ?_))
 refine Rt Z ?_
 exact qU (val0:=vB (bif true then true else false)) (out0:=[]) (.inr Z) ae Z rfl
end Go.Lens.Tb
end
