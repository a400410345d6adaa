/- A part of the proof of PupilDiscCardSaid, without conditions. -/
import Derived.Test.YthmgaldefkaglaaGreatDoorP7
import Derived.Test.YthmgaldefkaglaaGreatDoorP4
import Derived.Test.YthmgaldefkaglaaGreatDoorP3
set_option linter.unusedVariables false
set_option linter.unusedSimpArgs false
set_option linter.unusedSectionVars false
set_option maxHeartbeats 4000000
section
namespace Go.Lens.Tb
open Go.Proofs Go.Lens.Un
variable [Lz] [Dn]
set_option maxRecDepth 100000
attribute [local irreducible] TK PK T RG EfR Body CG
theorem a68a:CKa 68 [.pv (.agg [pI 4,pS (bsO [49]),pS (bsO [49,47,50]),pL eV []])] (.tup [vL eK awC,vI 0]):=by
 have h:=w68 awP awPb
 rw[awC_e.1,awC_e.2] at h
 exact h
theorem a68b:CKa 68 [.pv (.agg [pI 4,pS (bsO [49]),pS (bsO [49,47,50]),pL eV [⟨1,0,1,[49,47,51]⟩]])] (.tup [vL eK awD,vI 0]):=by
 have h:=w68 awV awVb
 rw[awD_e.1,awD_e.2] at h
 exact h
theorem a16a (hp:qX) (hf:FacLaid):CKa 16 [vI 2,vI 0] (.tup [vL eY awZ,vI 0]):=by
 have h:=w16 hp hf 2 0
 rw[awz_1.1,awz_1.2] at h
 exact h
theorem a16b (hp:qX) (hf:FacLaid):CKa 16 [vI 3,vI 1] (.tup [vL eY awW,vI 0]):=by
 have h:=w16 hp hf 3 1
 rw[awz_2.1,awz_2.2] at h
 exact h
theorem a16c (hp:qX) (hf:FacLaid):CKa 16 [vI 2,vI (-2)] (.tup [vL eY awXY,vI 0]):=by
 have h:=w16 hp hf 2 (-2)
 rw[awz_3.1,awz_3.2] at h
 exact h
theorem a22 (hp:qX):CKa 22 [vL eY awZ,.pv (.agg [pS (bsO [49,47,52]),pS (bsO [51,47,52])])] (.tup [vS (bsO [49,47,52]),vI 0]):=by
 have h:=w22 hp awZ [49,47,52] [51,47,52] ah ah ah ah (fun _=>awv.1)
 rw[awv.2.1,awv.2.2] at h
 exact h
theorem a33a (hp:qX):CKa 33 [vL eY awZ,vL eY awZ] (.tup [vS (bsO [49,47,51]),vI 0]):=by
 have h:=w33 hp awZ awZ ah ah ah ah (fun _=>awd_1.1)
 rw[awd_1.2.1,awd_1.2.2] at h
 exact h
theorem a33b (hp:qX):CKa 33 [vL eY awX,vL eY awX] (.tup [vS (bsO [49,47,52]),vI 0]):=by
 have h:=w33 hp awX awX ah ah ah ah (fun _=>awd_2.1)
 rw[awd_2.2.1,awd_2.2.2] at h
 exact h
theorem a24 (hp:qX):CKa 24 [vL eY awXY,vS (bsO [120])] (.tup [vL eY awY,vI 0]):=by
 have h:=w24 hp awXY [120] ah ah (fun _=>awy.1)
 rw[awy.2.1,awy.2.2] at h
 exact h
theorem a25 (hp:qX):CKa 25 [vL eY awJ] (.tup [vL eY awT,vI 0]):=by
 have h:=w25 hp awJ ah ah (fun _=>awt.1)
 rw[awt.2.1,awt.2.2] at h
 exact h
theorem a86 (f:List Trm) (h:List.length f<=1000000):CKa 86 [vL eY f,vL eY f] (vB true):=by
 have:=w86 f f h h
 rwa [zl Z] at this
theorem a57 (f:List (List UInt8)) (h:List.length f<=1000000):CKa 57 [vL eN f,vL eN f] (vB true):=by
 have:=w57 f f h h
 rwa [zl Z] at this
theorem a46a (hp:qX):CKa 46 [.pv (.agg [pI 4,pS (bsO [49]),pS (bsO [49,47,50]),pL eV []]),vL eYL [aw1,awX]] (.tup [vL eNL awB,vI 0]):=by
 have h:=w46 hp awP [aw1,awX] awPb ah ah (fun _=>awb_1.1)
 rw[baR,awb_1.2] at h
 exact h
theorem a46b (hp:qX):CKa 46 [.pv (.agg [pI 4,pS (bsO [49]),pS (bsO [49,47,50]),pL eV []]),vL eYL [aw1,awZ]] (.tup [vL eNL [],vI 14]):=by
 have h:=w46 hp awP [aw1,awZ] awPb ah ah (fun _=>awb_2.1)
 rw[baR,awb_2.2] at h
 exact h
theorem a36 (hp:qX):CKa 36 [.pv (.agg [pI 4,pS (bsO [49]),pS (bsO [49,47,50]),pL eV []]),vL eY awF] (.tup [vL eN awH,vI 0]):=by
 have h:=w36 hp awP awF ah ah awPb (fun _=>aws.1)
 rw[aws_t,aws.2] at h
 exact h
theorem a89 (hp:qX):CKa 89 [vL eNL awB,vL eN awH] (.tup [vL eN [[50],[52]],vL eN [[48],[48],[48],[48],[48],[48],[48],[48]],vI 0]):=by
 have h:=w89 hp awB awH ah ah ah (fun _=>⟨awe.1.1,fun _=>awe.1.2⟩)
 rw[exR,awe.2] at h
 exact h
theorem a52 (hp:qX):CKa 52 [vL eN awG] (.tup [vL eN [[45,50],[45,49],[51]],vS (bsO [51]),vI 0]):=by
 have h:=w52 hp awG ah ah (fun _=>awf.1)
 rw[awf.2.1,awf.2.2.1,awf.2.2.2] at h
 exact h
theorem a53 (hp:qX):CKa 53 [vL eN awG] (.tup [vS (bsO [49,52,47,51]),vI 0]):=by
 have h:=w53 hp awG ah ah (fun _=>awf.1) (fun _=>awa.1)
 rw[awa.2.1,awa.2.2] at h
 exact h
theorem a38 (hp:qX):CKa 38 [.pv (.agg [pI 4,pS (bsO [49]),pS (bsO [49,47,50]),pL eV []]),vL eY awI,.pv (.agg [pI 2,pI 0]),vI 2] (.tup [.pv (.agg [pS (bsO [49]),pS (bsO [48])]),vI 0]):=by
 have h:=w38 hp awP awI (2,0) 2 ah ah awPb awl
 rw[awl_2.1,awl_2.2] at h
 exact h
theorem a111:CKa 111 [vI 8] (vL eN [[48],[48],[48],[48],[48],[48],[48],[48]]):=w111 8 ah
theorem un57:tab.underlying 57=some (.array 2 3):=ae
theorem w20 (hp:qX) (hf:FacLaid):CKa 20 [] (vB true):=by
 refine cG qf20 Z (nB Z) Z (C Z (w110) Z Z Z (E Z (B.ja Z (fun l=>Frz.boxN l Z) Z) (C Z (a68a) Z Z Z (E Z (B.ja Z (fun l=>Frz.boxN l Z) Z) (E Z (B.run (val:=.pv (.agg [pI 1,pI 0,pI 1,pS (bsO [49,47,51])])) (m:=[]) (rd:=[]) ae) (E Z (B.ja (val:=.pv (.slice (List.map eV [(Van.mk 1 0 1 [49,47,51])]))) Z (fun l=>Frz.arr l _ _ _ _ _) Z) (C Z (a68b) Z Z Z (C Z (a16a hp hf) Z Z Z (C Z (a16b hp hf) Z Z Z (E Z (B.run (val:=.pv (.agg [pS (bsO [49,47,52]),pS (bsO [51,47,52])])) (m:=[]) (rd:=[]) ae) (C Z (a22 hp) Z Z Z (C Z (a33a hp) Z Z Z (E Z (B.run (val:=.pv (.agg [pS (bsO [49]),pI 1,pI 0])) (m:=[]) (rd:=[]) ae) ?_)))))))))))))
 refine E Z (B.ja (val:=.pv (.slice (List.map eY [(Trm.mk [49] 1 0)]))) Z (fun l=>Frz.arr l _ _ _ _ _) Z) (C Z (a33b hp) Z Z Z (C Z (a16c hp hf) Z Z Z (C Z (a24 hp) Z Z Z (E Z (B.run (val:=.pv (.agg [pS (bsO [49]),pI 0,pI 1])) (m:=[]) (rd:=[]) ae) (E Z (B.ja (val:=.pv (.slice (List.map eY [(Trm.mk [49] 0 1)]))) Z (fun l=>Frz.arr l _ _ _ _ _) Z) (C Z (a25 hp) Z Z Z (E Z (B.run Z) (E Z (B.run Z) (E Z (B.run Z) (E Z (B.run Z) (E Z (B.run Z) (E Z (B.run Z) (E Z (B.run Z) ?_)))))))))))))
 refine E Z (B.run Z) (E Z (B.run Z) (Et Z Z (B.move Z) (Et Z Z (B.jW Z un72) (Et Z Z (B.run (val:=vB false) (m:=[]) (rd:=[]) ae) (E Z (B.pkF Z Z Z Z Z) (Et Z Z (B.move Z) (Et Z Z (B.idx (z:=(0,0)) (i:=0) Z Z un72 sz57 (fun _=>rfl) Z ah) (Et Z Z (B.loadA (ds:=[pI (Prod.fst (awC.getD 0 (0,0))),pI (Prod.snd (awC.getD 0 (0,0)))]) Z ag57 sz57 (zZ Z) Z) (Et Z Z (B.run Z) (Et Z Z (B.neI2 (a:=1) (b:=0) ae un57 ag3 sz3 ae Z Z) (E Z (B.pkF Z Z Z Z Z) (Et Z Z (B.move Z) (Et Z Z (B.idx (z:=(0,0)) (i:=2) Z Z un72 sz57 (fun _=>rfl) Z ah) ?_)))))))))))))
 refine Et Z Z (B.loadA (ds:=[pI (Prod.fst (awC.getD 2 (0,0))),pI (Prod.snd (awC.getD 2 (0,0)))]) Z ag57 sz57 (zZ Z) Z) (Et Z Z (B.run Z) (Et Z Z (B.neI2 (a:=0) (b:=1) ae un57 ag3 sz3 ae Z Z) (E Z (B.pkF Z Z Z Z Z) (Et Z Z (B.move Z) (Et Z Z (B.jW Z un72) (Et Z Z (B.run (val:=vB false) (m:=[]) (rd:=[]) ae) (E Z (B.pkF Z Z Z Z Z) (Et Z Z (B.move Z) (Et Z Z (B.run (val:=vB false) (m:=[]) (rd:=[]) ae) (E Z (B.pkF Z Z Z Z Z) (Et Z Z (B.move Z) (Et Z Z (B.run (val:=vB false) (m:=[]) (rd:=[]) ae) (E Z (B.pkF Z Z Z Z Z) ?_)))))))))))))
 refine Et Z Z (B.move Z) (Et Z Z (B.run (val:=vB false) (m:=[]) (rd:=[]) ae) (E Z (B.pkF Z Z Z Z Z) (CF Z Z (C Z (w58 awZ ah) Z Z Z (E Z (B.run (val:=.pv (.agg [pS (bsO [45,49]),pI 0,pI 0])) (m:=[]) (rd:=[]) ae) (E Z (B.run (val:=.pv (.agg [pS (bsO [50]),pI 2,pI 0])) (m:=[]) (rd:=[]) ae) (E Z (B.run (val:=.pv (.agg [pS (bsO [50]),pI 0,pI 2])) (m:=[]) (rd:=[]) ae) (E Z (B.ja (val:=.pv (.slice (List.map eY [(Trm.mk [45,49] 0 0),(Trm.mk [50] 2 0),(Trm.mk [50] 0 2)]))) Z (fun l=>Frz.arr l _ _ _ _ _) Z) (C Z (a86 awZ ah) Z Z Z (Et Z Z (B.move Z) (Et Z Z (B.call (w58 awW ah) Z Z Z) (Et Z Z (B.run Z) (Et Z Z (B.run Z) ?_)))))))))))))
 refine Et Z Z (B.run Z) (Et Z Z (B.ja (val:=.pv (.slice (List.map eY [(Trm.mk [45,50] 1 0),(Trm.mk [51] 3 0),(Trm.mk [51] 1 2)]))) Z (fun l=>Frz.arr l _ _ _ _ _) Z) (Et Z Z (B.call (a86 awW ah) Z Z Z) (Et Z Z (B.run (val:=vB false) (m:=[]) (rd:=[]) ae) (E Z (B.pkF Z Z Z Z Z) (Et Z Z (B.move Z) (Et Z Z (B.call (w58 awY ah) Z Z Z) (Et Z Z (B.run Z) (Et Z Z (B.ja (val:=.pv (.slice (List.map eY [(Trm.mk [50] 0 1)]))) Z (fun l=>Frz.arr l _ _ _ _ _) Z) (Et Z Z (B.call (a86 awY ah) Z Z Z) (Et Z Z (B.run (val:=vB false) (m:=[]) (rd:=[]) ae) (E Z (B.pkF Z Z Z Z Z) (Et Z Z (B.move Z) (Et Z Z (B.call (w58 awT ah) Z Z Z) ?_)))))))))))))
 refine Et Z Z (B.run Z) (Et Z Z (B.ja (val:=.pv (.slice (List.map eY [(Trm.mk [45,49] 1 0)]))) Z (fun l=>Frz.arr l _ _ _ _ _) Z) (Et Z Z (B.call (a86 awT ah) Z Z Z) (Et Z Z (B.run (val:=vB false) (m:=[]) (rd:=[]) ae) (E Z (B.pkF Z Z Z Z Z) (CF Z Z (E Z (B.run (val:=.pv (.agg [pS (bsO [49]),pI 0,pI 0])) (m:=[]) (rd:=[]) ae) (E Z (B.ja (val:=.pv (.slice (List.map eY [(Trm.mk [49] 0 0)]))) Z (fun l=>Frz.arr l _ _ _ _ _) Z) (E Z (B.ja (val:=.pv (.slice (List.map eYL [[(Trm.mk [49] 0 0)],[(Trm.mk [49] 1 0)]]))) Z (fun l=>Frz.arr l _ _ _ _ _) Z) (C Z (a46a hp) Z Z Z (E Z (B.ja (val:=.pv (.slice (List.map eYL [[(Trm.mk [49] 0 0)],awZ]))) Z (fun l=>Frz.arr l _ _ _ _ _) Z) (C Z (a46b hp) Z Z Z (Et Z Z (B.move Z) (Et Z Z (B.run (val:=vB false) (m:=[]) (rd:=[]) ae) ?_)))))))))))))
 refine E Z (B.pkF Z Z Z Z Z) (Et Z Z (B.move Z) (Et Z Z (B.jW Z un84) (Et Z Z (B.run (val:=vB false) (m:=[]) (rd:=[]) ae) (E Z (B.pkF Z Z Z Z Z) (Et Z Z (B.move Z) (Et Z Z (B.idx (z:=[]) (i:=1) Z Z un84 sz61 (fun _=>rfl) Z ah) (Et Z Z (B.loadP Z ag61 sz61) (Et Z Z (B.ja (val:=.pv (.slice (List.map eN [[45,49,47,52],[49,47,52],[45,51,47,52],[51,47,52],[45,51,47,52],[51,47,52],[45,49,47,52],[49,47,52]]))) Z (fun l=>Frz.arr l _ _ _ _ _) Z) (Et Z Z (B.call (a57 [[45,49,47,52],[49,47,52],[45,51,47,52],[51,47,52],[45,51,47,52],[51,47,52],[45,49,47,52],[49,47,52]] ah) Z Z Z) (Et Z Z (B.run (val:=vB false) (m:=[]) (rd:=[]) ae) (E Z (B.pkF Z Z Z Z Z) (CF Z Z (E Z (B.run (val:=.pv (.agg [pS (bsO [50]),pI 0,pI 0])) (m:=[]) (rd:=[]) ae) ?_)))))))))))))
 refine E Z (B.run (val:=.pv (.agg [pS (bsO [52]),pI 1,pI 0])) (m:=[]) (rd:=[]) ae) (E Z (B.ja (val:=.pv (.slice (List.map eY [(Trm.mk [50] 0 0),(Trm.mk [52] 1 0)]))) Z (fun l=>Frz.arr l _ _ _ _ _) Z) (C Z (a36 hp) Z Z Z (C Z (a89 hp) Z Z Z (E Z (B.ja (val:=.pv (.slice (List.map eN [[49],[50],[54]]))) Z (fun l=>Frz.arr l _ _ _ _ _) Z) (C Z (a52 hp) Z Z Z (E Z (B.ja (val:=.pv (.slice (List.map eN [[49],[50],[54]]))) Z (fun l=>Frz.arr l _ _ _ _ _) Z) (C Z (a53 hp) Z Z Z (E Z (B.run (val:=.pv (.agg [pS (bsO [49]),pI 2,pI 0])) (m:=[]) (rd:=[]) ae) (E Z (B.ja (val:=.pv (.slice (List.map eY [(Trm.mk [49] 2 0)]))) Z (fun l=>Frz.arr l _ _ _ _ _) Z) (E Z (B.run (val:=.pv (.agg [pI 2,pI 0])) (m:=[]) (rd:=[]) ae) (C Z (a38 hp) Z Z Z (E Z (B.run Z) (E Z (B.run Z) ?_)))))))))))))
 refine E Z (B.run Z) (E Z (B.run Z) (Et Z Z (B.move Z) (Et Z Z (B.ja (val:=.pv (.slice (List.map eN [[50],[52]]))) Z (fun l=>Frz.arr l _ _ _ _ _) Z) (Et Z Z (B.call (a57 [[50],[52]] ah) Z Z Z) (E Z (B.pkT Z Z Z Z Z) (Et Z Z (B.move Z) (Et Z Z (B.call (a111) Z Z Z) (Et Z Z (B.call (a57 [[48],[48],[48],[48],[48],[48],[48],[48]] ah) Z Z Z) (E Z (B.pkT Z Z Z Z Z) (Et Z Z (B.move Z) (Et Z Z (B.ja (val:=.pv (.slice (List.map eN [[45,50],[45,49],[51]]))) Z (fun l=>Frz.arr l _ _ _ _ _) Z) (Et Z Z (B.call (a57 [[45,50],[45,49],[51]] ah) Z Z Z) (E Z (B.pkT Z Z Z Z Z) ?_)))))))))))))
 refine Et Z Z (B.move Z) (Et Z Z (B.run (val:=vB true) (m:=[]) (rd:=[]) ae) (E Z (B.pkT Z Z Z Z Z) (Et Z Z (B.move Z) (Et Z Z (B.run (val:=vB true) (m:=[]) (rd:=[]) ae) (E Z (B.pkT Z Z Z Z Z) (Et Z Z (B.loadBA Z Z Z ag68 sz68 Z Z) (Et Z Z (B.run Z) (Et Z Z (B.eqS2 (a:=bsO [49]) (b:=bsO [48]) ae un68 ag33 sz33 ae Z Z) (E Z (B.pkT Z Z Z Z Z) ?_)))))))))
 refine Rt Z ?_
 exact leaf (val0:=vB true) ae rfl
end Go.Lens.Tb
end
section
namespace Go.Lens.Tb
open Go.Proofs Go.Lens.Un
variable [Lz] [Dn]
set_option maxRecDepth 100000
attribute [local irreducible] TK PK T RG EfR Body CG
open Un
def d1 (n:Nat):List Int:=if n=0 then [] else [((n:Nat):Int)]
def T1 (l:List Int) (r:Nat):Prop:=l=[((r:Nat):Int)]\/l=d1 r
def cmpN (m n:Nat):Int:=if m<n then -1 else if n<m then 1 else 0
def C9I (x y:Nat) (i:Int):Prop:=i=0\/(i= -1/\x=y)
def E9I (x d:Nat) (i r:Int) (q:List Int):Prop:=(i=0/\r=0/\q=[0])\/(i= -1/\r=((x%d:Nat):Int)/\q=[((x / d:Nat):Int)])
section
variable {l w q:List Int} {x y r d:Nat} {n i s:Int}
theorem d1_p (h:0<x):d1 x=[((x:Nat):Int)]:=if_neg aa
theorem d1_l:(d1 r).length<=1:=by unfold d1;split<;>simp
theorem t1_l (h:T1 w r):w.length<=1:=by
 rcases h with rfl|rfl
 ·exact zC _
 exact d1_l
theorem t1_p (h:(bif decide ((0:Int)<((w.length:Nat):Int)) then decide (w.getD (w.length-1) 0=0) else false)=true):0<w.length/\List.getD w (w.length-1) 0=0:=by
 by_cases g:(0:Int)<((w.length:Nat):Int)
 ·rw[zl g] at h;exact⟨aa,of_decide_eq_true h⟩
 rw[zk g] at h;cases h
theorem t1_n (h:T1 w r) (h1:(bif decide ((0:Int)<((w.length:Nat):Int)) then decide (w.getD (w.length-1) 0=0) else false)=true):T1 (List.take (w.length-1) w) r:=by
 obtain⟨a,b⟩:=t1_p h1
 have e:w=[((r:Nat):Int)]:=by
  rcases h with h|h
  ·exact h
  unfold d1 at h
  split at h
  ·rw[h] at a;exact absurd a ah
  exact h
 subst e
 have:r=0:=by change ((r:Nat):Int)=0 at b;omega
 subst this
 exact .inr rfl
theorem t1_e (h:T1 w r) (h1:(bif decide ((0:Int)<((w.length:Nat):Int)) then decide (w.getD (w.length-1) 0=0) else false)=false):w=d1 r:=by
 rcases h with rfl|h
 ·by_cases e:r=0
  ·subst e;exact absurd h1 ah
  rw[d1_p aa]
 exact h
theorem c9_i (h:C9I x y i): -1<=i/\i<=0:=by rcases h with h|⟨h,_⟩<;>omega
theorem c9_x (h:C9I x y i) (h2:0<=i):i=0:=by rcases h with h|⟨h,_⟩<;>omega
theorem c9_1 (h:C9I x y i) (h2:0<=i) (h3:List.getD [((x:Nat):Int)] (Int.toNat i) 0<List.getD [((y:Nat):Int)] (Int.toNat i) 0): -1=cmpN x y:=by
 rw[c9_x h h2] at h3
 unfold cmpN;rw[if_pos (Int.ofNat_lt.1 h3)]
theorem c9_2 (h:C9I x y i) (h2:0<=i) (h3:¬List.getD [((x:Nat):Int)] (Int.toNat i) 0<List.getD [((y:Nat):Int)] (Int.toNat i) 0) (h4:List.getD [((y:Nat):Int)] (Int.toNat i) 0<List.getD [((x:Nat):Int)] (Int.toNat i) 0):1=cmpN x y:=by
 rw[c9_x h h2] at h3 h4
 unfold cmpN;rw[if_neg (fun g=>h3 (Int.ofNat_lt.2 g)),if_pos (Int.ofNat_lt.1 h4)]
theorem c9_n (h:C9I x y i) (h2:0<=i) (h3:¬List.getD [((x:Nat):Int)] (Int.toNat i) 0<List.getD [((y:Nat):Int)] (Int.toNat i) 0) (h4:¬List.getD [((y:Nat):Int)] (Int.toNat i) 0<List.getD [((x:Nat):Int)] (Int.toNat i) 0):C9I x y (i-1):=by
 have e:=c9_x h h2
 rw[e] at h3 h4
 have a:¬x<y:=fun g=>h3 (Int.ofNat_lt.2 g)
 have b:¬y<x:=fun g=>h4 (Int.ofNat_lt.2 g)
 exact .inr ⟨aa,aa⟩
theorem c9_3 (h:C9I x y i) (h2:¬0<=i):0=cmpN x y:=by
 rcases h with h|⟨_,h⟩
 ·omega
 unfold cmpN;rw[if_neg aa,if_neg aa]
theorem e9_l (h:E9I x d i s q):q.length=1:=by rcases h with ⟨_,_,rfl⟩|⟨_,_,rfl⟩<;>rfl
theorem e9_i (h:E9I x d i s q): -1<=i/\i<=0:=by rcases h with ⟨h,_⟩|⟨h,_⟩<;>omega
theorem e9_x (h:E9I x d i s q) (h1:0<=i):i=0/\s=0/\q=[0]:=by
 rcases h with h|⟨h,_⟩
 ·exact h
 omega
theorem e9_s (h:E9I x d i s q) (h1:0<=i):s*1000000000+List.getD [((x:Nat):Int)] (Int.toNat i) 0=((x:Nat):Int):=by
 obtain⟨rfl,rfl,_⟩:=e9_x h h1
 show (0:Int)*1000000000+((x:Nat):Int)=_
 omega
theorem e9_r (h:E9I x d i s q) (h1:0<=i) (hx:x<1000000000) (_:0<d):R64 (s*1000000000)/\R64 (s*1000000000+List.getD [((x:Nat):Int)] (Int.toNat i) 0)/\R64 (Int.tdiv (s*1000000000+List.getD [((x:Nat):Int)] (Int.toNat i) 0) ((d:Nat):Int)):=by
 rw[e9_s h h1,(e9_x h h1).2.1,<-Int.ofNat_tdiv]
 have:=Nat.div_le_self x d
 generalize x / d=z at*
 unfold R64;omega
theorem e9_n (h:E9I x d i s q) (h1:0<=i):E9I x d (i-1) (Int.tmod (s*1000000000+List.getD [((x:Nat):Int)] (Int.toNat i) 0) ((d:Nat):Int)) (q.set (Int.toNat i) (Int.tdiv (s*1000000000+List.getD [((x:Nat):Int)] (Int.toNat i) 0) ((d:Nat):Int))):=by
 rw[e9_s h h1]
 obtain⟨rfl,rfl,rfl⟩:=e9_x h h1
 exact .inr ⟨rfl,rfl,rfl⟩
theorem e9_q (h:E9I x d i s q) (h1:¬0<=i):q=[((x / d:Nat):Int)]/\s=((x%d:Nat):Int):=by
 rcases h with ⟨h,_⟩|⟨_,b,c⟩
 ·omega
 exact⟨c,b⟩
end
theorem by3:ty3.info.bytes=8:=ae
theorem in3:tab.info? 3=some ty3.info:=ae
theorem w259 (l:List Int) (r:Nat) (h:T1 l r):CKa 259 [vL eI l] (vL eI (d1 r)):=by
 refine cG qf259 Z (nB Z) Z (E Z (B.kg (enc:=eI) Z) (l1 (fun (w:List Int)=>[(0,vL eI w)]) (fun _=>[]) (fun w=>T1 w r) (fun w=>List.length w) l Z ?_ (sb Z Z Z) ?_))
 · exact h
 intro w hI0
 have hwl:=t1_l hI0
 refine E Z (B.jW Z un45) (Eg Z Z (fun hc=>B.move Z) Z (Eg Z Z (fun hc=>B.move Z) Z (Eg Z Z (fun hc=>B.jW (qz Z hc) un45) Z (Eg Z Z (fun hc=>B.sub (qz Z hc) Z bj) Z (Eg Z Z (fun hc=>B.idx (z:=0) (i:=(w.length-1)) (qz Z hc) (qz Z hc) un45 sz3 (fun _=>rfl) dt dt) Z (Eg Z Z (fun hc=>B.loadP (qz Z hc) ag3 sz3) Z (Eg Z Z (fun hc=>B.eql (qz Z hc) Z) Z (E Z (B.pick Z Z Z (gdB Z) Z (q0 _)) (Cb Z Z (fun h1=>?_) (fun h1=>?_))))))))))
 ·have h1a:=(t1_p h1).1
  refine E Z (B.jW Z un45) (E Z (B.sub Z Z bj) (E Z (B.slT (j:=(w.length-1)) Z Z un45 sz3 dt dt) (pk Z (L1 (List.take (w.length-1) w) ?_ ?_ (sb Z Z Z)))))
  · exact t1_n hI0 h1
  · (rw[zn];omega)
 exact Rt Z (leaf (val0:=vL eI w) ae (lsl (by exact t1_e hI0 h1)))
theorem w215 (l:List Int) (r:Nat) (h:T1 l r):CKa 215 [vB false,vL eI l] (.pv (.agg [pB false,pL eI (d1 r)])):=by
 refine cG qf215 Z (nB Z) Z (E Z (B.ja Z (fun l=>Frz.boxN l Z) Z) (C Z (w259 l r h) Z Z Z (Ef' Z Z (Ef' Z Z (Ef' Z Z (E Z (B.pkF Z Z Z Z Z) (E Z (B.run (val:=.pv (.agg [pB false,pL eI (d1 r)])) (m:=[]) (rd:=[]) ae) ?_)))))))
 refine Rt Z ?_
 exact leaf (val0:=.pv (.agg [pB false,pL eI (d1 r)])) ae bi
theorem w219 (x y:Nat):CKa 219 [vL eI [((x:Nat):Int)],vL eI [((y:Nat):Int)]] (vI (cmpN x y)):=by
 refine cG qf219 Z (nB Z) Z (E Z (B.jW Z un45) (E Z (B.jW Z un45) (Cp Z Z (fun h1=>?_) (fun h1=>?_))))
 ·exact absurd Z h1
 refine E Z (B.jW Z un45) (E Z (B.sub Z Z du) (l1 (fun (i:Int)=>[(0,vL eI [((x:Nat):Int)]),(1,vL eI [((y:Nat):Int)]),(5,vI i)]) (fun _=>[]) (fun i=>C9I x y i) (fun i=>Int.toNat (i+1)) (((List.length [((x:Nat):Int)]:Nat):Int)-1) Z ?_ (sb Z Z Z) ?_))
 · exact .inl rfl
 intro i hI0
 refine Cp Z Z (fun h2=>?_) (fun h2=>?_)
 ·refine E Z (B.idx (z:=0) (i:=(Int.toNat i)) Z Z un45 sz3 (fun _=>rfl) (Int.toNat_of_nonneg dw).symm dw) (E Z (B.idx (z:=0) (i:=(Int.toNat i)) Z Z un45 sz3 (fun _=>rfl) (Int.toNat_of_nonneg dw).symm dw) (Dr Z ae (Cp Z Z (fun h3=>?_) (fun h3=>?_))))
  ·exact Rt Z (leaf (val0:=vI (-1)) ae (li dx))
  refine E Z (B.idx (z:=0) (i:=(Int.toNat i)) Z Z un45 sz3 (fun _=>rfl) (Int.toNat_of_nonneg dw).symm dw) (E Z (B.idx (z:=0) (i:=(Int.toNat i)) Z Z un45 sz3 (fun _=>rfl) (Int.toNat_of_nonneg dw).symm dw) (Dr Z ae (Cp Z Z (fun h4=>?_) (fun h4=>?_))))
  ·exact Rt Z (leaf (val0:=vI 1) ae (li dx))
  refine E Z (B.sub Z Z du) (pk Z (L1 (i-1) ?_ ?_ (sb Z Z Z)))
  · exact c9_n hI0 h2 h3 h4
  · omega
 exact Rt Z (leaf (val0:=vI 0) ae (li dx))
theorem w258 (x d:Nat) (hd0:0<d) (hx:x<1000000000) (hd:d<1000000000):CKa 258 [vL eI [((x:Nat):Int)],vI ((d:Nat):Int)] (.tup [vL eI (d1 (x / d)),vI (((x%d):Nat):Int)]):=by
 refine cG qf258 Z (nB Z) Z (E Z (B.kg (enc:=eI) Z) (E Z (B.jW Z un45) (E Z (B.makeSl (enc:=eI) (sz:=1) (z0:=0) (n:=(List.length [((x:Nat):Int)])) (m:=(List.length [((x:Nat):Int)])) Z Z Z un45 in3 Z Z Z by3 dy Z Z) (E Z (B.jW Z un45) (E Z (B.sub Z Z d3) (l3 (fun (i:Int) (r:Int) (q:List Int)=>[(0,vL eI [((x:Nat):Int)]),(1,vI ((d:Nat):Int)),(6,.aref 13 0),(7,vI r),(8,vI i)]) (fun _ _ q=>[(13,.arr 0 1 3 (List.map eI q))]) (fun i r q=>E9I x d i r q) (fun i _ _=>Int.toNat (i+1)) (((List.length [((x:Nat):Int)]:Nat):Int)-1) 0 (List.replicate (List.length [((x:Nat):Int)]) 0) Z ?_ (sb Z Z Z) ?_))))))
 · exact .inl ⟨rfl,rfl,rfl⟩
 intro i r q hI0
 have hql:=e9_l hI0
 refine Cp Z Z (fun h1=>?_) (fun h1=>?_)
 ·refine E Z (B.mul Z Z d3) (E Z (B.idx (z:=0) (i:=(Int.toNat i)) Z Z un45 sz3 (fun _=>rfl) (Int.toNat_of_nonneg dy).symm dy) (E Z (B.add Z Z d3) (E Z (B.quo Z Z ⟨dy,d3⟩) (E Z (B.idxE (n:=(Int.toNat i)) Z Z Z un45 sz3 (Int.toNat_of_nonneg dy).symm dy) (E Z (B.setE (z0:=(Int.tdiv ((r*1000000000)+(List.getD [((x:Nat):Int)] (Int.toNat i) 0)) ((d:Nat):Int))) Z Z Z Z Z sz3 dy (fun _=>rfl)) (E Z (B.rem Z Z dy) (E Z (B.sub Z Z d3) (pk Z (L3 (i-1) (Int.tmod ((r*1000000000)+(List.getD [((x:Nat):Int)] (Int.toNat i) 0)) ((d:Nat):Int)) (List.set q (Int.toNat i) (Int.tdiv ((r*1000000000)+(List.getD [((x:Nat):Int)] (Int.toNat i) 0)) ((d:Nat):Int))) ?_ ?_ (sb Z Z Z))))))))))
  · exact e9_n hI0 h1
  · omega
 exact Fz 9 6 Z Z Z (C Z (w259 q (x / d) (.inl (e9_q hI0 h1).1)) Z Z Z (Rt Z (leaf (val0:=.tup [vL eI (d1 (x / d)),vI r]) ae (kh (rfl) (li (by first|rfl|exact (e9_q hI0 h1).2))))))
theorem dgs_eq:∀ {s t:List UInt8},Dgs s->Dgs t->s.length=t.length->j0 s=j0 t->s=t:=by
 intro s
 induction s with
 | nil=>intro t _ _ h _;exact (List.length_eq_zero_iff.1 h.symm).symm
 | cons c s ih=>
  intro t hs ht hl hv
  cases t with
  | nil=>cases hl
  | cons d t=>
   have hs':Dgs s:=fun x hx=>hs x (zO _ hx)
   have ht':Dgs t:=fun x hx=>ht x (zO _ hx)
   have hl':s.length=t.length:=by simpa using hl
   have e1:=decV_app [c] s
   have e2:=decV_app [d] t
   rw[decV_one] at e1 e2
   have l1:=decV_lt hs'
   have l2:=decV_lt ht'
   have c1:=hs c (ql ..)
   have d1:=ht d (ql ..)
   rw[show [c]++s=c::s from rfl] at e1
   rw[show [d]++t=d::t from rfl] at e2
   rw[e1,e2,hl'] at hv
   rw[hl'] at l1
   have hc:dgv c=dgv d:=by
    generalize 10 ^ t.length=P at*
    rcases Nat.lt_trichotomy (dgv c) (dgv d) with h|h|h
    ·have:=Nat.mul_le_mul_right P (show dgv c+1<=dgv d from h)
     rw[Nat.add_mul,Nat.one_mul] at this;omega
    ·exact h
    have:=Nat.mul_le_mul_right P (show dgv d+1<=dgv c from h)
    rw[Nat.add_mul,Nat.one_mul] at this;omega
   rw[hc] at hv
   rw[ih hs' ht' hl' aa]
   congr 1
   refine UInt8.toNat_inj.1 ?_
   unfold dgv at hc
   omega
def DcI (n m p:Nat) (s:List UInt8):Prop:=Dgs s/\j0 s+10 ^ s.length*p=n/\(s.length<=m\/10 ^ (s.length-1)<=n)
section
variable {n m p:Nat} {s:List UInt8}
theorem dc_0 (hm:1<=m):DcI n m n []:=⟨fun _ hc=>absurd hc qm,by simp[j0],.inl ao⟩
theorem dc_l (h:DcI n m p s) (hn:n<9223372036854775808) (hm:m<=100):s.length<=100:=by
 rcases h.2.2 with g|g
 ·omega
 rcases Nat.lt_or_ge s.length 21 with k|k
 ·omega
 have:=Nat.pow_le_pow_right (show 0<10 by decide) (show 20<=s.length-1 by omega)
 omega
theorem dc_p (h:DcI n m p s):p<=n:=by
 have:=Nat.le_mul_of_pos_left p (Nat.pow_pos (n:=s.length) (show 0<10 by decide))
 have:=h.2.1
 omega
theorem dc_d (d:Nat) (h:d<10):(ko.take (d+1)).drop d=[UInt8.ofNat (48+d)]:=by
 have key:∀ d,d<10->(ko.take (d+1)).drop d=[UInt8.ofNat (48+d)]:=ah
 exact key d h
theorem dc_s:List.drop (Int.toNat (((p:Nat):Int)%10)) (List.take (Int.toNat ((((p:Nat):Int)%10)+1)) [48,49,50,51,52,53,54,55,56,57])=[UInt8.ofNat (48+p%10)]:=by
 rw[show Int.toNat (((p:Nat):Int)%10)=p%10 by omega,show Int.toNat ((((p:Nat):Int)%10)+1)=p%10+1 by omega]
 exact dc_d _ (Nat.mod_lt _ ah)
theorem dc_or {a b:Prop} [Decidable a] [Decidable b] (h1:(bif decide a then true else decide b)=true):a\/b:=by
 by_cases h:a
 ·exact .inl h
 rw[zk h] at h1;exact .inr (of_decide_eq_true h1)
theorem dc_no {a b:Prop} [Decidable a] [Decidable b] (h1:(bif decide a then true else decide b)=false):¬a/\¬b:=by
 by_cases h:a
 ·rw[zl h] at h1;cases h1
 rw[zk h] at h1;exact⟨h,of_decide_eq_false h1⟩
theorem dc_n (h:DcI n m p s) (h1:(bif decide (0<((p:Nat):Int)) then true else decide (((s.length:Nat):Int)<((m:Nat):Int)))=true):DcI n m (p / 10) ([UInt8.ofNat (48+p%10)]++s):=by
 obtain⟨a,b,c⟩:=h
 have hd:=dg_byte (d:=p%10) (Nat.mod_lt _ ah)
 have hlt:p%10<10:=Nat.mod_lt _ ah
 have hg:dgv (UInt8.ofNat (48+p%10))=p%10:=by unfold dgv;rw[hd];omega
 refine⟨?_,?_,?_⟩
 ·exact Dgs.app (fun x hx=>by rw[zg.1 hx,hd];omega) a
 ·rw[decV_app,decV_one,hg,za,qb,Nat.pow_add,Nat.pow_one]
  have e:=Nat.mod_add_div p 10
  rw[<-b]
  generalize 10 ^ s.length=P
  generalize j0 s=D
  have:P*p=P*(p%10)+P*(10*(p / 10)):=by rw[<-Nat.mul_add,e]
  rw[this,Nat.mul_comm 10 P,Nat.mul_assoc,Nat.mul_comm (p%10) P]
  omega
 rw[za,qb]
 rcases dc_or h1 with g|g
 ·right
  rw[Nat.add_sub_cancel_left]
  have:=Nat.le_mul_of_pos_right (10 ^ s.length) (show 0<p by omega)
  omega
 left;omega
theorem dc_m (h1:(bif decide (0<((p:Nat):Int)) then true else decide (((s.length:Nat):Int)<((m:Nat):Int)))=true):p / 10+(m-([UInt8.ofNat (48+p%10)]++s).length)<p+(m-s.length):=by
 rw[za,qb]
 rcases dc_or h1 with g|g<;>omega
theorem dc_e (h:DcI n 1 p s) (h1:(bif decide (0<((p:Nat):Int)) then true else decide (((s.length:Nat):Int)<((1:Nat):Int)))=false):s=Lib.decDigits n:=by
 obtain⟨a,b,c⟩:=h
 obtain⟨g1,g2⟩:=dc_no h1
 have hp:p=0:=aa
 rw[hp,Nat.mul_zero,Nat.add_zero] at b
 have l0:=List.length_pos_iff.2 (Un.dec_ne n)
 refine dgs_eq a (dgs_dec n) ?_ (by rw[decV_dec,b])
 have l1:=decV_lt a
 rw[b] at l1
 have l2:=dec_len (n:=n) (k:=s.length) aa l1
 rcases c with c|c
 ·omega
 have l3:=decV_lt (dgs_dec n)
 rw[decV_dec] at l3
 have:s.length-1<(Lib.decDigits n).length:=(Nat.pow_lt_pow_iff_right (show 1<10 by decide)).1 (Nat.lt_of_le_of_lt c l3)
 omega
end
def slN:List UInt8->Nat
 | []=>0
 | c::l=>if c=47 then 0 else slN l+1
section
variable {s:List UInt8} {i:Nat} {n:Int}
theorem by_at (hk:i<s.length):byteAt (bsO s) i=((s[i].toNat:Nat):Int):=by rw[byteAt_bsO,ze,zm hk];rfl
theorem sl_d (hk:i<s.length):s.drop i=s[i]::s.drop (i+1):=List.drop_eq_getElem_cons hk
theorem sl_c (hk:i<s.length):byteAt (bsO s) i=47↔s[i]=47:=by
 rw[by_at hk]
 constructor
 ·intro h
  have:s[i].toNat=47:=aa
  exact UInt8.toNat_inj.1 this
 intro h;rw[h];rfl
theorem sl_n (h:i<=s.length/\slN s=i+slN (s.drop i)) (hk:i<s.length) (h2:¬byteAt (bsO s) i=47):i+1<=s.length/\slN s=(i+1)+slN (s.drop (i+1)):=by
 refine⟨hk,?_⟩
 rw[h.2,sl_d hk,slN,if_neg (fun e=>h2 ((sl_c hk).2 e))];omega
theorem sl_a (h:i<=s.length/\slN s=i+slN (s.drop i)) (hk:i<s.length) (h2:byteAt (bsO s) i=47):((i:Nat):Int)=((slN s:Nat):Int):=by
 rw[h.2,sl_d hk,slN,if_pos ((sl_c hk).1 h2)];rfl
theorem sl_e (h:i<=s.length/\slN s=i+slN (s.drop i)) (h1:¬((i:Nat):Int)<((s.length:Nat):Int)):((s.length:Nat):Int)=((slN s:Nat):Int):=by
 have:=h.1
 rw[h.2,zW aa,slN];omega
theorem va_b (h:i<=s.length/\n=((j0 (s.take i):Nat):Int)) (hd:Dgs s) (hi:i<=17):0<=n/\n<100000000000000000:=by
 have:=decV_lt (hd.take i)
 have h2:10 ^ (s.take i).length<=10 ^ 17:=Nat.pow_le_pow_right ah (by rw[zn];omega)
 have e:(10:Nat) ^ 17=100000000000000000:=rfl
 rw[h.2];omega
theorem va_c (hd:Dgs s) (hk:i<s.length):48<=byteAt (bsO s) i/\byteAt (bsO s) i<=57:=by
 rw[by_at hk]
 have:=hd _ (List.getElem_mem hk)
 omega
theorem va_n (h:i<=s.length/\n=((j0 (s.take i):Nat):Int)) (hd:Dgs s) (hk:i<s.length):10*n+byteAt (bsO s) i-48=((j0 (s.take (i+1)):Nat):Int):=by
 rw[List.take_succ_eq_append_getElem hk,decV_snoc,h.2,by_at hk]
 have:=hd _ (List.getElem_mem hk)
 unfold dgv
 omega
theorem va_e (h:i<=s.length/\n=((j0 (s.take i):Nat):Int)) (h1:¬((i:Nat):Int)<((s.length:Nat):Int)):n=((j0 s:Nat):Int):=by
 rw[h.2,zB aa]
end
section
variable {s a b:List UInt8} {q:Rat}
theorem sl_no (h:∀ x∈a,x≠47):slN a=a.length:=by
 induction a with
 | nil=>rfl
 | cons c l ih=>rw[slN,if_neg (h c (ql ..)),ih (fun x hx=>h x (zO _ hx))];rfl
theorem sl_at (h:∀ x∈a,x≠47):slN (a++47::b)=a.length:=by
 induction a with
 | nil=>rfl
 | cons c l ih=>rw[zR,slN,if_neg (h c (ql ..)),ih (fun x hx=>h x (zO _ hx))];rfl
end
section
variable {x y p q a b:Nat}
theorem dz_1 (h1:cmpN x y<0) (hx:0<x):([]:List Int)=d1 (x / y):=by
 unfold cmpN at h1
 by_cases g:x<y
 ·rw[Nat.div_eq_of_lt g];rfl
 rw[if_neg g] at h1;split at h1<;>exact absurd h1 ah
theorem dz_2 (h1:cmpN x y<0) (hx:0<x):[((x:Nat):Int)]=d1 (x%y):=by
 unfold cmpN at h1
 by_cases g:x<y
 ·rw[Nat.mod_eq_of_lt g,d1_p hx]
 rw[if_neg g] at h1;split at h1<;>exact absurd h1 ah
theorem d1_q (h:0<(((d1 q).length:Nat):Int)):0<q:=by
 rcases Nat.eq_zero_or_pos q with e|e
 ·subst e;exact absurd h ah
 exact e
theorem cm_n (hI:Nat.gcd p q=Nat.gcd a b/\0<p/\p<1000000000/\q<1000000000) (hq:0<q):Nat.gcd q (p%q)=Nat.gcd a b/\0<q/\q<1000000000/\p%q<1000000000:=
 ⟨by rw[<-hI.1,Nat.gcd_comm p q,Nat.gcd_rec q p,Nat.gcd_comm],hq,hI.2.2.2,Nat.lt_trans (Nat.mod_lt _ hq) hI.2.2.2⟩
theorem cm_e (hI:Nat.gcd p q=Nat.gcd a b) (h1:¬0<(((d1 q).length:Nat):Int)):d1 p=d1 (Nat.gcd a b):=by
 have hq:q=0:=by
  unfold d1 at h1
  split at h1
  ·assumption
  exact absurd (show (0:Int)<((1:Nat):Int) by decide) h1
 rw[<-hI,hq,Nat.gcd_zero_right]
theorem dec9 {n:Nat} (h:n<1000000000):(Lib.decDigits n).length<=9:=dec_len ah h
theorem dg_mn (b:Nat):(bif decide ((0:Int)<(((Lib.decDigits b).length:Nat):Int)) then decide (byteAt (bsO (Lib.decDigits b)) 0=45) else false)=false:=by
 cases e:Lib.decDigits b with
 | nil=>rfl
 | cons c l=>
  have hc:=dgs_dec b c (by rw[e];exact ql ..)
  rw[by_at (show 0<(c::l).length by simp)]
  have:decide ((((c::l)[0].toNat:Nat):Int)=45)=false:=zk (by simp only[List.getElem_cons_zero];omega)
  rw[this];cases decide ((0:Int)<(((c::l).length:Nat):Int))<;>rfl
end
theorem w214 (x y:Nat) (hx:0<x) (hy:0<y) (hx9:x<1000000000) (hy9:y<1000000000):CKa 214 [vL eI [((x:Nat):Int)],vL eI [((y:Nat):Int)]] (.tup [vL eI (d1 (x / y)),vL eI (d1 (x%y))]):=by
 refine cG qf214 Z (nB Z) Z (E Z (B.kg (enc:=eI) Z) (E Z (B.kg (enc:=eI) Z) (C Z (w219 x y) Z Z Z (Cp Z Z (fun h1=>?_) (fun h1=>?_)))))
 ·exact E Z (B.kg (enc:=eI) Z) (Rt Z (leaf (val0:=.tup [vL eI [],vL eI [((x:Nat):Int)]]) ae (kh (lsl d4) (lsl d4))))
 refine E Z (B.jW Z un45) (Cp Z Z (fun h2=>?_) (fun h2=>?_))
 ·exact E Z (B.idx (z:=0) (i:=0) Z Z un45 sz3 (fun _=>rfl) Z (by simp only[zb,zd];omega)) (C Z (w258 x y hy hx9 hy9) Z Z Z (E Z (B.ja (val:=.pv (.slice (List.map eI [(((x%y):Nat):Int)]))) Z (fun l=>Frz.arr l _ _ _ _ _) Z) (C Z (w259 _ (x%y) (.inl Z)) Z Z Z (Rt Z (leaf Z Z)))))
 exact absurd Z h2
theorem w214d (x y:Nat) (hx:0<x) (hy:0<y) (hx9:x<1000000000) (hy9:y<1000000000):CKa 214 [vL eI (d1 x),vL eI (d1 y)] (.tup [vL eI (d1 (x / y)),vL eI (d1 (x%y))]):=by
 rw[d1_p hx,d1_p hy];exact w214 x y hx hy hx9 hy9
theorem w195 (a b:Nat) (h0:0<a) (ha:a<1000000000) (hb:b<1000000000):CKa 195 [vL eI (d1 a),vL eI (d1 b)] (vL eI (d1 (Nat.gcd a b))):=by
 refine cG qf195 Z (nB Z) Z (E Z (B.kg (enc:=eI) Z) (l2 (fun (p:Nat) (q:Nat)=>[(0,vL eI (d1 p)),(1,vL eI (d1 q))]) (fun _ _=>[]) (fun p q=>Nat.gcd p q=Nat.gcd a b/\0<p/\p<1000000000/\q<1000000000) (fun _ q=>q) a b Z ?_ (sb Z Z Z) ?_))
 · exact⟨rfl,h0,ha,hb⟩
 intro p q hI0
 refine E Z (B.jW Z un45) (Cp Z Z (fun h1=>?_) (fun h1=>?_))
 ·refine C Z (w214d p q hI0.2.1 (d1_q h1) hI0.2.2.1 hI0.2.2.2) Z Z Z (pk Z (L2 q (p%q) ?_ ?_ (sb Z Z Z)))
  · exact cm_n hI0 (d1_q h1)
  · exact Nat.mod_lt _ (d1_q h1)
 exact Rt Z (leaf (val0:=vL eI (d1 p)) ae (lsl (by exact cm_e hI0.1 h1)))
theorem w155 (n:Nat) (hn:n<9223372036854775808):CKa 155 [vI ((n:Nat):Int),vI ((1:Nat):Int)] (vS (bsO (Lib.decDigits n))):=by
 refine cG qf155 Z (nB Z) Z (l2 (fun (p:Nat) (s:List UInt8)=>[(0,vI ((p:Nat):Int)),(1,vI ((1:Nat):Int)),(5,vS (bsO s))]) (fun _ _=>[]) (fun p s=>DcI n 1 p s) (fun p s=>p+(1-List.length s)) n [] Z ?_ (sb Z Z Z) ?_)
 · exact dc_0 (zC 1)
 intro p s hI0
 have hsl:=dc_l hI0 hn ah
 have hpn:=dc_p hI0
 refine Eg Z Z (fun hc=>B.move Z) Z (Eg Z Z (fun hc=>B.lenB (a:=s) (qz Z hc) un9) Z (Eg Z Z (fun hc=>B.move Z) Z (Eg Z Z (fun hc=>B.lss (qz Z hc) (qz Z hc)) Z (E Z (B.pick Z Z Z Z (gdB Z) (jj _)) (Cb Z Z (fun h1=>?_) (fun h1=>?_))))))
 ·refine E Z (B.remN Z Z dt ah) (E Z (B.remN Z Z dt ah) (E Z (B.add Z Z bj) (E Z (B.slMB (a:=[48,49,50,51,52,53,54,55,56,57]) (i:=(Int.toNat (((p:Nat):Int)%10))) (j:=(Int.toNat ((((p:Nat):Int)%10)+1))) Z Z Z un9 (Int.toNat_of_nonneg dt).symm (Int.toNat_of_nonneg dt).symm dt dt) (E Z (B.catB (a:=(List.drop (Int.toNat (((p:Nat):Int)%10)) (List.take (Int.toNat ((((p:Nat):Int)%10)+1)) [48,49,50,51,52,53,54,55,56,57]))) (b:=s) Z Z (by simp only[zo,zn,zb,zd];omega)) (E Z (B.quoN Z Z dt ah bj) (pk Z (L2 (p / 10) ((List.drop (Int.toNat (((p:Nat):Int)%10)) (List.take (Int.toNat ((((p:Nat):Int)%10)+1)) [48,49,50,51,52,53,54,55,56,57]))++s) ?_ ?_ (sb Z Z Z))))))))
  · (rw[dc_s];exact dc_n hI0 h1)
  · (rw[dc_s];exact dc_m h1)
 exact Rt Z (leaf (val0:=vS (bsO s)) ae (ls (by exact congrArg bsO (dc_e hI0 h1))))
theorem w193 (s:List UInt8) (hl:List.length s<=1000000000):CKa 193 [vS (bsO s)] (vI (((slN s):Nat):Int)):=by
 refine cG qf193 Z (nB Z) Z (l1 (fun (i:Nat)=>[(0,vS (bsO s)),(3,vI ((i:Nat):Int))]) (fun _=>[]) (fun i=>i<=List.length s/\slN s=i+slN (List.drop i s)) (fun i=>List.length s-i) 0 Z ?_ (sb Z Z Z) ?_)
 · exact⟨zw _,by simp⟩
 intro i hI0
 refine E Z (B.lenB (a:=s) Z un9) (Cp Z Z (fun h1=>?_) (fun h1=>?_))
 ·refine E Z (B.sidx (i:=i) Z Z un9 Z (show i<List.length s from aa)) (Cp Z Z (fun h2=>?_) (fun h2=>?_))
  ·exact Rt Z (leaf (val0:=vI ((i:Nat):Int)) ae (li d5))
  refine E Z (B.add Z Z bj) (pk Z (L1 (i+1) ?_ ?_ (sb Z Z Z)))
  · exact sl_n hI0 aa h2
  · omega
 exact E Z (B.lenB (a:=s) Z un9) (Rt Z (leaf (val0:=vI ((s.length:Nat):Int)) ae (li d5)))
theorem w216 (s:List UInt8) (hd:Dgs s) (hl:List.length s<=18):CKa 216 [vS (bsO s)] (vI (((j0 s):Nat):Int)):=by
 refine cG qf216 Z (nB Z) Z (l2 (fun (i:Nat) (n:Int)=>[(0,vS (bsO s)),(3,vI n),(4,vI ((i:Nat):Int))]) (fun _ _=>[]) (fun i n=>i<=List.length s/\n=((j0 (List.take i s):Nat):Int)) (fun i _=>List.length s-i) 0 0 Z ?_ (sb Z Z Z) ?_)
 · exact⟨zw _,by simp[j0]⟩
 intro i n hI0
 refine E Z (B.lenB (a:=s) Z un9) (Cp Z Z (fun h1=>?_) (fun h1=>?_))
 ·have hvb:=va_b hI0 hd aa
  have hcb:=va_c hd (i:=i) aa
  refine E Z (B.mul Z Z bj) (E Z (B.sidx (i:=i) Z Z un9 Z (show i<List.length s from aa)) (E Z (B.toI Z un5 un3 bj Z) (E Z (B.add Z Z bj) (E Z (B.sub Z Z bj) (E Z (B.add Z Z bj) (pk Z (L2 (i+1) (((10*n)+(byteAt (bsO s) i))-48) ?_ ?_ (sb Z Z Z))))))))
  · exact⟨aa,va_n hI0 hd aa⟩
  · omega
 exact Rt Z (leaf (val0:=vI n) ae (li (by exact va_e hI0 h1)))
theorem w216d (b:Nat) (h9:b<1000000000):CKa 216 [vS (bsO (Lib.decDigits b))] (vI ((b:Nat):Int)):=by
 have h:=w216 (Lib.decDigits b) (dgs_dec b) (by have:=dec9 h9;omega)
 rw[decV_dec] at h
 exact h
theorem w217 (b:Nat) (h0:0<b) (h9:b<1000000000):CKa 217 [vS (bsO (Lib.decDigits b))] (.pv (.agg [pB false,pL eI [((b:Nat):Int)]])):=by
 refine cG qf217 Z (nB Z) Z (E Z (B.ja Z (fun l=>Frz.boxN l Z) Z) (E Z (B.lenB (a:=(Lib.decDigits b)) Z un9) (Eg Z Z (fun hc=>B.move Z) Z (Eg Z Z (fun hc=>B.sidx (i:=0) (qz Z hc) Z un9 Z (show 0<List.length (Lib.decDigits b) from d6)) Z (Eg Z Z (fun hc=>B.eql (qz Z hc) Z) Z (E Z (B.pick Z Z Z (gdB Z) Z (q0 _)) ?_))))))
 refine tk 2 Z ?_
 refine tn ⟨[(0,vS (bsO (Lib.decDigits b))),(2,.bref 3 0),(3,vB (bif (decide (0<((List.length (Lib.decDigits b):Nat):Int))) then (decide ((byteAt (bsO (Lib.decDigits b)) 0)=45)) else false))],[(3,.box 214 [vB false,vL eI []])]⟩ rfl rfl Z ?_
 rw[dg_mn b]
 refine kc (CF Z Z (E Z (B.adopt 5 1 3 Z Z) (l3 (fun (r:List UInt8) (w:List Int) (v:Nat)=>[(0,vS (bsO r)),(2,.bref 3 0),(3,vB false),(4,.aref 5 v)]) (fun _ w v=>[(3,.box 214 [vB false,vL eI []]),(5,.arr v 1 3 (List.map eI w))]) (fun r w _=>r=Lib.decDigits b/\w=[]) (fun r _ _=>List.length r) (Lib.decDigits b) [] 0 Z ?_ (sb Z Z Z) ?_)))
 · exact⟨rfl,rfl⟩
 intro r w v hI0
 refine E Z (B.lenB (a:=r) Z un9) (Cp Z Z (fun h1=>?_) (fun h1=>?_))
 ·exact absurd h1 (by rw[hI0.1];have:=dec9 h9;omega)
 obtain⟨er,ew⟩:=hI0
 subst er
 subst ew
 refine C Z (w216d b h9) Z Z Z (E Z (B.ja (val:=.pv (.slice (List.map eI [((b:Nat):Int)]))) Z (fun l=>Frz.arr l _ _ _ _ _) Z) (E Z (B.appendZ Z Z Z un45 in3 Z (fun _=>rfl) by3 d6) (C Z (w215 _ b (.inl Z)) Z Z Z ?_)))
 refine Rt Z ?_
 exact leaf (val0:=.pv (.agg [pB false,pL eI (d1 b)])) ae (by rw[d1_p h0])
theorem gc_n {a b p q:Nat} (h:Nat.gcd p q=Nat.gcd a b) (_:0<((q:Nat):Int)):Nat.gcd q (p%q)=Nat.gcd a b:=by
 rw[<-h,Nat.gcd_comm p q,Nat.gcd_rec q p,Nat.gcd_comm]
theorem gc_e {a b p q:Nat} (h:Nat.gcd p q=Nat.gcd a b) (h1:¬0<((q:Nat):Int)):((p:Nat):Int)=((Nat.gcd a b:Nat):Int):=by
 have hq:q=0:=aa
 rw[hq,Nat.gcd_zero_right] at h
 rw[h]
abbrev qS (q:Rat):Prop:=q.num.natAbs<1000000000/\q.den<1000000000
def sgT (z:Int):List UInt8:=if z<0 then [45] else []
def frq (x y:Int):Rat:=(x:Rat) / (y:Rat)
def Dq (q:Rat):List UInt8:=Lib.decDigits q.num.natAbs++(if q.den=1 then [] else 47::Lib.decDigits q.den)
section
variable {s r:List UInt8}
theorem pr_h:(bif decide (0<((s.length:Nat):Int)) then decide (byteAt (bsO s) 0=45) else false)=kq s [45]:=by
 unfold kq
 cases s with
 | nil=>rfl
 | cons c l=>
  rw[by_at (show 0<(c::l).length by simp)]
  have e1:decide (0<(((c::l).length:Nat):Int))=true:=zl (by simp only[zb];omega)
  have e2:decide (([45]:List UInt8).length<=(c::l).length)=true:=zl ao
  rw[e1,e2]
  have e3:((((c::l)[0].toNat:Nat):Int)=45)↔((c::l).take ([45]:List UInt8).length=[45]):=by
   simp only[List.getElem_cons_zero,qb,List.take_succ_cons,List.take_zero,List.cons.injEq,and_true]
   constructor
   ·intro h
    exact UInt8.toNat_inj.1 (show c.toNat=45 by omega)
   rintro rfl;rfl
  exact decide_eq_decide.2 e3
theorem pr_t (h:(bif decide (0<((s.length:Nat):Int)) then decide (byteAt (bsO s) 0=45) else false)=true):qK s [45]=s.drop 1:=by
 rw[pr_h] at h
 unfold qK;rw[h];rfl
theorem pr_f (h:(bif decide (0<((s.length:Nat):Int)) then decide (byteAt (bsO s) 0=45) else false)=false):qK s [45]=s:=by
 rw[pr_h] at h
 unfold qK;rw[h];rfl
end
section
variable {s a b l:List UInt8} {q:Rat}
theorem hp_mn {l:List UInt8}:kq (45::l) [45]=true:=by
 unfold kq;simp
theorem itoa_nat (n:Nat):Lib.itoa (n:Int)=Lib.decDigits n:=by
 unfold Lib.itoa;rw[if_neg aa];rfl
theorem itoa_47 (z:Int):∀ x∈Lib.itoa z,x≠47:=by
 intro x hx e
 subst e
 unfold Lib.itoa at hx
 split at hx
 ·rcases zG.1 hx with h|h
  ·exact absurd h ah
  exact absurd (dgs_dec _ _ h) ah
 exact absurd (dgs_dec _ _ hx) ah
theorem txt_1 (h:q.den=1):txt q=Lib.itoa q.num:=by unfold txt;rw[if_pos h,zS]
theorem txt_2 (h:q.den≠1):txt q=Lib.itoa q.num++47::Lib.decDigits q.den:=by unfold txt;rw[if_neg h]
end
section
variable {q:Rat} {s D:List UInt8} {b:Bool} {n d:Int}
theorem qk_x:txt q=if q.num<0 then 45::Dq q else Dq q:=by
 unfold txt Dq Lib.itoa
 split
 ·rfl
 rename_i h
 rw[show q.num.toNat=q.num.natAbs by omega]
theorem dq_47:∀ x∈Lib.decDigits q.num.natAbs,x≠47:=by rw[<-itoa_nat];exact itoa_47 _
theorem dq_h:kq (Dq q) [45]=false:=by
 unfold kq Dq
 cases h:Lib.decDigits q.num.natAbs with
 | nil=>exact absurd h (Un.dec_ne _)
 | cons c l=>
  have hc:=dgs_dec q.num.natAbs c (by rw[h];exact ql ..)
  have:¬((c::l++(if q.den=1 then [] else 47::Lib.decDigits q.den)).take ([45]:List UInt8).length=[45]):=by
   intro e
   simp only[qb,zR,List.take_succ_cons,List.take_zero,List.cons.injEq,and_true] at e
   rw[e] at hc
   exact absurd hc ah
  rw[zk this,Bool.and_false]
theorem qk_s (hs:s=txt q) (hb:kq s [45]=b):b=decide (q.num<0):=by
 rw[<-hb,hs,qk_x]
 by_cases h:q.num<0
 ·rw[if_pos h,hp_mn,zl h]
 rw[if_neg h,dq_h,zk h]
theorem qk_D (hs:s=txt q) (hD:D=qK s [45]):D=Dq q:=by
 rw[hD,hs,qk_x]
 unfold qK
 by_cases h:q.num<0
 ·rw[if_pos h,hp_mn];rfl
 rw[if_neg h,dq_h];rfl
theorem qk_1 (hb:kq s [45]=b) (h:b=true):1<=s.length:=by
 rw[h] at hb;unfold kq at hb
 simp only[zj,zf] at hb
 exact hb.1
theorem slN_le:∀ D:List UInt8,slN D<=D.length
 | []=>zC _
 | c::l=>by
  have:=slN_le l
  unfold slN
  split
  ·exact zw _
  rw[zb];omega
theorem qk_t (hb:kq s [45]=b) (h2:b=true) (hD:D=qK s [45]):List.drop 1 s=D:=by
 rw[hD];unfold qK;rw[hb,h2];rfl
theorem qk_f (hb:kq s [45]=b) (h2:b=false) (hD:D=qK s [45]):s=D:=by
 rw[hD];unfold qK;rw[hb,h2];rfl
theorem dq_sl:slN (Dq q)=(Lib.decDigits q.num.natAbs).length:=by
 unfold Dq
 split
 ·rw[zS,sl_no dq_47]
 exact sl_at dq_47
theorem dq_len:(Dq q).length=(Lib.decDigits q.num.natAbs).length+(if q.den=1 then 0 else (Lib.decDigits q.den).length+1):=by
 unfold Dq
 split<;>simp
theorem qk_len (hs:s=txt q) (h:qS q):s.length<=20:=by
 have e:=dq_len (q:=q)
 have h1:=dec9 h.1
 have h2:=dec9 h.2
 rw[hs,qk_x]
 split at e<;>split<;>(try rw[zb])<;>omega
theorem qk_w (hD:D=Dq q) (h:qS q) (e:(bif decide (9<((slN D:Nat):Int)) then true else decide (10<((D.length:Nat):Int)-((slN D:Nat):Int)))=true):False:=by
 have h1:=dec9 h.1
 have h2:=dec9 h.2
 have g:=dq_len (q:=q)
 rcases dc_or e with e|e
 ·rw[hD,dq_sl] at e;omega
 rw[hD,dq_sl,g] at e;split at e<;>omega
theorem qk_v (hn:n=q.num) (hd:d=(q.den:Int)):DV.tup [vI n,vI d,vB true]=.tup [vI q.num,vI (q.den:Int),vB true]:=by rw[hn,hd]
theorem qk_n (hs:s=txt q) (hb:kq s [45]=b) (h:b=true):0-((q.num.natAbs:Nat):Int)=q.num:=by
 have:=of_decide_eq_true ((qk_s hs hb).symm.trans h)
 omega
theorem qk_p (hs:s=txt q) (hb:kq s [45]=b) (h:b=false):((q.num.natAbs:Nat):Int)=q.num:=by
 have:=of_decide_eq_false ((qk_s hs hb).symm.trans h)
 omega
theorem qk_d (hD:D=Dq q) (h:¬((slN D:Nat):Int)<((D.length:Nat):Int)):(1:Int)=(q.den:Int):=by
 rw[hD,dq_sl,dq_len] at h
 by_cases hq:q.den=1
 ·rw[hq];rfl
 rw[if_neg hq] at h;omega
theorem w216n (q:Rat) (D:List UInt8) (hD:D=Dq q) (h:q.num.natAbs<1000000000):CKa 216 [vS (bsO (D.take (slN D)))] (vI ((q.num.natAbs:Nat):Int)):=by
 have e:D.take (slN D)=Lib.decDigits q.num.natAbs:=by rw[hD,dq_sl,Dq,List.take_left]
 rw[e];exact w216d _ h
theorem w216m (q:Rat) (D:List UInt8) (hD:D=Dq q) (h:q.den<1000000000) (hl:slN D<D.length):CKa 216 [vS (bsO (D.drop (slN D+1)))] (vI ((q.den:Nat):Int)):=by
 have hq:q.den≠1:=by
  intro e
  rw[hD,dq_sl,dq_len,if_pos e] at hl;omega
 have e:D.drop (slN D+1)=Lib.decDigits q.den:=by rw[hD,dq_sl,Dq,if_neg hq,<-List.drop_drop,List.drop_left];rfl
 rw[e];exact w216d _ h
end
section
variable {n d X Y:Int} {q:Rat}
theorem of_c (hn:n.natAbs<=4000000000000000000) (hd:d<=4000000000000000000) (h0:0<d):¬(bif (bif (bif decide (n<(-4000000000000000000)) then true else decide (4000000000000000000<n)) then true else decide (d<(-4000000000000000000))) then true else decide (4000000000000000000<d))=true:=by
 rw[zk (show ¬n < -4000000000000000000 by omega),zk (show ¬4000000000000000000<n by omega),zk (show ¬d < -4000000000000000000 by omega),zk (show ¬4000000000000000000<d by omega)]
 decide
theorem of_pos (hY:0<Y):0<Nat.gcd X.natAbs Y.natAbs:=Nat.gcd_pos_of_pos_right _ aa
theorem of_p (h0:0<d):Int.tdiv n ((Nat.gcd n.natAbs d.natAbs:Nat):Int)=(frq n d).num/\Int.tdiv d ((Nat.gcd n.natAbs d.natAbs:Nat):Int)=((frq n d).den:Int):=by
 have h:=mk_nd (X:=n) h0
 unfold frq
 rw[h.1,h.2]
 exact⟨Int.tdiv_eq_ediv_of_dvd (Int.ofNat_dvd_left.2 (Nat.gcd_dvd_left ..)),Int.tdiv_eq_ediv_of_dvd (Int.ofNat_dvd_left.2 (Nat.gcd_dvd_right ..))⟩
theorem of_t (x:Int) (g:Nat):(Int.tdiv x ((g:Nat):Int)).natAbs<=x.natAbs:=by rw[Int.natAbs_tdiv];exact Nat.div_le_self _ _
theorem of_b (hP:Int.tdiv n ((Nat.gcd n.natAbs d.natAbs:Nat):Int)=(frq n d).num/\Int.tdiv d ((Nat.gcd n.natAbs d.natAbs:Nat):Int)=((frq n d).den:Int)) (hn:n.natAbs<=4000000000000000000) (hd:d<=4000000000000000000) (h0:0<d):(frq n d).num.natAbs<9223372036854775808/\(frq n d).den<9223372036854775808:=by
 have h1:=of_t n (Nat.gcd n.natAbs d.natAbs)
 have h2:=of_t d (Nat.gcd n.natAbs d.natAbs)
 rw[hP.1] at h1
 rw[hP.2] at h2
 omega
theorem w155m (X:Int) (h:X.natAbs<9223372036854775808):CKa 155 [vI (max X (0-X)),vI 1] (vS (bsO (Lib.decDigits X.natAbs))):=by
 have:=w155 X.natAbs h
 rwa [show ((X.natAbs:Nat):Int)=max X (0-X) by omega] at this
theorem ofs_1 (h:q.num<0):sgT q.num=[45]:=if_pos h
theorem ofs_2 (h:¬q.num<0):sgT q.num=[]:=if_neg h
theorem of_l1 {n:Nat} (h:n<9223372036854775808):(Lib.decDigits n).length<=20:=dec_len ah (Nat.lt_trans h ah)
theorem of_l3 (z:Int):(sgT z).length<=1:=by unfold sgT;split<;>decide
theorem sg_i (z:Int):sgT z++Lib.decDigits z.natAbs=Lib.itoa z:=by
 unfold sgT Lib.itoa
 by_cases h:z<0
 ·rw[if_pos h,if_pos h];rfl
 rw[if_neg h,if_neg h,show z.natAbs=z.toNat by omega];rfl
theorem of_e1 (h:1<((q.den:Nat):Int)):vS (bsO (((sgT q.num++Lib.decDigits q.num.natAbs)++[47])++Lib.decDigits q.den))=vS (bsO (txt q)):=by
 rw[sg_i,txt_2 aa,z8];rfl
theorem of_e2 (h:¬1<((q.den:Nat):Int)):vS (bsO (sgT q.num++Lib.decDigits q.num.natAbs))=vS (bsO (txt q)):=by
 have:=q.den_pos
 rw[sg_i,txt_1 aa]
end
section
variable {q r:Rat} {z:Int}
theorem tz_0:txt 0=[48]:=ae
theorem tz_1:txt q=[48]↔q.num=0:=by
 constructor
 ·intro h
  rw[qk_x] at h
  by_cases g:q.num<0
  ·rw[if_pos g] at h;cases h
  rw[if_neg g] at h
  unfold Dq at h
  have h1:Lib.decDigits q.num.natAbs=[48]:=by
   cases e:Lib.decDigits q.num.natAbs with
   | nil=>exact absurd e (Un.dec_ne _)
   | cons a l=>
    rw[e,zR] at h
    simp only[List.cons.injEq,List.append_eq_nil_iff] at h
    rw[h.1,h.2.1]
  have h2:=decV_dec q.num.natAbs
  rw[h1] at h2
  have h3:q.num.natAbs=0:=h2.symm.trans ah
  omega
 intro h
 have e:q=0:=Rat.num_eq_zero.1 h
 rw[e];exact tz_0
theorem tz_b:decide (txt q=[48])=decide (q=0):=decide_eq_decide.2 (tz_1.trans Rat.num_eq_zero)
theorem sn_1 (h:txt q=[48]):0=jz q.num:=by rw[tz_1.1 h];rfl
theorem sn_c:(bif decide (0<(((txt q).length:Nat):Int)) then decide (byteAt (bsO (txt q)) 0=45) else false)=decide (q.num<0):=by
 have e0:∀ (a:UInt8) (l:List UInt8),decide (byteAt (bsO (a::l)) 0=45)=decide (a=45):=fun a l=>by
  refine decide_eq_decide.2 ?_
  rw[byteAt_bsO]
  show ((a.toNat:Nat):Int)=45↔_
  constructor
  ·intro h;exact UInt8.toNat_inj.1 (by have:(45:UInt8).toNat=45:=rfl;omega)
  intro h;rw[h];rfl
 by_cases g:q.num<0
 ·rw[qk_x,if_pos g,zl g,e0];simp
 rw[qk_x,if_neg g,zk g]
 have:=dq_h (q:=q)
 unfold kq at this
 cases e:Dq q with
 | nil=>rfl
 | cons a l=>
  rw[e] at this
  simp only[zb,zd,List.take_succ_cons,List.take_zero,List.cons.injEq,and_true] at this
  simp at this
  rw[e0]
  simp[this]
theorem sn_2 (h0:¬txt q=[48]) (h:(bif decide (0<(((txt q).length:Nat):Int)) then decide (byteAt (bsO (txt q)) 0=45) else false)=true): -1=jz q.num:=by
 rw[sn_c] at h
 unfold jz;rw[if_pos (of_decide_eq_true h)]
theorem sn_3 (h0:¬txt q=[48]) (h:(bif decide (0<(((txt q).length:Nat):Int)) then decide (byteAt (bsO (txt q)) 0=45) else false)=false):1=jz q.num:=by
 rw[sn_c] at h
 have h1:¬q.num=0:=fun e=>h0 (tz_1.2 e)
 unfold jz;rw[if_neg (of_decide_eq_false h),if_neg h1]
theorem sg_lt {z:Int}:jz z<0↔z<0:=by unfold jz;split<;>(try split)<;>omega
theorem ng_l (h:jz q.num<0):1<=(txt q).length:=by rw[qk_x,if_pos (sg_lt.1 h)];simp
theorem dq_ng:Dq (-q)=Dq q:=by unfold Dq;rw[Rat.neg_num,Rat.neg_den,Int.natAbs_neg]
theorem ng_1 (h:jz q.num<0):(txt q).drop 1=txt (-q):=by
 rw[qk_x,qk_x,if_pos (sg_lt.1 h),if_neg (by rw[Rat.neg_num];have:=sg_lt.1 h;omega),dq_ng];rfl
theorem ar_p {x y:Int} (hx:x.natAbs<1000000000) (hy:y.natAbs<1000000000):(x*y).natAbs<=1000000000000000000:=by
 rw[Int.natAbs_mul];exact Nat.mul_le_mul (Nat.le_of_lt hx) (Nat.le_of_lt hy)
theorem ar_q (a:qS q) (b:qS r):0<((q.den:Nat):Int)*((r.den:Nat):Int)/\((q.den:Nat):Int)*((r.den:Nat):Int)<=1000000000000000000/\(q.num*((r.den:Nat):Int)).natAbs<=1000000000000000000/\(r.num*((q.den:Nat):Int)).natAbs<=1000000000000000000/\(q.num*r.num).natAbs<=1000000000000000000:=by
 have n1:=q.den_nz
 have n2:=r.den_nz
 have h:=ar_p (x:=(q.den:Int)) (y:=(r.den:Int)) aa aa
 have h0:=Int.mul_pos (a:=(q.den:Int)) (b:=(r.den:Int)) aa aa
 exact⟨h0,aa,ar_p a.1 aa,ar_p b.1 aa,ar_p a.1 b.1⟩
theorem dn_c (q:Rat):(((q.den:Nat):Int):Rat)≠0:=icast_ne b8
theorem dn_e (q:Rat):q=(q.num:Rat) / (((q.den:Nat):Int):Rat):=(Rat.num_divInt_den q).symm.trans (Rat.divInt_eq_div _ _)
theorem rmu_1:frq (q.num*r.num) (((q.den:Nat):Int)*((r.den:Nat):Int))=q*r:=by
 unfold frq
 rw[Rat.intCast_mul,Rat.intCast_mul]
 conv=>rhs;rw[dn_e q,dn_e r]
 have h1:=dn_c q
 have h2:=dn_c r
 generalize (((q.den:Nat):Int):Rat)=a at*
 generalize (((r.den:Nat):Int):Rat)=b at*
 grind
end
theorem un33:tab.underlying 33=some (.string):=ae
theorem w154 (a b:Nat) (ha:a<9223372036854775808) (hb:b<9223372036854775808):CKa 154 [vI ((a:Nat):Int),vI ((b:Nat):Int)] (vI (((Nat.gcd a b):Nat):Int)):=by
 refine cG qf154 Z (nB Z) Z (l2 (fun (p:Nat) (q:Nat)=>[(0,vI ((p:Nat):Int)),(1,vI ((q:Nat):Int))]) (fun _ _=>[]) (fun p q=>Nat.gcd p q=Nat.gcd a b) (fun _ q=>q) a b Z ?_ (sb Z Z Z) ?_)
 · exact rfl
 intro p q hI0
 refine Cp Z Z (fun h1=>?_) (fun h1=>?_)
 ·refine E Z (B.rem Z Z aa) (Dr Z ae (pk Z (L2 q (p%q) ?_ ?_ (sb Z Z Z))))
  · exact gc_n hI0 h1
  · exact Nat.mod_lt _ aa
 exact Rt Z (leaf (val0:=vI ((p:Nat):Int)) ae (li (by exact gc_e hI0 h1)))
theorem w154m (X Y:Int) (hY:0<Y) (hY2:Y<=4000000000000000000) (hX:X.natAbs<=4000000000000000000):CKa 154 [vI (max X (0-X)),vI Y] (vI ((Nat.gcd X.natAbs Y.natAbs:Nat):Int)):=by
 have:=w154 X.natAbs Y.natAbs aa aa
 rwa [show ((X.natAbs:Nat):Int)=max X (0-X) by omega,show ((Y.natAbs:Nat):Int)=Y by omega] at this
theorem w157 (q:Rat) (s:List UInt8) (hs:s=txt q) (h:qS q):CKa 157 [vS (bsO s)] (.tup [vI (Rat.num q),vI ((Rat.den q:Nat):Int),vB true]):=by
 refine cG qf157 Z (nB Z) Z ?_
 have hl:=qk_len hs h
 refine E Z (B.lenB (a:=s) Z un9) (Cp Z Z (fun h1=>?_) (fun h1=>?_))
 ·exact absurd h1 aa
 refine E Z (B.lenB (a:=s) Z un9) (Eg Z Z (fun hc=>B.move Z) Z (Eg Z Z (fun hc=>B.sidx (i:=0) (qz Z hc) Z un9 Z (show 0<List.length s from d7)) Z (Eg Z Z (fun hc=>B.eql (qz Z hc) Z) Z (E Z (B.pick Z Z Z (gdB Z) Z (q0 _)) ?_))))
 refine tk 5 Z ?_
 refine tn ⟨[(5,vS (bsO s)),(6,vB (bif (decide (0<((s.length:Nat):Int))) then (decide ((byteAt (bsO s) 0)=45)) else false))],[]⟩ rfl rfl Z ?_
 rw[pr_h]
 generalize hb:kq s [45]=b
 obtain⟨D,hD⟩:∃ D,D=qK s [45]:=⟨_,rfl⟩
 have hb1:=qk_1 hb
 refine kc (Cb Z Z (fun h2=>?_) (fun h2=>?_))
 ·refine E Z (B.slLB (a:=s) (i:=1) Z Z un9 Z d7) ?_
  refine tk 7 Z ?_
  refine tn ⟨[(5,vS (bsO (List.drop 1 s))),(6,vB b)],[]⟩ rfl rfl Z ?_
  have hDs:=qk_D hs hD
  have hDl:D.length<=20:=by rw[hD];have:=trimP_len s [45];omega
  have hsl:=slN_le D
  rw[qk_t hb h2 hD]
  refine kc (C Z (w193 D aa) Z Z Z (Eg Z Z (fun hc=>B.move Z) Z (Eg Z Z (fun hc=>B.lenB (a:=D) (qz Z hc) un9) Z (Eg Z Z (fun hc=>B.move Z) Z (Eg Z Z (fun hc=>B.sub (qz Z hc) (qz Z hc) d8) Z (Eg Z Z (fun hc=>B.gtr (qz Z hc) Z) Z (E Z (B.pick Z Z Z Z (gdB Z) (jj _)) (Cb Z Z (fun h3=>?_) (fun h3=>?_)))))))))
  ·exact (qk_w hDs h h3).elim
  refine E Z (B.slHB (a:=D) (j:=(slN D)) Z Z un9 Z d7) (C Z (w216n q D hDs h.1) Z Z Z (E Z (B.lenB (a:=D) Z un9) (Cp Z Z (fun h4=>?_) (fun h4=>?_))))
  ·refine E Z (B.add Z Z d8) (E Z (B.slLB (a:=D) (i:=((slN D)+1)) Z Z un9 aa d7) (C Z (w216m q D hDs h.2 aa) Z Z Z (Cb Z Z (fun h5=>?_) (fun h5=>?_))))
   ·refine E Z (B.sub Z Z d8) ?_
    refine Rt Z ?_
    exact leaf (val0:=.tup [vI (0-(((Int.natAbs (Rat.num q)):Nat):Int)),vI (((Rat.den q):Nat):Int),vB true]) ae dS
   refine Rt Z ?_
   exact leaf (val0:=.tup [vI (((Int.natAbs (Rat.num q)):Nat):Int),vI (((Rat.den q):Nat):Int),vB true]) ae dS
  refine Cb Z Z (fun h6=>?_) (fun h6=>?_)
  ·refine E Z (B.sub Z Z d8) ?_
   refine Rt Z ?_
   exact leaf (val0:=.tup [vI (0-(((Int.natAbs (Rat.num q)):Nat):Int)),vI 1,vB true]) ae dS
  refine Rt Z ?_
  exact leaf (val0:=.tup [vI (((Int.natAbs (Rat.num q)):Nat):Int),vI 1,vB true]) ae dS
 refine tk 7 Z ?_
 refine tn ⟨[(5,vS (bsO s)),(6,vB b)],[]⟩ rfl rfl Z ?_
 have hDs:=qk_D hs hD
 have hDl:D.length<=20:=by rw[hD];have:=trimP_len s [45];omega
 have hsl:=slN_le D
 rw[qk_f hb h2 hD]
 refine kc (C Z (w193 D aa) Z Z Z (Eg Z Z (fun hc=>B.move Z) Z (Eg Z Z (fun hc=>B.lenB (a:=D) (qz Z hc) un9) Z (Eg Z Z (fun hc=>B.move Z) Z (Eg Z Z (fun hc=>B.sub (qz Z hc) (qz Z hc) d8) Z (Eg Z Z (fun hc=>B.gtr (qz Z hc) Z) Z (E Z (B.pick Z Z Z Z (gdB Z) (jj _)) (Cb Z Z (fun h7=>?_) (fun h7=>?_)))))))))
 ·exact (qk_w hDs h h7).elim
 refine E Z (B.slHB (a:=D) (j:=(slN D)) Z Z un9 Z d7) (C Z (w216n q D hDs h.1) Z Z Z (E Z (B.lenB (a:=D) Z un9) (Cp Z Z (fun h8=>?_) (fun h8=>?_))))
 ·refine E Z (B.add Z Z d8) (E Z (B.slLB (a:=D) (i:=((slN D)+1)) Z Z un9 aa d7) (C Z (w216m q D hDs h.2 aa) Z Z Z (Cb Z Z (fun h9=>?_) (fun h9=>?_))))
  ·refine E Z (B.sub Z Z d8) ?_
   refine Rt Z ?_
   exact leaf (val0:=.tup [vI (0-(((Int.natAbs (Rat.num q)):Nat):Int)),vI (((Rat.den q):Nat):Int),vB true]) ae dS
  refine Rt Z ?_
  exact leaf (val0:=.tup [vI (((Int.natAbs (Rat.num q)):Nat):Int),vI (((Rat.den q):Nat):Int),vB true]) ae dS
 refine Cb Z Z (fun h10=>?_) (fun h10=>?_)
 ·refine E Z (B.sub Z Z d8) ?_
  refine Rt Z ?_
  exact leaf (val0:=.tup [vI (0-(((Int.natAbs (Rat.num q)):Nat):Int)),vI 1,vB true]) ae dS
 refine Rt Z ?_
 exact leaf (val0:=.tup [vI (((Int.natAbs (Rat.num q)):Nat):Int),vI 1,vB true]) ae dS
theorem w59 (n d:Int) (hd0:0<d) (hn:n.natAbs<=4000000000000000000) (hd:d<=4000000000000000000):CKa 59 [vI n,vI d] (vS (bsO (txt (frq n d)))):=by
 refine cG qf59 Z (nB Z) Z (Eg Z Z (fun hc=>B.move Z) Z (Eg Z Z (fun hc=>B.gtr (qz Z hc) Z) Z (E Z (B.pick Z Z Z Z (gdB Z) (jj _)) (Eg Z Z (fun hc=>B.move Z) Z (Eg Z Z (fun hc=>B.lss (qz Z hc) Z) Z (E Z (B.pick Z Z Z Z (gdB Z) (jj _)) (Eg Z Z (fun hc=>B.move Z) Z (Eg Z Z (fun hc=>B.gtr (qz Z hc) Z) Z (E Z (B.pick Z Z Z Z (gdB Z) (jj _)) (Cb Z Z (fun h1=>?_) (fun h1=>?_)))))))))))
 ·exact absurd h1 (of_c hn hd hd0)
 have hP:=of_p (n:=n) hd0
 have hB:=of_b hP hn hd hd0
 refine Cp Z Z (fun h2=>?_) (fun h2=>?_)
 ·exact absurd h2 aa
 refine E Z (B.sub Z Z dB) (E Z (B.max Z Z) (C Z (w154m n d hd0 hd hn) Z Z Z (E Z (B.quo Z Z ⟨(by have:=of_pos (X:=n) hd0;omega),dB⟩) (E Z (B.quo Z Z ⟨(by have:=of_pos (X:=n) hd0;omega),dB⟩) (Dr Z ae ?_)))))
 refine tk 7 Z ?_
 refine tn ⟨[(0,vI (Int.tdiv n (((Nat.gcd (Int.natAbs n) (Int.natAbs d)):Nat):Int))),(1,vI (Int.tdiv d (((Nat.gcd (Int.natAbs n) (Int.natAbs d)):Nat):Int)))],[]⟩ rfl rfl Z ?_
 rw[hP.1,hP.2]
 refine kc (Cj [(0,vI (Rat.num (frq n d))),(1,vI ((Rat.den (frq n d):Nat):Int)),(6,vS (bsO (sgT (Rat.num (frq n d)))))] [] Z Z Z (fun h3=>?_) (fun h3=>?_) ?_)
 ·replace h3:=of_decide_eq_true h3
  refine pk Z ?_
  show Sub _ _ _
  first|rw[ofs_1 ab]|rw[ofs_2 ab]
  exact sb Z Z rfl
 ·replace h3:=of_decide_eq_false h3
  refine pk Z ?_
  show Sub _ _ _
  first|rw[ofs_1 ab]|rw[ofs_2 ab]
  exact sb Z Z rfl
 refine E Z (B.sub Z Z dB) (E Z (B.max Z Z) (C Z (w155m (Rat.num (frq n d)) hB.1) Z Z Z (E Z (B.catB (a:=(sgT (Rat.num (frq n d)))) (b:=(Lib.decDigits (Int.natAbs (Rat.num (frq n d))))) Z Z dC) (Cp Z Z (fun h4=>?_) (fun h4=>?_)))))
 ·refine E Z (B.catB (a:=((sgT (Rat.num (frq n d)))++(Lib.decDigits (Int.natAbs (Rat.num (frq n d)))))) (b:=[47]) Z Z dC) (C Z (w155 (Rat.den (frq n d)) hB.2) Z Z Z (E Z (B.catB (a:=(((sgT (Rat.num (frq n d)))++(Lib.decDigits (Int.natAbs (Rat.num (frq n d)))))++[47])) (b:=(Lib.decDigits (Rat.den (frq n d)))) Z Z dC) ?_))
  refine Rt Z ?_
  exact leaf (val0:=vS (bsO ((((sgT (Rat.num (frq n d)))++(Lib.decDigits (Int.natAbs (Rat.num (frq n d)))))++[47])++(Lib.decDigits (Rat.den (frq n d)))))) ae dD
 refine Rt Z ?_
 exact leaf (val0:=vS (bsO ((sgT (Rat.num (frq n d)))++(Lib.decDigits (Int.natAbs (Rat.num (frq n d))))))) ae dD
theorem w62 (q:Rat):CKa 62 [vS (bsO (txt q))] (vB (decide (q=0))):=by
 refine cG qf62 Z (nB Z) Z (E Z (B.seqB (a:=(txt q)) (b:=[48]) Z Z) ?_)
 refine Rt Z ?_
 exact leaf (val0:=vB (decide ((txt q)=[48]))) ae (by exact lb (tz_b))
theorem w137 (q:Rat) (hl:List.length (txt q)<=900000):CKa 137 [vS (bsO (txt q))] (vI (jz (Rat.num q))):=by
 refine cG qf137 Z (nB Z) Z (E Z (B.seqB (a:=(txt q)) (b:=[48]) Z Z) (Cp Z Z (fun h1=>?_) (fun h1=>?_)))
 ·refine Rt Z ?_
  exact leaf (val0:=vI 0) ae dE
 refine E Z (B.lenB (a:=(txt q)) Z un33) (Eg Z Z (fun hc=>B.move Z) Z (Eg Z Z (fun hc=>B.sidx (i:=0) (qz Z hc) Z un33 Z (show 0<List.length (txt q) from (by first|omega|(have hc2:=hc;simp at hc2;omega)))) Z (Eg Z Z (fun hc=>B.eql (qz Z hc) Z) Z (E Z (B.pick Z Z Z (gdB Z) Z (q0 _)) (Cb Z Z (fun h2=>?_) (fun h2=>?_))))))
 ·refine Rt Z ?_
  exact leaf (val0:=vI (-1)) ae dE
 refine Rt Z ?_
 exact leaf (val0:=vI 1) ae dE
theorem w69 (q r:Rat) (hq:qS q) (hr:qS r):CKa 69 [vS (bsO (txt q)),vS (bsO (txt r))] (vS (bsO (txt (q*r)))):=by
 refine cG qf69 Z (nB Z) Z (C Z (w157 q (txt q) Z hq) Z Z Z (C Z (w157 r (txt r) Z hr) Z Z Z (Et Z Z (B.move Z) (E Z (B.pick Z Z Z Z Z (pick_tt _)) (Cb Z Z (fun h1=>?_) (fun h1=>?_))))))
 ·have hb:=ar_q hq hr
  refine E Z (B.mul Z Z bj) (E Z (B.mul Z Z bj) (C Z (w59 ((Rat.num q)*(Rat.num r)) (((Rat.den q:Nat):Int)*((Rat.den r:Nat):Int)) hb.1 aa aa) Z Z Z ?_))
  refine Rt Z ?_
  exact leaf (val0:=vS (bsO (txt (frq ((Rat.num q)*(Rat.num r)) (((Rat.den q:Nat):Int)*((Rat.den r:Nat):Int)))))) ae (by exact congrArg (fun a=>vS (bsO (txt a))) rmu_1)
 exact Bool.noConfusion (show true=false from h1)
end Go.Lens.Tb
end
section
namespace Go.Lens.Tb
open Go.Proofs Go.Lens.Un
variable [Lz] [Dn]
set_option maxRecDepth 100000
attribute [local irreducible] TK PK T RG EfR Body CG
abbrev eR (p:KI×Rat):List PV:=[pS (bsO (txt (Prod.snd p))),pI (Prod.fst (Prod.fst p)),pI (Prod.snd (Prod.fst p))]
def rrZ:KI×Rat:=((0,0),0)
section
variable {n m low high:Int}
theorem wn_1 (h:(bif decide (n<low) then true else decide (high<n))=true):3=qF n low high:=by
 unfold qF outF qR
 rcases dc_or h with h|h
 ·rw[zl h];rfl
 rw[zl h,Bool.or_true];rfl
theorem wn_2 (h:(bif decide (n<low) then true else decide (high<n))=false):0=qF n low high:=by
 obtain⟨h1,h2⟩:=dc_no h
 unfold qF outF qR
 rw[zk h1,zk h2];rfl
end
section
variable {n:Int} {i:Nat} {s:Rat}
theorem qk_two {a b:Bool} (h:(bif a then b else false)=true):a=true/\b=true:=by cases a<;>simp_all
end
theorem fa83_0:fadQ tab 83 0=some 0:=ae
theorem w27 (l:List Int) (hl:l.length<=1000000000000000):CKa 27 [vL eI l] (vI (qB l)):=by
 refine cG qf27 Z (nB Z) Z (l1 (fun (k:Nat)=>[(0,vL eI l),(3,vI ((k:Nat):Int))]) (fun _=>[]) (fun k=>k<=List.length l/\qB l=qB (List.drop k l)) (fun k=>List.length l-k) 0 Z ?_ (sb Z Z Z) ?_)
 · exact⟨zw _,rfl⟩
 intro k hI0
 refine E Z (B.jW Z un45) (Cp Z Z (fun h1=>?_) (fun h1=>?_))
 ·refine E Z (B.idx (z:=0) (i:=k) Z Z un45 sz3 (fun _=>rfl) Z aa) (Cp Z Z (fun h2=>?_) (fun h2=>?_))
  ·exact E Z (B.idx (z:=0) (i:=k) Z Z un45 sz3 (fun _=>rfl) Z aa) (Rt Z (leaf (val0:=vI (l.getD k 0)) ae (li bH)))
  refine E Z (B.add Z Z bj) (pk Z (L1 (k+1) ?_ ?_ (sb Z Z Z)))
  · (refine⟨aa,?_⟩;rw[hI0.2,drop_at l k 0 aa,qB,if_pos aa])
  · omega
 exact Rt Z (leaf (val0:=vI 0) ae (li bH))
theorem w105 (n low high:Int):CKa 105 [vI n,vI low,vI high] (vI (qF n low high)):=by
 refine cG qf105 Z (nB Z) Z (Eg Z Z (fun hc=>B.move Z) Z (Eg Z Z (fun hc=>B.move Z) Z (Eg Z Z (fun hc=>B.gtr (qz Z hc) (qz Z hc)) Z (E Z (B.pick Z Z Z Z (gdB Z) (jj _)) (Cb Z Z (fun h1=>?_) (fun h1=>?_))))))
 ·exact Rt Z (leaf (val0:=vI 3) ae (li dG))
 exact Rt Z (leaf (val0:=vI 0) ae (li dG))
structure RfOk (P:PL):Prop where
 k:∀ p∈P,(0<=p.1.1/\p.1.1<=1000)/\0<=p.1.2/\p.1.2<=1000
 l:P.length<=700
abbrev eQt (q:Rat):List PV:=[pS (bsO (txt q))]
def trR (p:KI×Rat):Trm:=⟨txt p.2,p.1.1,p.1.2⟩
section
variable {P W:PL} {o l:List Rat} {k:Nat} {e b:Int} {F:List Trm}
theorem trR_m (W:PL):vL eR W=vL eY (W.map trR):=by
 show DV.pv (.slice (List.map eR W))=.pv (.slice (List.map eY (List.map trR W)))
 rw[List.map_map];rfl
end
def abQ (q:Rat):Rat:=if q.num<0 then -q else q
def K16 (k:KI):Prop:=(0<=k.1/\0<=k.2)/\k.1+k.2<=16
def aftB (a b:KI):Bool:=bif decide (a.1+a.2≠b.1+b.2) then decide (b.1+b.2<a.1+a.2) else decide (a.1<b.1)
structure CpOk (P:PL):Prop where
 n:P.length<=1000000
 c:∀ k,k<P.length->qS (P.getD k rrZ).2/\(P.getD k rrZ).2≠0/\K16 (P.getD k rrZ).1
 o:∀ k,k<P.length->0<k->aftB (P.getD k rrZ).1 (P.getD (k-1) rrZ).1=true
section
variable {s D:List UInt8} {i b:Nat} {q:Rat} {B:Bool} {p r:KI×Rat}
theorem dgn_x (hd:Dgs s) (hk:i<s.length) (h:(bif decide (byteAt (bsO s) i<48) then true else decide (57<byteAt (bsO s) i))=true):False:=by
 have:=va_c hd hk
 rcases dc_or h with h|h<;>omega
theorem df_x (h:(bif decide ((((Lib.decDigits b).length:Nat):Int)=0) then true else bif decide (1<(((Lib.decDigits b).length:Nat):Int)) then decide (byteAt (bsO (Lib.decDigits b)) 0=48) else false)=true):False:=by
 have hc:=(cano_dec b).1
 generalize Lib.decDigits b=l at*
 cases l with
 | nil=>exact hc.2.1 rfl
 | cons c l=>
  have e1:decide ((((c::l).length:Nat):Int)=0)=false:=zk (by simp only[zb];omega)
  rw[e1,cond_false] at h
  obtain⟨h1,h2⟩:=qk_two h
  have h1:=of_decide_eq_true h1
  have h2:=of_decide_eq_true h2
  rw[by_at (show 0<(c::l).length by simp)] at h2
  have e:c=48:=UInt8.toNat_inj.1 (show c.toNat=48 by simp only[List.getElem_cons_zero] at h2;omega)
  have:=hc.2.2 (by rw[e];rfl)
  omega
theorem dq_t (hD:D=Dq q):D.take (slN D)=Lib.decDigits q.num.natAbs:=by rw[hD,dq_sl,Dq,List.take_left]
theorem dq_1 (hD:D=Dq q) (hl:slN D<D.length):q.den≠1:=by
 intro e
 rw[hD,dq_sl,dq_len,if_pos e] at hl;omega
theorem dq_d (hD:D=Dq q) (hl:slN D<D.length):D.drop (slN D+1)=Lib.decDigits q.den:=by rw[hD,dq_sl,Dq,if_neg (dq_1 hD hl),<-List.drop_drop,List.drop_left];rfl
theorem w217n (q:Rat) (D:List UInt8) (hD:D=Dq q) (h:q.num.natAbs<1000000000) (h0:q.num≠0):CKa 217 [vS (bsO (D.take (slN D)))] (.pv (.agg [pB false,pL eI [((q.num.natAbs:Nat):Int)]])):=by
 rw[dq_t hD];exact w217 _ aa h
theorem w217m (q:Rat) (D:List UInt8) (hD:D=Dq q) (h:q.den<1000000000) (hl:slN D<D.length):CKa 217 [vS (bsO (D.drop (slN D+1)))] (.pv (.agg [pB false,pL eI [((q.den:Nat):Int)]])):=by
 rw[dq_d hD hl];exact w217 _ q.den_pos h
theorem dq_20 (h:qS q):(Dq q).length<=20:=by
 have h1:=dec9 h.1
 have h2:=dec9 h.2
 rw[dq_len];split<;>omega
theorem ck_n (hs:s=txt q) (h:(bif decide (0<((s.length:Nat):Int)) then decide (byteAt (bsO s) 0=45) else false)=true):q.num<0:=by
 rw[pr_h] at h
 exact of_decide_eq_true ((qk_s hs Z).symm.trans h)
theorem ck_p (hs:s=txt q) (h:(bif decide (0<((s.length:Nat):Int)) then decide (byteAt (bsO s) 0=45) else false)=false):¬q.num<0:=by
 rw[pr_h] at h
 exact of_decide_eq_false ((qk_s hs Z).symm.trans h)
theorem ck_t (hs:s=txt q) (hD:D=Dq q) (h:(bif decide (0<((s.length:Nat):Int)) then decide (byteAt (bsO s) 0=45) else false)=true):List.drop 1 s=D:=(pr_t h).symm.trans ((qk_D hs Z).trans hD.symm)
theorem ck_f (hs:s=txt q) (hD:D=Dq q) (h:(bif decide (0<((s.length:Nat):Int)) then decide (byteAt (bsO s) 0=45) else false)=false):s=D:=(pr_f h).symm.trans ((qk_D hs Z).trans hD.symm)
theorem cq_0 (hD:D=Dq q) (hl:slN D<D.length):q.num≠0:=by
 intro e
 have:=q.reduced
 rw[e] at this
 exact dq_1 hD hl (by simpa [Nat.Coprime] using this)
theorem cq_2 (hD:D=Dq q):0<D.length:=by
 rw[hD,dq_len]
 have:=List.length_pos_iff.2 (dec_ne q.num.natAbs)
 omega
theorem cq_1 (hs:s=txt q):0<s.length:=by
 have:=cq_2 (q:=q) rfl
 rw[hs,qk_x]
 split
 ·simp
 exact this
theorem dec_eq {n:Nat} {l:List UInt8} (h:Lib.decDigits n=l):n=j0 l:=by rw[<-h,decV_dec]
theorem ck_x1 (hD:D=Dq q) (hn:q.num<0) (h:(bif B then decide (List.take (slN D) D=[48]) else false)=true):False:=by
 have h:=of_decide_eq_true (qk_two h).2
 rw[dq_t hD] at h
 have:=dec_eq h
 rw[show j0 [48]=0 from rfl] at this
 omega
theorem ck_x2 (hD:D=Dq q) (h:(bif decide (byteAt (bsO D) 0=45) then B else false)=true):False:=by
 have h1:=pr_h (s:=D)
 rw[hD,dq_h,<-hD,zl (show 0<((D.length:Nat):Int) by have:=cq_2 hD;omega),cond_true] at h1
 rw[h1] at h;cases h
theorem ck_y (hD:D=Dq q) (h:(bif decide (((slN D:Nat):Int)<((D.length:Nat):Int)) then bif decide (List.drop (slN D+1) D=[48]) then true else decide (List.drop (slN D+1) D=[49]) else false)=true):False:=by
 obtain⟨h1,h2⟩:=qk_two h
 have hl:slN D<D.length:=by have:=of_decide_eq_true h1;omega
 have h0:=dq_1 hD hl
 have hp:=q.den_pos
 rw[dq_d hD hl] at h2
 rcases dc_or h2 with g|g
 ·have:=dec_eq g
  rw[show j0 [48]=0 from rfl] at this;omega
 have:=dec_eq g
 rw[show j0 [49]=1 from rfl] at this;omega
theorem ck_z (hl:D.length<=20) (h:(bif decide (600<((slN D:Nat):Int)) then true else decide (600<((D.length:Nat):Int)-((slN D:Nat):Int)-1))=true):False:=by
 have:=slN_le D
 rcases dc_or h with h|h<;>omega
theorem w195c (q:Rat) (h:qS q) (h0:q.num≠0):CKa 195 [vL eI [((q.num.natAbs:Nat):Int)],vL eI [((q.den:Nat):Int)]] (vL eI [1]):=by
 have g:=w195 q.num.natAbs q.den aa h.1 h.2
 rw[d1_p aa,d1_p q.den_pos,show Nat.gcd q.num.natAbs q.den=1 from q.reduced] at g
 exact g
theorem w69h (q:Rat) (hq:qS q):CKa 69 [vS (bsO (txt q)),vS (bsO [49,47,50])] (vS (bsO (txt (q*(1 / 2))))):=by
 have h:=w69 q (1 / 2) hq ⟨by decide +kernel,by decide +kernel⟩
 rw[show txt (1 / 2)=[49,47,50] by kernel_rfl] at h
 exact h
theorem abq_1 (h:jz q.num<0):List.drop 1 (txt q)=txt (abQ q):=by
 unfold abQ
 rw[if_pos (sgn_neg.1 h)];exact ng_1 h
theorem abq_2 (h:¬jz q.num<0):txt q=txt (abQ q):=by
 unfold abQ
 rw[if_neg (fun g=>h (sgn_neg.2 g))]
theorem af_1 {a b:KI} (h:a.1+a.2≠b.1+b.2):decide (b.1+b.2<a.1+a.2)=aftB a b:=by unfold aftB;rw[zl h];rfl
theorem af_2 {a b:KI} (h:¬a.1+a.2≠b.1+b.2):decide (a.1<b.1)=aftB a b:=by unfold aftB;rw[zk h];rfl
theorem w62n (q:Rat) (h:q≠0):CKa 62 [vS (bsO (txt q))] (vB false):=by
 have g:=w62 q
 rwa [zk h] at g
theorem w105z (n:Int) (h:0<=n/\n<=16):CKa 105 [vI n,vI 0,vI 16] (vI 0):=by
 have g:=w105 n 0 16
 rwa [wi_0.2 h] at g
theorem cp_x (h:(bif B then false else false)=true):False:=by cases B<;>cases h
theorem w27z:CKa 27 [vL eI [0,0]] (vI 0):=w27 [0,0] ah
end
theorem w249 (s:List UInt8) (hd:Dgs s) (hl:List.length s<=1000000000):CKa 249 [vS (bsO s)] (vB true):=by
 refine cG qf249 Z (nB Z) Z (l1 (fun (i:Nat)=>[(0,vS (bsO s)),(3,vI ((i:Nat):Int))]) (fun _=>[]) (fun i=>i<=List.length s) (fun i=>List.length s-i) 0 Z ?_ (sb Z Z Z) ?_)
 · exact zw _
 intro i hI0
 refine E Z (B.lenB (a:=s) Z un9) (Cp Z Z (fun h1=>?_) (fun h1=>?_))
 ·refine E Z (B.sidx (i:=i) Z Z un9 Z (show i<List.length s from aa)) (Eg Z Z (fun hc=>B.move Z) Z (Eg Z Z (fun hc=>B.move Z) Z (Eg Z Z (fun hc=>B.sidx (i:=i) (qz Z hc) (qz Z hc) un9 Z (show i<List.length s from aa)) Z (Eg Z Z (fun hc=>B.gtr (qz Z hc) Z) Z (E Z (B.pick Z Z Z Z (gdB Z) (jj _)) (Cb Z Z (fun h2=>?_) (fun h2=>?_)))))))
  ·exact (dgn_x hd aa h2).elim
  refine E Z (B.add Z Z bj) (pk Z (L1 (i+1) ?_ ?_ (sb Z Z Z)))
  · omega
  · omega
 refine Rt Z ?_
 exact leaf (val0:=vB true) ae bi
theorem w194 (b:Nat) (h9:b<1000000000):CKa 194 [vS (bsO (Lib.decDigits b))] (vB true):=by
 refine cG qf194 Z (nB Z) Z (E Z (B.lenB (a:=(Lib.decDigits b)) Z un9) (Eg Z Z (fun hc=>B.move Z) Z (Eg Z Z (fun hc=>B.lenB (a:=(Lib.decDigits b)) (qz Z hc) un9) Z (Eg Z Z (fun hc=>B.gtr (qz Z hc) Z) Z (Eg Z Z (fun hc=>B.move (qz Z hc)) Z (Eg Z Z (fun hc=>B.move Z) Z (Eg Z Z (fun hc=>B.sidx (i:=0) (qz Z hc) Z un9 Z (show 0<List.length (Lib.decDigits b) from dH)) Z (Eg Z Z (fun hc=>B.eql (qz Z hc) Z) Z (Eg Z Z (fun hc=>B.pick (qz Z hc) Z Z (gdB Z) Z (pick_and2 hc)) Z (E Z (B.pick Z Z Z Z (gdB Z) (jj _)) (Cb Z Z (fun h1=>?_) (fun h1=>?_))))))))))))
 ·exact (df_x h1).elim
 refine C Z (w249 (Lib.decDigits b) (dgs_dec b) (by have:=dec9 h9;omega)) Z Z Z ?_
 refine Rt Z ?_
 exact leaf (val0:=vB true) ae bi
theorem w194n (q:Rat) (D:List UInt8) (hD:D=Dq q) (h:q.num.natAbs<1000000000):CKa 194 [vS (bsO (D.take (slN D)))] (vB true):=by
 rw[dq_t hD];exact w194 _ h
theorem w194m (q:Rat) (D:List UInt8) (hD:D=Dq q) (h:q.den<1000000000) (hl:((slN D:Nat):Int)<((D.length:Nat):Int)):CKa 194 [vS (bsO (D.drop (slN D+1)))] (vB true):=by
 rw[dq_d hD aa];exact w194 _ h
theorem w158q (q:Rat) (D:List UInt8) (hD:D=Dq q) (h:qS q) (h0:q.num≠0) (hs:slN D<D.length) (hl:D.length<=20):CKa 158 [vS (bsO D)] (.tup [.pv (.agg [pB false,pL eI [(((Int.natAbs (Rat.num q)):Nat):Int)]]),.pv (.agg [pB false,pL eI [(((Rat.den q):Nat):Int)]])]):=by
 refine cG qf158 Z (nB Z) Z (E Z (B.ja Z (fun l=>Frz.boxN l Z) Z) (E Z (B.ja Z (fun l=>Frz.boxN l Z) Z) (C Z (w193 D aa) Z Z Z (E Z (B.lenB (a:=D) Z un9) (Cp Z Z (fun h1=>?_) (fun h1=>?_))))))
 ·exact absurd h1 aa
 refine E Z (B.slHB (a:=D) (j:=(slN D)) Z Z un9 Z aa) (C Z (w217n q D hD h.1 h0) Z Z Z (E Z (B.add Z Z bj) (E Z (B.slLB (a:=D) (i:=((slN D)+1)) Z Z un9 aa aa) (C Z (w217m q D hD h.2 aa) Z Z Z (Dr Z ae ?_)))))
 refine Rt Z ?_
 exact leaf (val0:=.tup [.pv (.agg [pB false,pL eI [(((Int.natAbs (Rat.num q)):Nat):Int)]]),.pv (.agg [pB false,pL eI [(((Rat.den q):Nat):Int)]])]) ae bi
theorem w120 (q:Rat) (s:List UInt8) (hs:s=txt q) (h:qS q):CKa 120 [vS (bsO s)] (vI 0):=by
 refine cG qf120 Z (nB Z) Z ?_
 have hl:=qk_len hs h
 obtain⟨D,hD⟩:∃ D,D=Dq q:=⟨_,rfl⟩
 have hsl:=slN_le D
 have hDl:D.length<=20:=by rw[hD];exact dq_20 h
 refine E Z (B.lenB (a:=s) Z un9) (Eg Z Z (fun hc=>B.move Z) Z (Eg Z Z (fun hc=>B.sidx (i:=0) (qz Z hc) Z un9 Z (show 0<List.length s from dI)) Z (Eg Z Z (fun hc=>B.eql (qz Z hc) Z) Z (E Z (B.pick Z Z Z (gdB Z) Z (q0 _)) (Cb Z Z (fun h1=>?_) (fun h1=>?_))))))
 ·refine E Z (B.slLB (a:=s) (i:=1) Z Z un9 Z dI) ?_
  refine tk 4 Z ?_
  refine tn ⟨[(0,vS (bsO s)),(3,vS (bsO (List.drop 1 s)))],[]⟩ rfl rfl Z ?_
  have hn:=ck_n hs h1
  rw[ck_t hs hD h1]
  refine kc (C Z (w193 D aa) Z Z Z (E Z (B.slHB (a:=D) (j:=(slN D)) Z Z un9 Z dI) (C Z (w194n q D hD h.1) Z Z Z (Eg Z Z (fun hc=>B.move Z) Z (Eg Z Z (fun hc=>B.sidx (i:=0) (qz Z hc) Z un33 Z (show 0<List.length s from dI)) Z (Eg Z Z (fun hc=>B.eql (qz Z hc) Z) Z (Eg Z Z (fun hc=>B.move (qz Z hc)) Z (Eg Z Z (fun hc=>B.move Z) Z (Eg Z Z (fun hc=>B.move Z) Z (Eg Z Z (fun hc=>B.slHB (a:=D) (j:=(slN D)) (qz Z hc) (qz Z hc) un9 Z dI) Z (Eg Z Z (fun hc=>B.seqB (a:=(List.take (slN D) D)) (b:=[48]) (qz Z hc) Z) Z (Eg Z Z (fun hc=>B.pick (qz Z hc) Z Z (gdB Z) Z (pick_and2 hc)) Z (E Z (B.pick Z Z Z Z (gdB Z) (jj _)) (Cb Z Z (fun h2=>?_) (fun h2=>?_)))))))))))))))
  ·first|exact (ck_x1 hD hn h2).elim|exact (ck_x2 hD h2).elim
  refine E Z (B.lenB (a:=D) Z un9) (Eg Z Z (fun hc=>B.move Z) Z (Eg Z Z (fun hc=>B.move Z) Z (Eg Z Z (fun hc=>B.add (qz Z hc) Z bj) Z (Eg Z Z (fun hc=>B.slLB (a:=D) (i:=((slN D)+1)) (qz Z hc) (qz Z hc) un9 aa dI) Z (Eg Z Z (fun hc=>B.call (w194m q D hD h.2 (of_decide_eq_true (eq_of_beq hc))) Z (ds1 (qz Z hc)) Z) Z (Eg Z Z (fun hc=>B.not (qz Z hc)) Z (Eg Z Z (fun hc=>B.move (qz Z hc)) Z (Eg Z Z (fun hc=>B.move Z) Z (Eg Z Z (fun hc=>B.move Z) Z (Eg Z Z (fun hc=>B.add (qz Z hc) Z bj) Z (Eg Z Z (fun hc=>B.slLB (a:=D) (i:=((slN D)+1)) (qz Z hc) (qz Z hc) un9 aa dI) Z (Eg Z Z (fun hc=>B.seqB (a:=(List.drop ((slN D)+1) D)) (b:=[48]) (qz Z hc) Z) Z (Eg Z Z (fun hc=>B.pick (qz Z hc) Z Z Z (gdB Z) (pick_or2 hc)) Z ?_)))))))))))))
  refine Eg Z Z (fun hc=>B.move (qz Z hc)) Z (Eg Z Z (fun hc=>B.move Z) Z (Eg Z Z (fun hc=>B.move Z) Z (Eg Z Z (fun hc=>B.add (qz Z hc) Z bj) Z (Eg Z Z (fun hc=>B.slLB (a:=D) (i:=((slN D)+1)) (qz Z hc) (qz Z hc) un9 aa dI) Z (Eg Z Z (fun hc=>B.seqB (a:=(List.drop ((slN D)+1) D)) (b:=[49]) (qz Z hc) Z) Z (Eg Z Z (fun hc=>B.pick (qz Z hc) Z Z Z (gdB Z) (pick_or2 hc)) Z (E Z (B.pick Z Z Z (gdB Z) Z (q0 _)) (Cb Z Z (fun h3=>?_) (fun h3=>?_)))))))))
  ·exact (ck_y hD h3).elim
  refine Eg Z Z (fun hc=>B.move Z) Z (Eg Z Z (fun hc=>B.lenB (a:=D) (qz Z hc) un9) Z (Eg Z Z (fun hc=>B.move Z) Z (Eg Z Z (fun hc=>B.sub (qz Z hc) (qz Z hc) bj) Z (Eg Z Z (fun hc=>B.sub (qz Z hc) Z bj) Z (Eg Z Z (fun hc=>B.gtr (qz Z hc) Z) Z (E Z (B.pick Z Z Z Z (gdB Z) (jj _)) (Cb Z Z (fun h4=>?_) (fun h4=>?_))))))))
  ·exact (ck_z hDl h4).elim
  refine E Z (B.lenB (a:=D) Z un9) (Cp Z Z (fun h5=>?_) (fun h5=>?_))
  ·refine C Z (w158q q D hD h (cq_0 hD aa) aa hDl) Z Z Z (E Z (B.ja Z (fun l=>Frz.boxN l Z) Z) (E Z (B.ja Z (fun l=>Frz.boxN l Z) Z) (C Z (w195c q h (cq_0 hD aa)) Z Z Z (E Z (B.jW Z un45) (Eg Z Z (fun hc=>B.move Z) Z (Eg Z Z (fun hc=>B.idx (z:=0) (i:=0) (qz Z hc) Z un45 sz3 (fun _=>rfl) Z dI) Z (Eg Z Z (fun hc=>B.loadP (qz Z hc) ag3 sz3) Z (Eg Z Z (fun hc=>B.neq (qz Z hc) Z) Z (E Z (B.pick Z Z Z Z (gdB Z) (jj _)) (Cb Z Z (fun h6=>?_) (fun h6=>?_)))))))))))
   ·exact absurd h6 ah
   refine Rt Z ?_
   exact leaf (val0:=vI 0) ae bi
  refine Rt Z ?_
  exact leaf (val0:=vI 0) ae bi
 refine tk 4 Z ?_
 refine tn ⟨[(0,vS (bsO s)),(3,vS (bsO s))],[]⟩ rfl rfl Z ?_
 have hn:=ck_p hs h1
 rw[ck_f hs hD h1]
 refine kc (C Z (w193 D aa) Z Z Z (E Z (B.slHB (a:=D) (j:=(slN D)) Z Z un9 Z dI) (C Z (w194n q D hD h.1) Z Z Z (Eg Z Z (fun hc=>B.move Z) Z (Eg Z Z (fun hc=>B.sidx (i:=0) (qz Z hc) Z un33 Z (show 0<List.length D from dI)) Z (Eg Z Z (fun hc=>B.eql (qz Z hc) Z) Z (Eg Z Z (fun hc=>B.move (qz Z hc)) Z (Eg Z Z (fun hc=>B.move Z) Z (Eg Z Z (fun hc=>B.move Z) Z (Eg Z Z (fun hc=>B.slHB (a:=D) (j:=(slN D)) (qz Z hc) (qz Z hc) un9 Z dI) Z (Eg Z Z (fun hc=>B.seqB (a:=(List.take (slN D) D)) (b:=[48]) (qz Z hc) Z) Z (Eg Z Z (fun hc=>B.pick (qz Z hc) Z Z (gdB Z) Z (pick_and2 hc)) Z (E Z (B.pick Z Z Z Z (gdB Z) (jj _)) (Cb Z Z (fun h7=>?_) (fun h7=>?_)))))))))))))))
 ·first|exact (ck_x1 hD hn h7).elim|exact (ck_x2 hD h7).elim
 refine E Z (B.lenB (a:=D) Z un9) (Eg Z Z (fun hc=>B.move Z) Z (Eg Z Z (fun hc=>B.move Z) Z (Eg Z Z (fun hc=>B.add (qz Z hc) Z bj) Z (Eg Z Z (fun hc=>B.slLB (a:=D) (i:=((slN D)+1)) (qz Z hc) (qz Z hc) un9 aa dI) Z (Eg Z Z (fun hc=>B.call (w194m q D hD h.2 (of_decide_eq_true (eq_of_beq hc))) Z (ds1 (qz Z hc)) Z) Z (Eg Z Z (fun hc=>B.not (qz Z hc)) Z (Eg Z Z (fun hc=>B.move (qz Z hc)) Z (Eg Z Z (fun hc=>B.move Z) Z (Eg Z Z (fun hc=>B.move Z) Z (Eg Z Z (fun hc=>B.add (qz Z hc) Z bj) Z (Eg Z Z (fun hc=>B.slLB (a:=D) (i:=((slN D)+1)) (qz Z hc) (qz Z hc) un9 aa dI) Z (Eg Z Z (fun hc=>B.seqB (a:=(List.drop ((slN D)+1) D)) (b:=[48]) (qz Z hc) Z) Z (Eg Z Z (fun hc=>B.pick (qz Z hc) Z Z Z (gdB Z) (pick_or2 hc)) Z ?_)))))))))))))
 refine Eg Z Z (fun hc=>B.move (qz Z hc)) Z (Eg Z Z (fun hc=>B.move Z) Z (Eg Z Z (fun hc=>B.move Z) Z (Eg Z Z (fun hc=>B.add (qz Z hc) Z bj) Z (Eg Z Z (fun hc=>B.slLB (a:=D) (i:=((slN D)+1)) (qz Z hc) (qz Z hc) un9 aa dI) Z (Eg Z Z (fun hc=>B.seqB (a:=(List.drop ((slN D)+1) D)) (b:=[49]) (qz Z hc) Z) Z (Eg Z Z (fun hc=>B.pick (qz Z hc) Z Z Z (gdB Z) (pick_or2 hc)) Z (E Z (B.pick Z Z Z (gdB Z) Z (q0 _)) (Cb Z Z (fun h8=>?_) (fun h8=>?_)))))))))
 ·exact (ck_y hD h8).elim
 refine Eg Z Z (fun hc=>B.move Z) Z (Eg Z Z (fun hc=>B.lenB (a:=D) (qz Z hc) un9) Z (Eg Z Z (fun hc=>B.move Z) Z (Eg Z Z (fun hc=>B.sub (qz Z hc) (qz Z hc) bj) Z (Eg Z Z (fun hc=>B.sub (qz Z hc) Z bj) Z (Eg Z Z (fun hc=>B.gtr (qz Z hc) Z) Z (E Z (B.pick Z Z Z Z (gdB Z) (jj _)) (Cb Z Z (fun h9=>?_) (fun h9=>?_))))))))
 ·exact (ck_z hDl h9).elim
 refine E Z (B.lenB (a:=D) Z un9) (Cp Z Z (fun h10=>?_) (fun h10=>?_))
 ·refine C Z (w158q q D hD h (cq_0 hD aa) aa hDl) Z Z Z (E Z (B.ja Z (fun l=>Frz.boxN l Z) Z) (E Z (B.ja Z (fun l=>Frz.boxN l Z) Z) (C Z (w195c q h (cq_0 hD aa)) Z Z Z (E Z (B.jW Z un45) (Eg Z Z (fun hc=>B.move Z) Z (Eg Z Z (fun hc=>B.idx (z:=0) (i:=0) (qz Z hc) Z un45 sz3 (fun _=>rfl) Z dI) Z (Eg Z Z (fun hc=>B.loadP (qz Z hc) ag3 sz3) Z (Eg Z Z (fun hc=>B.neq (qz Z hc) Z) Z (E Z (B.pick Z Z Z Z (gdB Z) (jj _)) (Cb Z Z (fun h11=>?_) (fun h11=>?_)))))))))))
  ·exact absurd h11 ah
  refine Rt Z ?_
  exact leaf (val0:=vI 0) ae bi
 refine Rt Z ?_
 exact leaf (val0:=vI 0) ae bi
theorem w61 (l:List Rat) (hl:List.length l<=1000000) (hq:∀ q∈l,qS q):CKa 61 [vL eQt l] (vI 0):=by
 refine cG qf61 Z (nB Z) Z (l1 (fun (k:Nat)=>[(0,vL eQt l),(3,vI ((k:Nat):Int))]) (fun _=>[]) (fun k=>k<=List.length l) (fun k=>List.length l-k) 0 Z ?_ (sb Z Z Z) ?_)
 · exact zw _
 intro k hI0
 refine E Z (B.jW Z un61) (Cp Z Z (fun h1=>?_) (fun h1=>?_))
 ·refine E Z (B.idx (z:=0) (i:=k) Z Z un61 sz33 (fun _=>rfl) Z aa) (C Z (w120 (l.getD k 0) (txt (l.getD k 0)) Z (hq _ (jf aa))) Z Z Z (CF Z Z (E Z (B.add Z Z bj) (pk Z (L1 (k+1) ?_ ?_ (sb Z Z Z))))))
  · omega
  · omega
 exact Rt Z (leaf Z Z)
theorem w60 (q:Rat) (hq:qS q):CKa 60 [vS (bsO (txt q))] (vS (bsO (txt (q*(1 / 2))))):=by
 refine cG qf60 Z (nB Z) Z (C Z (w69h q hq) Z Z Z ?_)
 refine Rt Z ?_
 exact leaf (val0:=vS (bsO (txt (q*(1 / 2))))) ae bi
theorem w63q (q:Rat) (hl:List.length (txt q)<=900000):CKa 63 [vS (bsO (txt q))] (vS (bsO (txt (abQ q)))):=by
 refine cG qf63 Z (nB Z) Z (C Z (w137 q hl) Z Z Z (Cp Z Z (fun h1=>?_) (fun h1=>?_)))
 ·refine E Z (B.slLB (a:=(txt q)) (i:=1) Z Z un33 Z (by exact ng_l ab)) ?_
  refine Rt Z ?_
  exact leaf (val0:=vS (bsO (List.drop 1 (txt q)))) ae dJ
 refine Rt Z ?_
 exact leaf (val0:=vS (bsO (txt q))) ae dJ
theorem w121 (p r:KI×Rat) (hp:K16 (Prod.fst p)) (hr:K16 (Prod.fst r)):CKa 121 [.pv (.agg [pS (bsO (txt (Prod.snd p))),pI (Prod.fst (Prod.fst p)),pI (Prod.snd (Prod.fst p))]),.pv (.agg [pS (bsO (txt (Prod.snd r))),pI (Prod.fst (Prod.fst r)),pI (Prod.snd (Prod.fst r))])] (vB (aftB (Prod.fst p) (Prod.fst r))):=by
 refine cG qf121 Z (nB Z) Z (E Z (B.add Z Z dK) (E Z (B.add Z Z dK) (Cp Z Z (fun h1=>?_) (fun h1=>?_))))
 ·refine E Z (B.add Z Z dK) (E Z (B.add Z Z dK) ?_)
  refine Rt Z ?_
  exact leaf (val0:=vB (decide (((Prod.fst (Prod.fst r))+(Prod.snd (Prod.fst r)))<((Prod.fst (Prod.fst p))+(Prod.snd (Prod.fst p)))))) ae dL
 refine Rt Z ?_
 exact leaf (val0:=vB (decide ((Prod.fst (Prod.fst p))<(Prod.fst (Prod.fst r))))) ae dL
theorem w121t (p r:KI×Rat) (hp:K16 (Prod.fst p)) (hr:K16 (Prod.fst r)) (h:aftB (Prod.fst p) (Prod.fst r)=true):CKa 121 [.pv (.agg [pS (bsO (txt (Prod.snd p))),pI (Prod.fst (Prod.fst p)),pI (Prod.snd (Prod.fst p))]),.pv (.agg [pS (bsO (txt (Prod.snd r))),pI (Prod.fst (Prod.fst r)),pI (Prod.snd (Prod.fst r))])] (vB true):=by
 have g:=w121 p r hp hr
 rwa [h] at g
theorem w26 (P:PL) (hP:CpOk P):CKa 26 [vL eR P] (vI 0):=by
 refine cG qf26 Z (nB Z) Z ?_
 have hl:=hP.n
 refine l1 (fun (k:Nat)=>[(0,vL eR P),(3,vI ((k:Nat):Int))]) (fun _=>[]) (fun k=>k<=List.length P) (fun k=>List.length P-k) 0 Z ?_ (sb Z Z Z) ?_
 · exact zw _
 intro k hI0
 refine E Z (B.jW Z un28) (Cp Z Z (fun h1=>?_) (fun h1=>?_))
 ·refine E Z (B.idx (z:=rrZ) (i:=k) Z Z un28 sz83 (fun _=>rfl) Z dM) (C Z (w120 (Prod.snd (List.getD P k rrZ)) _ Z (hP.c k aa).1) Z Z Z (Eg Z Z (fun hc=>B.move Z) Z (Eg Z Z (fun hc=>B.move Z) Z (Eg Z Z (fun hc=>B.idx (z:=rrZ) (i:=k) (qz Z hc) (qz Z hc) un28 sz83 (fun _=>rfl) Z dM) Z (Eg Z Z (fun hc=>B.fadP (qz Z hc) fa83_0 Z) Z (Eg Z Z (fun hc=>B.loadP (qz Z hc) ag33 sz33) Z (Eg Z Z (fun hc=>B.call (w62n (Prod.snd (List.getD P k rrZ)) (hP.c k aa).2.1) Z (ds1 (qz Z hc)) Z) Z (E Z (B.pick Z Z Z (gdB Z) Z (q0 _)) (Cb Z Z (fun h2=>?_) (fun h2=>?_))))))))))
  ·exact absurd h2 ah
  refine CT Z Z (E Z (B.idx (z:=rrZ) (i:=k) Z Z un28 sz83 (fun _=>rfl) Z dM) (C Z (w105z _ dN) Z Z Z (E Z (B.idx (z:=rrZ) (i:=k) Z Z un28 sz83 (fun _=>rfl) Z dM) (C Z (w105z _ dN) Z Z Z (E Z (B.ja (val:=.pv (.slice (List.map eI [0,0]))) Z (fun l=>Frz.arr l _ _ _ _ _) Z) (C Z (w27z) Z Z Z (Dr Z ae (CT Z Z (E Z (B.idx (z:=rrZ) (i:=k) Z Z un28 sz83 (fun _=>rfl) Z dM) (E Z (B.idx (z:=rrZ) (i:=k) Z Z un28 sz83 (fun _=>rfl) Z dM) (E Z (B.add Z Z dO) (C Z (w105z _ dN) Z Z Z (Dr Z ae ?_)))))))))))))
  refine Eg Z Z (fun hc=>B.move Z) Z (Eg Z Z (fun hc=>B.gtr (qz Z hc) Z) Z (E Z (B.pick Z Z Z (gdB Z) Z (q0 _)) (Eg Z Z (fun hc=>B.move Z) Z (Eg Z Z (fun hc=>B.move Z) Z (Eg Z Z (fun hc=>B.idx (z:=rrZ) (i:=k) (qz Z hc) (qz Z hc) un28 sz83 (fun _=>rfl) Z dM) Z (Eg Z Z (fun hc=>B.loadA (ds:=[pS (bsO (txt (Prod.snd (List.getD P k rrZ)))),pI (Prod.fst (Prod.fst (List.getD P k rrZ))),pI (Prod.snd (Prod.fst (List.getD P k rrZ)))]) (qz Z hc) ag83 sz83 (zZ Z) Z) Z (Eg Z Z (fun hc=>B.move Z) Z (Eg Z Z (fun hc=>B.move Z) Z (Eg Z Z (fun hc=>B.sub (qz Z hc) Z dO) Z (Eg Z Z (fun hc=>B.idx (z:=rrZ) (i:=(k-1)) (qz Z hc) (qz Z hc) un28 sz83 (fun _=>rfl) dH dM) Z (Eg Z Z (fun hc=>B.loadA (ds:=[pS (bsO (txt (Prod.snd (List.getD P (k-1) rrZ)))),pI (Prod.fst (Prod.fst (List.getD P (k-1) rrZ))),pI (Prod.snd (Prod.fst (List.getD P (k-1) rrZ)))]) (qz Z hc) ag83 sz83 (zZ Z) Z) Z (Eg Z Z (fun hc=>B.call (w121t _ _ (hP.c _ aa).2.2 (hP.c _ aa).2.2 (hP.o k aa dH)) Z (ds2 (qz Z hc) (qz Z hc)) Z) Z (Eg Z Z (fun hc=>B.not (qz Z hc)) Z ?_)))))))))))))
  refine E Z (B.pick Z Z Z (gdB Z) Z (q0 _)) (Dr Z ae (Cb Z Z (fun h3=>?_) (fun h3=>?_)))
  ·exact (cp_x h3).elim
  refine CF Z Z (E Z (B.add Z Z dO) (pk Z (L1 (k+1) ?_ ?_ (sb Z Z Z))))
  · omega
  · omega
 exact Rt Z (leaf Z Z)
end Go.Lens.Tb
end
