/- A part of the proof of PupilMomentsCardSaid, without conditions. -/
import Derived.Test.YtljafcmealiifaaGreatDoorP7
import Derived.Test.YtljafcmealiifaaGreatDoorP10
set_option linter.unusedVariables false
set_option linter.unusedSimpArgs false
set_option linter.unusedSectionVars false
set_option maxHeartbeats 4000000
section
namespace Go.Lens.Tb
open Go.Proofs Go.Lens.Un
variable [Lz] [Dn] [Kr]
set_option maxRecDepth 100000
attribute [local irreducible] TK PK T RG EfR Body CG
open Un Un.R
theorem ds4 {s:St} {x1 x2 x3 x4:Operand} {d1 d2 d3 d4:DV} (h1:ev1 s x1=d1) (h2:ev1 s x2=d2) (h3:ev1 s x3=d3) (h4:ev1 s x4=d4):([]:List DV)++([x1,x2,x3,x4]:List Operand).map (ev1 s)++[]=[d1,d2,d3,d4]:=by simp[h1,h2,h3,h4]
section
variable {l:List Nb}
theorem sh_y (h:(!shV l 20)=false):shV l 20=true:=by revert h;cases shV l 20<;>decide
theorem sh_L (h:shV l 20=true):l.length<=1000000:=by have:=(sh_l h).1;omega
theorem sh_M (h:shV l 20=true):∀ s∈l,s.length<=10000:=fun s hs=>by have:=(sh_l h).2 s hs;omega
theorem sh_Q (h:shV l 20=true) (hc:ZT l=0):ShQ ((l.map jc).map Qn.q):=by rw[qs_q];exact (sh_P h hc).1
theorem w52p (hp:qW) (l:List Nb) (h:shV l 20=true):CKa 6 [vL eN l] (.tup [vL eN (flT l),vS (bsO (flP l)),vI (flE l)]):=
 w52 hp l (sh_L h) (fun s hs=>by have:=(sh_l h).2 s hs;omega) (fun hc=>flatOk_s (sh_Q h hc))
theorem w53p (hp:qW) (l:List Nb) (h:shV l 20=true):CKa 7 [vL eN l] (.tup [vS (bsO (vaT l)),vI (vaE l)]):=
 w53 hp l (sh_L h) (fun s hs=>by have:=(sh_l h).2 s hs;omega) (fun hc=>flatOk_s (sh_Q h hc)) (fun hc=>dotOk_s (sh_Q h hc))
theorem qs_v (hc:∀ s∈l,jA s=0):vL eN l=vL eQt (qs l):=congrArg (fun x=>DV.pv (.slice x)) (qs_map l hc).symm
theorem txm_v (Q:List Rat):vL eN (Q.map txt)=vL eQt Q:=congrArg (fun x=>DV.pv (.slice x)) (List.map_map ..)
theorem w55p (l:List Nb) (hQ:ShQ (qs l)) (hc:∀ s∈l,jA s=0):CKa 9 [vL eN l] (.tup [vL eN (List.map txt (kE (qs l))),vS (bsO (txt (kN (qs l))))]):=by
 rw[qs_v hc,txm_v];exact w55s _ hQ
theorem w56p (l:List Nb) (hQ:ShQ (qs l)) (hc:∀ s∈l,jA s=0):CKa 10 [vL eN l] (vS (bsO (txt (varL (qs l))))):=by
 rw[qs_v hc];exact w56s _ hQ
theorem w44p (e:Int) (Q:List Rat) (h:Q.length<=1000000/\∀ q∈Q,(txt q).length<=900000):CKa 11 [vI e,vL eN (List.map txt Q)] (vI (lgF e Q)):=by
 rw[txm_v];exact w44 e Q h.1 h.2
theorem w44q (e:Int) (q:Rat) (h:(txt q).length<=900000):CKa 11 [vI e,vL eN [txt q]] (vI (lgF e [q])):=
 w44 e [q] (show 1<=1000000 by decide) (num_l h)
theorem w32z (a:Nb) (e b:Int):CKa 13 [vS (bsO a),vI e,vI b,vS (bsO [48])] (vB (numB a e b 0)):=by
 have g:=w32 a e b 0 (by rw[tz_0];decide)
 rwa [tz_0] at g
theorem ShQ.y {Q:List Rat} (h:ShQ Q):(kE Q).length<=1000000/\∀ q∈kE Q,(txt q).length<=900000:=by
 refine⟨by rw[flt_l];have:=h.m;omega,fun q hq=>ar_t (by have:=h.f q hq;omega)⟩
theorem ShQ.w {Q:List Rat} (h:ShQ Q):(txt (kN Q)).length<=900000:=ar_t (by have:=h.e;omega)
theorem ShQ.u {Q:List Rat} (h:ShQ Q):(List.map txt (kE Q)).length<=1000000:=by rw[zI];exact h.y.1
theorem ShQ.r {Q:List Rat} (h:ShQ Q):(txt (varL Q)).length<=900000:=ar_t (by
 have h1:=h.v
 have h2:=sz_div (dotL (kE Q) (kE Q) (kE Q).length) (((kE Q).length:Nat):Rat)
 unfold varL;omega)
theorem sh_T (h:shV l 20=true):(flT l).length<=1000000:=by
 unfold flT
 split
 ·exact zt _
 refine qh (List.length_take_le ..) ?_
 rw[fq_len,zI];exact sh_L h
theorem pm_1 (hl:l.length<=1000000) (hc:ZT l=0) (h:lgF (lgF 0 (kE (qs l))) [kN (qs l)]≠0):(bif (bif (bif (bif (decide (flT l=[])) then (decide (flP l=[])) else false) then (decide (flE l=lgF (lgF 0 (kE (qs l))) [kN (qs l)])) else false) then (numB (vaT l) (vaE l) (ZT l) (varL (qs l))) else false) then true else false)=true:=by
 have e:=fl_e hl hc
 have hn:flE l≠0:=by rw[e];exact h
 rw[hc,va_v hl hc,e,show flT l=[] by unfold flT;rw[if_pos hn],show flP l=[] by unfold flP;rw[if_pos hn]];simp
theorem pm_2 (hl:l.length<=1000000) (hc:ZT l=0) (h:¬lgF (lgF 0 (kE (qs l))) [kN (qs l)]≠0):(bif (bif (bif (bif (decide (flT l=List.map txt (kE (qs l)))) then (decide (flP l=txt (kN (qs l)))) else false) then (decide (flE l=lgF (lgF 0 (kE (qs l))) [kN (qs l)])) else false) then (numB (vaT l) (vaE l) (ZT l) (varL (qs l))) else false) then true else false)=true:=by
 have e:=fl_e hl hc
 have hn:flE l=0:=by rw[e];exact zi.1 h
 obtain⟨e1,e2⟩:=fl_t hl hc hn
 rw[hc,va_v hl hc,e,e1,e2];simp
theorem pm_3 (hc:¬ZT l=0):(bif (bif (bif (bif (decide (flT l=[])) then (decide (flP l=[])) else false) then (decide (flE l=ZT l)) else false) then (numB (vaT l) (vaE l) (ZT l) 0) else false) then true else false)=true:=by
 rw[<-fl_t1 hc,<-fl_p1 hc,fl_a hc,va_e1 hc,<-va_t1 hc]
 unfold numB
 rw[lgF_0,if_neg hc,if_pos hc];simp
end
theorem w8 (hp:qW) (hf:jq) (l:List Nb) (hl:l.length<=4611686018427387904):CKa 3 [vL eN l] (vB true):=by
 refine cL 10 [] qf3 Z (nB Z) Z Z (kc (C Z (w51 l 20 hl) Z Z Z (Cb Z Z (fun h1=>?_) (fun h1=>?_))))
 ·exact C Z (w20 hp hf) Z Z Z (Rt Z (lL Z eR))
 have hsh:shV l 20=true:=sh_y ab
 have hL:=sh_L hsh
 refine E Z (B.run Z) (E Z (B.appendZ (l:=[]) Z Z Z un22 in25 Z (fun _=>rfl) by25 eS) (C Z (w52p hp l hsh) Z Z Z (E Z (B.run Z) (E Z (B.appendZ (l:=[]) Z Z Z un22 in25 Z (fun _=>rfl) by25 eS) (C Z (w53p hp l hsh) Z Z Z (C Z (w54 l (sh_L hsh) (sh_M hsh)) Z Z Z (E Z (B.ZH (enc:=eN) Z) (Cp Z Z (fun h2=>?_) (fun h2=>?_)))))))))
 ·obtain⟨hQ,hc⟩:=sh_P hsh h2
  refine C Z (w55p l hQ hc) Z Z Z (C Z (w56p l hQ hc) Z Z Z (C Z (w44p 0 (kE (qs l)) hQ.y) Z Z Z (E Z (B.runZ (val:=.pv (.slice (List.map eN [(txt (kN (qs l)))]))) (m0:=[(57,.arr 0 1 25 [[pS (bsO (txt (kN (qs l))))]])]) (rd:=[]) ae (fun l=>Frz.arr l _ _ _ _ _) Z) (C Z (w44q (lgF 0 (kE (qs l))) (kN (qs l)) (hQ.w)) Z Z Z (Cp Z Z (fun h3=>?_) (fun h3=>?_))))))
  ·refine E Z (B.ZH (enc:=eN) Z) (C Z (w57 (flT l) [] (sh_T hsh) (zt _)) Z Z Z ?_)
   refine Em Z Z Z Z ?_
   refine Em Z Z Z Z ?_
   refine Eg Z Z (fun hc=>B.seqB (qz Z hc) (qz Z hc)) Z (E Z (B.pA Z Z Z Z Z) ?_)
   refine Em Z Z Z Z ?_
   refine Em Z Z Z Z ?_
   refine Eg Z Z (fun hc=>B.eql (qz Z hc) (qz Z hc)) Z (E Z (B.pA Z Z Z Z Z) ?_)
   refine Em Z Z Z Z ?_
   refine Em Z Z Z Z ?_
   refine Em Z Z Z Z ?_
   refine Em Z Z Z Z ?_
   exact Eg Z Z (fun hc=>B.call (w32 (vaT l) (vaE l) (ZT l) (varL (qs l)) hQ.r) Z (ds4 (qz Z hc) (qz Z hc) (qz Z hc) (qz Z hc)) Z) Z (E Z (B.pA Z Z Z Z Z) (Eg Z Z (fun hc=>B.call (w20 hp hf) Z Z Z) Z (E Z (B.pA Z Z Z Z Z) (Rt Z (lL Z eR)))))
  refine C Z (w57 (flT l) (List.map txt (kE (qs l))) (sh_T hsh) hQ.u) Z Z Z ?_
  refine Em Z Z Z Z ?_
  refine Em Z Z Z Z ?_
  refine Eg Z Z (fun hc=>B.seqB (qz Z hc) (qz Z hc)) Z (E Z (B.pA Z Z Z Z Z) ?_)
  refine Em Z Z Z Z ?_
  refine Em Z Z Z Z ?_
  refine Eg Z Z (fun hc=>B.eql (qz Z hc) (qz Z hc)) Z (E Z (B.pA Z Z Z Z Z) ?_)
  refine Em Z Z Z Z ?_
  refine Em Z Z Z Z ?_
  refine Em Z Z Z Z ?_
  refine Em Z Z Z Z ?_
  exact Eg Z Z (fun hc=>B.call (w32 (vaT l) (vaE l) (ZT l) (varL (qs l)) hQ.r) Z (ds4 (qz Z hc) (qz Z hc) (qz Z hc) (qz Z hc)) Z) Z (E Z (B.pA Z Z Z Z Z) (Eg Z Z (fun hc=>B.call (w20 hp hf) Z Z Z) Z (E Z (B.pA Z Z Z Z Z) (Rt Z (lL Z eR)))))
 refine C Z (w57 (flT l) [] (sh_T hsh) (zt _)) Z Z Z ?_
 refine Em Z Z Z Z ?_
 refine Em Z Z Z Z ?_
 refine Eg Z Z (fun hc=>B.seqB (qz Z hc) (qz Z hc)) Z (E Z (B.pA Z Z Z Z Z) ?_)
 refine Em Z Z Z Z ?_
 refine Em Z Z Z Z ?_
 refine Eg Z Z (fun hc=>B.eql (qz Z hc) (qz Z hc)) Z (E Z (B.pA Z Z Z Z Z) ?_)
 refine Em Z Z Z Z ?_
 refine Em Z Z Z Z ?_
 refine Em Z Z Z Z ?_
 refine Em Z Z Z Z ?_
 exact Eg Z Z (fun hc=>B.call (w32z (vaT l) (vaE l) (ZT l)) Z (ds4 (qz Z hc) (qz Z hc) (qz Z hc) (qz Z hc)) Z) Z (E Z (B.pA Z Z Z Z Z) (Eg Z Z (fun hc=>B.call (w20 hp hf) Z Z Z) Z (E Z (B.pA Z Z Z Z Z) (Rt Z (lL Z eR)))))
end Go.Lens.Tb
end
