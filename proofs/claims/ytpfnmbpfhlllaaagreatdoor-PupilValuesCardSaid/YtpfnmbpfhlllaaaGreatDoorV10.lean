/- A part of the proof of PupilValuesCardSaid, without conditions. -/
import Derived.Test.YtpfnmbpfhlllaaaGreatDoorV7
import Derived.Test.YtpfnmbpfhlllaaaGreatDoorV6
import Derived.Test.YtpfnmbpfhlllaaaGreatDoorV9
set_option linter.unusedVariables false
set_option linter.unusedSimpArgs false
set_option linter.unusedSectionVars false
set_option maxHeartbeats 4000000
section
namespace Go.Lens.Tb
open Go.Proofs Go.Lens.Un
variable [Lz] [Dn] [Kr]
set_option maxRecDepth 100000
attribute [local irreducible] TK PK T RG EfR Body CG
open Un Un.R
theorem ds4 {s:St} {x1 x2 x3 x4:Operand} {d1 d2 d3 d4:DV} (h1:ev1 s x1=d1) (h2:ev1 s x2=d2) (h3:ev1 s x3=d3) (h4:ev1 s x4=d4):([]:List DV)++([x1,x2,x3,x4]:List Operand).map (ev1 s)++[]=[d1,d2,d3,d4]:=by simp[h1,h2,h3,h4]
def valV (f:List Trm) (x y:Nb):Rat:=if qB [qF f,q9 x,q9 y]=0 then evP (plF f) (jh x).q (jh y).q else 0
def derV (f:List Trm) (s:Nb):PL:=if qB [qF f,je (!(axB s)) 13]=0 then nfP (derP (axI s) (plF f)) else []
def turV (f:List Trm):PL:=if qF f=0 then nfP (turP (plF f)) else []
section
variable {f:List Trm} {x y s:Nb} {P W:PL} {E:Int} {u v:Rat}
theorem fs_l (h:shF f=true):f.length<=12/\∀ t∈f,t.c.length<=40:=by
 unfold shF shFA at h
 simp only[zj,XM,zG,zr,zf] at h
 exact⟨aa,h.2⟩
theorem fs_m (h:shF f=true):f.length<=1000000:=by have:=(fs_l h).1;omega
theorem vs_h (h:(bif (bif !(shF f) then true else decide (40<(x.length:Int))) then true else decide (40<(y.length:Int)))=false):shF f=true/\x.length<=40/\y.length<=40:=by
 revert h
 cases shF f
 ·intro h;cases h
 by_cases h1:40<(x.length:Int)
 ·rw[zl h1];intro h;cases h
 rw[zk h1]
 intro h
 have:=XJ h
 exact⟨rfl,aa,aa⟩
theorem sz_any (h:s.length<=40):sz (jh s).q<=161:=by
 by_cases hc:q9 s=0
 ·exact sz_short hc h
 unfold jh;rw[Wu hc];decide +kernel
theorem fs_s (h:shF f=true):∀ p∈plF f,sz p.2<=161:=fun p hp=>by
 obtain⟨t,ht,rfl⟩:=zE.1 hp
 exact sz_any ((fs_l h).2 t ht)
theorem fs_n (h:shF f=true):(plF f).length<=12:=by unfold plF;rw[zI];exact (fs_l h).1
theorem fs_z (h:shF f=true):szP (plF f)<=2000:=qc (szP_le (fs_n h) (fs_s h)) ah
theorem fs_k (h:qF f=0):∀ p∈plF f,0<=p.1.1/\0<=p.1.2/\p.1.1+p.1.2<=16:=fun p hp=>kb_f h _ (List.mem_map_of_mem hp)
theorem fs_o (h:shF f=true) (hc:qF f=0):OkP (plF f):=⟨fun k hk=>by have:=kb_f hc k hk;omega,by have:=fs_n h;omega,by have:=fs_z h;omega⟩
theorem fs_e (h:shF f=true) (hx:x.length<=40) (hy:y.length<=40):EvOk (plF f) (jh x) (jh y):=by
 unfold EvOk
 have h1:=fs_n h
 have h2:=fs_z h
 have h3:=sz_any hx
 have h4:=sz_any hy
 exact qc (J7 (show _<=14 by omega) (show _<=20000 by omega)) ah
theorem fs_d (h:shF f=true):DrOk (plF f):=by
 unfold DrOk
 have h1:=fs_n h
 have h2:=fs_z h
 exact qc (J7 (show _<=14 by omega) (show _<=3000 by omega)) ah
theorem fs_r (h:shF f=true) (hc:qF f=0):DvR (plF f):=⟨fun p hp=>by have:=fs_k hc p hp;omega,by have:=fs_n h;omega,fun p hp=>by have:=fs_s h p hp;omega⟩
theorem fy_r (h:qF f=0):vL eY f=vL eR (plF f):=by
 refine Wq (fun x=>DV.pv (.slice x)) ?_
 unfold plF
 rw[Kt]
 refine Xn fun t ht=>?_
 have:=txt_val (po_t h ht).1
 show [pS (bsO t.c),pI t.i,pI t.j]=[pS (bsO (txt (jh t.c).q)),pI t.i,pI t.j]
 rw[this]
theorem w26p (f:List Trm) (h:shF f=true):CKa 13 [vL eY f] (vI (qF f)):=
 w26 f eJ fun t ht=>by have:=(fs_l h).2 t ht;omega
theorem w28p (x y:Nb) (hx:x.length<=40) (hy:y.length<=40):CKa 15 [.pv (.agg [pS (bsO x),pS (bsO y)])] (vI (eachE q9 [x,y])):=w28 x y aa aa
theorem w22p (hp:qU) (f:List Trm) (x y:Nb) (h:shF f=true) (hx:x.length<=40) (hy:y.length<=40):CKa 9 [vL eY f,.pv (.agg [pS (bsO x),pS (bsO y)])] (.tup [vS (bsO (erL (qB [qF f,q9 x,q9 y]) (resT (evP (plF f) (jh x).q (jh y).q)))),vI (erE (qB [qF f,q9 x,q9 y]) (resE (evP (plF f) (jh x).q (jh y).q)))]):=
 w22 hp f x y eJ (fun t ht=>by have:=(fs_l h).2 t ht;omega) aa aa fun hc=>⟨fs_o h hc,fs_e h hx hy⟩
theorem w24p (hp:qU) (f:List Trm) (s:Nb) (h:shF f=true):CKa 11 [vL eY f,vS (bsO s)] (.tup [vL eY (erL (qB [qF f,je (!(axB s)) 13]) (polT (derP (axI s) (plF f)))),vI (erE (qB [qF f,je (!(axB s)) 13]) (polE (derP (axI s) (plF f))))]):=
 w24 hp f s eJ (fun t ht=>by have:=(fs_l h).2 t ht;omega) fun hc=>⟨fs_o h hc,fs_d h⟩
theorem w25p (hp:qU) (f:List Trm) (h:shF f=true):CKa 12 [vL eY f] (.tup [vL eY (erL (qF f) (polT (turP (plF f)))),vI (erE (qF f) (polE (turP (plF f))))]):=
 w25 hp f eJ (fun t ht=>by have:=(fs_l h).2 t ht;omega) fun hc=>⟨fs_o h hc,fs_d h⟩
theorem ff_e:qB [qF f,eachE q9 [x,y]]=qB [qF f,q9 x,q9 y]:=by
 by_cases h1:q9 x=0<;>by_cases h2:q9 y=0<;>simp[eachE,qB,h1,h2]
theorem ff_3 (h:qB [qF f,q9 x,q9 y]=0):qF f=0/\q9 x=0/\q9 y=0:=by
 rw[ff_0,ff_0,ff_0] at h;exact⟨h.1,h.2.1,h.2.2.1⟩
theorem w29y (h:shF f=true) (hx:x.length<=40) (hy:y.length<=40) (hc:qB [qF f,eachE q9 [x,y]]=0):CKa 16 [vL eY f,.pv (.agg [pS (bsO x),pS (bsO y)])] (vS (bsO (txt (evP (plF f) (jh x).q (jh y).q)))):=by
 rw[ff_e] at hc
 obtain⟨h1,h2,h3⟩:=ff_3 hc
 have g:=w29 (plF f) (jh x).q (jh y).q ⟨fs_r h h1,qc (sz_any hx) ah,qc (sz_any hy) ah⟩
 rw[txt_val h2,txt_val h3,<-fy_r h1] at g
 exact g
theorem ax_2 (h:axB s=true):s=[120]\/s=[121]:=by unfold axB at h;simpa using h
theorem ff_2 (h:qB [qF f,je (!(axB s)) 13]=0):qF f=0/\axB s=true:=by
 rw[ff_0,ff_0,wh_0 ah] at h
 exact⟨h.1,by simpa using h.2.1⟩
theorem w30y (h:shF f=true) (hc:qB [qF f,je (!(axB s)) 13]=0):CKa 17 [vL eY f,vS (bsO s)] (vL eR (nfP (derP (axI s) (plF f)))):=by
 obtain⟨h1,h2⟩:=ff_2 hc
 rw[fy_r h1]
 rcases ax_2 h2 with rfl|rfl
 ·exact w30x (plF f) (fs_r h h1)
 exact w30yy (plF f) (fs_r h h1)
theorem w31y (h:shF f=true) (hc:qF f=0):CKa 18 [vL eY f] (vL eR (nfP (turP (plF f)))):=by
 rw[fy_r hc];exact w31 (plF f) (fs_r h hc)
theorem nf_lg (P:PL):lgF 0 ((nfP P).map Prod.snd)=polE P:=by
 rw[lgF_0,Wx rfl]
 unfold polE polL nfP
 rw[Kt,List.any_map];rfl
theorem nf_can (P:PL):(nfP P).map trR=canT P:=by unfold nfP canT;rw[Kt];rfl
theorem ord_l (P:PL):(jd P).length<=561:=qc (QX _ _) (X3 ae)
theorem ms_l (e:Int) (P:PL):(erL e (polT P)).length<=1000000:=by
 unfold erL polT
 split
 ·exact zt _
 cases polL P
 ·show (canT P).length<=_;unfold canT;rw[zI];exact qc (ord_l P) ah
 exact zt _
theorem nfP_l:(nfP P).length<=1000000:=by unfold nfP;rw[zI];exact qc (ord_l _) ah
theorem nfP_t (hz:szP P<=1000000):∀ q∈List.map Prod.snd (nfP P),(txt q).length<=900000:=fun q hq=>by
 unfold nfP at hq
 rw[Kt] at hq
 obtain⟨k,_,rfl⟩:=zE.1 hq
 exact ar_t (qc (sz_cf P k) hz)
theorem sam_e:samB (erL E (polT P)) (erE E (polE P)) E (if E=0 then nfP P else [])=true:=by
 by_cases hE:E=0
 ·subst hE
  unfold samB erL erE
  rw[Wx rfl,nf_lg,Ww ao,Ww ao]
  unfold polE polT
  cases polL P
  ·simp[nf_can]
  simp
 unfold samB erL erE
 rw[Ww hE,Wx hE,Wx hE]
 simp[lgF]
theorem w19e (hz:E=0->szP P<=1000000) (hW:W=if E=0 then nfP P else []):CKa 20 [vL eY (erL E (polT P)),vI (erE E (polE P)),vI E,vL eR W] (vB true):=by
 have h:=w19 (erL E (polT P)) (erE E (polE P)) E W (ms_l _ _) (by rw[hW];split;exact nfP_l;exact zt _) (by rw[hW];split;exact nfP_t (hz ab);intro q hq;cases hq)
 rwa [hW,sam_e,<-hW] at h
theorem num_e:numB (erL E (resT v)) (erE E (resE v)) E (if E=0 then v else 0)=true:=by
 by_cases hE:E=0
 ·subst hE
  unfold numB erL erE resT resE
  rw[Wx rfl,lgF_0,Wx rfl,Ww ao,Ww ao]
  simp only[Ke,Ks,Bool.or_false]
  cases jF v<;>simp
 unfold numB erL erE
 rw[Ww hE,Wx hE,Wx hE,lgF_0,Ww hE,Wx hE];simp
theorem w32e (hz:E=0->sz v<=1000000) (hu:u=if E=0 then v else 0):CKa 19 [vS (bsO (erL E (resT v))),vI (erE E (resE v)),vI E,vS (bsO (txt u))] (vB true):=by
 have h:=w32 (erL E (resT v)) (erE E (resE v)) E u (ar_t (by rw[hu];split;exact hz ab;exact qc sz_0 ah))
 rwa [hu,num_e,<-hu] at h
theorem ev_sz1 (h:shF f=true) (hx:x.length<=40) (hy:y.length<=40) (hc:qF f=0):sz (evP (plF f) (jh x).q (jh y).q)<=1000000:=by
 have hV:VaR (plF f) (jh x).q (jh y).q:=⟨fs_r h hc,qc (sz_any hx) ah,qc (sz_any hy) ah⟩
 have:=vr_z hV (plF f).length (zB _)
 rw[Jd] at this
 have h1:=fs_n h
 have:(plF f).length*7501<=12*7501:=Xc _ h1
 omega
theorem w32v (h:shF f=true) (hx:x.length<=40) (hy:y.length<=40):CKa 19 [vS (bsO (erL (qB [qF f,q9 x,q9 y]) (resT (evP (plF f) (jh x).q (jh y).q)))),vI (erE (qB [qF f,q9 x,q9 y]) (resE (evP (plF f) (jh x).q (jh y).q))),vI (qB [qF f,eachE q9 [x,y]]),vS (bsO (txt (valV f x y)))] (vB true):=by
 rw[ff_e]
 exact w32e (fun e=>ev_sz1 h hx hy (ff_3 e).1) rfl
theorem der_z (h:shF f=true) (hc:qF f=0):szP (derP (axI s) (plF f))<=1000000:=by
 have:=dvr_z (k:=(plF f).length) (ax:=axI s) (fs_r h hc)
 rw[Jd] at this;omega
theorem tur_z2 (h:shF f=true):szP (turP (plF f))<=1000000:=by rw[szP_tur];have:=fs_z h;omega
theorem w19v (h:shF f=true):CKa 20 [vL eY (erL (qB [qF f,je (!(axB s)) 13]) (polT (derP (axI s) (plF f)))),vI (erE (qB [qF f,je (!(axB s)) 13]) (polE (derP (axI s) (plF f)))),vI (qB [qF f,je (!(axB s)) 13]),vL eR (derV f s)] (vB true):=w19e (fun e=>der_z h (ff_2 e).1) rfl
theorem w19w (h:shF f=true):CKa 20 [vL eY (erL (qF f) (polT (turP (plF f)))),vI (erE (qF f) (polE (turP (plF f)))),vI (qF f),vL eR (turV f)] (vB true):=w19e (fun _=>tur_z2 h) rfl
theorem vj_1 (h:(bif (bif decide (qF f=0) then decide (s≠[120]) else false) then decide (s≠[121]) else false)=true):qB [qF f,je (!(axB s)) 13]=13:=by
 obtain⟨h1,h2⟩:=qk_two h
 obtain⟨h3,h4⟩:=qk_two h1
 have e3:=X3 h3
 unfold axB
 rw[qB,Wx e3,zk (X3 h4),zk (X3 h2)];rfl
theorem vj_2 (h:(bif (bif decide (qF f=0) then decide (s≠[120]) else false) then decide (s≠[121]) else false)=false):qB [qF f,je (!(axB s)) 13]=qF f:=by
 by_cases h0:qF f=0
 ·unfold axB
  by_cases h1:s=[120]
  ·simp[qB,je,h0,h1]
  by_cases h2:s=[121]
  ·simp[qB,je,h0,h2]
  simp[h0,h1,h2] at h
 rw[qB,Ww h0]
theorem vj_3 (h:qB [qF f,eachE q9 [x,y]]=0):valV f x y=evP (plF f) (jh x).q (jh y).q:=Wx (by rw[<-ff_e];exact h)
theorem vj_4 (h:¬qB [qF f,eachE q9 [x,y]]=0):txt (valV f x y)=[48]:=by
 unfold valV
 rw[Ww (by rw[<-ff_e];exact h)];exact tz_0
theorem vj_5 (h:qB [qF f,je (!(axB s)) 13]=0):derV f s=nfP (derP (axI s) (plF f)):=Wx h
theorem vj_6 (h:¬qB [qF f,je (!(axB s)) 13]=0):derV f s=[]:=Ww h
theorem vj_7 (h:qF f=0):turV f=nfP (turP (plF f)):=Wx h
theorem vj_8 (h:¬qF f=0):turV f=[]:=Ww h
end
theorem w4 (hp:qU) (hf:jq) (f:List Trm) (x y s:Nb) (hlf:f.length<=4611686018427387904):CKa 3 [vL eY f,.pv (.agg [pS (bsO x),pS (bsO y)]),vS (bsO s)] (vB true):=by
 refine cL 10 [] qf3 Z (nB Z) Z Z (kc (C Z (w21 f hlf) Z Z Z (Eg Z Z (fun hc=>B.fadB Z fa25_0 Z) Z (Eg Z Z (fun hc=>B.loadB (qr Z hc) Z Z ag23 sz23 Z) Z (Eg Z Z (fun hc=>B.Zu (a:=x) (qr Z hc) un23) Z (Eg Z Z (fun hc=>B.gtr (qr Z hc) Z) Z (E Z (B.pick Z Z Z Z (gdB Z) (pick_or _)) (Eg Z Z (fun hc=>B.fadB Z fa25_1 Z) Z (Eg Z Z (fun hc=>B.loadB (qr Z hc) Z Z ag23 sz23 Z) Z (Eg Z Z (fun hc=>B.Zu (a:=y) (qr Z hc) un23) Z (Eg Z Z (fun hc=>B.gtr (qr Z hc) Z) Z (E Z (B.pick Z Z Z Z (gdB Z) (pick_or _)) (Cb Z Z (fun h1=>?_) (fun h1=>?_))))))))))))))
 ·refine C Z (w20 hp hf) Z Z Z ?_
  refine Rt Z ?_
  exact leafL (val0:=vB true) (out0:=[]) (.inr Z) ae (by first|rfl|exact lb Z) rfl
 obtain⟨hsf,hsx,hsy⟩:=vs_h ab;have hlf:=fs_m hsf
 refine C Z (w23 f hlf) Z Z Z (C Z (w22p hp f x y hsf hsx hsy) Z Z Z (Dr Z ae (C Z (w23 f hlf) Z Z Z (C Z (w24p hp f s hsf) Z Z Z (C Z (w23 f hlf) Z Z Z (C Z (w25p hp f hsf) Z Z Z (C Z (w26p f hsf) Z Z Z (C Z (w28p x y hsx hsy) Z Z Z (E Z (B.runZ (val:=.pv (.slice (List.map eI [(qF f),(eachE q9 [x,y])]))) (val0:=.aref 70 0) (m0:=[(70,.arr 0 1 3 [[pI (qF f)],[pI (eachE q9 [x,y])]])]) (rd:=[]) ae (fun l=>Frz.arr l _ _ _ _ _) Z) (C Z (w27 [(qF f),(eachE q9 [x,y])] (nB Z)) Z Z Z (Eg Z Z (fun hc=>B.move Z) Z (Eg Z Z (fun hc=>B.sneB (a:=s) (b:=[120]) (qr Z hc) Z) Z (E Z (B.pick Z Z Z (gdB Z) Z (pick_and _)) ?_)))))))))))))
 refine Eg Z Z (fun hc=>B.move Z) Z (Eg Z Z (fun hc=>B.sneB (a:=s) (b:=[121]) (qr Z hc) Z) Z (E Z (B.pick Z Z Z (gdB Z) Z (pick_and _)) (Cj [(0,vL eY f),(2,vS (bsO s)),(4,.bref 14 0),(7,vS (bsO (erL (qB [(qF f),(q9 x),(q9 y)]) (resT (evP (plF f) (jh x).q (jh y).q))))),(8,vI (erE (qB [(qF f),(q9 x),(q9 y)]) (resE (evP (plF f) (jh x).q (jh y).q)))),(9,vL eY (erL (qB [qF f,je (!(axB s)) 13]) (polT (derP (axI s) (plF f))))),(10,vI (erE (qB [qF f,je (!(axB s)) 13]) (polE (derP (axI s) (plF f))))),(11,vL eY (erL (qF f) (polT (turP (plF f))))),(12,vI (erE (qF f) (polE (turP (plF f))))),(13,vI (qF f)),(14,vI (qB [(qF f),(eachE q9 [x,y])])),(15,vI (qB [qF f,je (!(axB s)) 13]))] [(14,.box 25 [vS (bsO x),vS (bsO y)])] Z Z Z (fun h2=>?_) (fun h2=>?_) ?_)))
 ·refine pk Z ?_
  show Sub _ _ _
  first|rw[vj_1 ab]|rw[vj_2 ab]
  exact sb Z Z rfl
 ·refine pk Z ?_
  show Sub _ _ _
  first|rw[vj_1 ab]|rw[vj_2 ab]
  exact sb Z Z rfl
 refine Cj [(0,vL eY f),(2,vS (bsO s)),(7,vS (bsO (erL (qB [(qF f),(q9 x),(q9 y)]) (resT (evP (plF f) (jh x).q (jh y).q))))),(8,vI (erE (qB [(qF f),(q9 x),(q9 y)]) (resE (evP (plF f) (jh x).q (jh y).q)))),(9,vL eY (erL (qB [qF f,je (!(axB s)) 13]) (polT (derP (axI s) (plF f))))),(10,vI (erE (qB [qF f,je (!(axB s)) 13]) (polE (derP (axI s) (plF f))))),(11,vL eY (erL (qF f) (polT (turP (plF f))))),(12,vI (erE (qF f) (polE (turP (plF f))))),(13,vI (qF f)),(14,vI (qB [(qF f),(eachE q9 [x,y])])),(15,vI (qB [qF f,je (!(axB s)) 13])),(16,vS (bsO (txt (valV f x y))))] [] Z Z Z (fun h3=>?_) (fun h3=>?_) ?_
 ·replace h3:=X3 h3
  refine C Z (w29y hsf hsx hsy ab) Z Z Z (pk Z ?_)
  show Sub _ _ _
  first|rw[vj_3 ab]|rw[vj_4 ab]
  exact sb Z Z rfl
 ·replace h3:=XJ h3
  refine pk Z ?_
  show Sub _ _ _
  first|rw[vj_3 ab]|rw[vj_4 ab]
  exact sb Z Z rfl
 refine E Z (B.ZX (enc:=eY) Z) (E Z (B.ZX (enc:=eY) Z) (Cj [(0,vL eY f),(7,vS (bsO (erL (qB [(qF f),(q9 x),(q9 y)]) (resT (evP (plF f) (jh x).q (jh y).q))))),(8,vI (erE (qB [(qF f),(q9 x),(q9 y)]) (resE (evP (plF f) (jh x).q (jh y).q)))),(9,vL eY (erL (qB [qF f,je (!(axB s)) 13]) (polT (derP (axI s) (plF f))))),(10,vI (erE (qB [qF f,je (!(axB s)) 13]) (polE (derP (axI s) (plF f))))),(11,vL eY (erL (qF f) (polT (turP (plF f))))),(12,vI (erE (qF f) (polE (turP (plF f))))),(13,vI (qF f)),(14,vI (qB [(qF f),(eachE q9 [x,y])])),(15,vI (qB [qF f,je (!(axB s)) 13])),(16,vS (bsO (txt (valV f x y)))),(17,vL eR (derV f s)),(18,vL eY [])] [] Z Z Z (fun h4=>?_) (fun h4=>?_) ?_))
 ·replace h4:=X3 h4
  refine C Z (w30y hsf ab) Z Z Z (pk Z ?_)
  show Sub _ _ _
  first|rw[vj_5 ab]|rw[vj_6 ab]
  exact sb Z Z rfl
 ·replace h4:=XJ h4
  refine pk Z ?_
  show Sub _ _ _
  first|rw[vj_5 ab]|rw[vj_6 ab]
  exact sb Z Z rfl
 refine Cj [(7,vS (bsO (erL (qB [(qF f),(q9 x),(q9 y)]) (resT (evP (plF f) (jh x).q (jh y).q))))),(8,vI (erE (qB [(qF f),(q9 x),(q9 y)]) (resE (evP (plF f) (jh x).q (jh y).q)))),(9,vL eY (erL (qB [qF f,je (!(axB s)) 13]) (polT (derP (axI s) (plF f))))),(10,vI (erE (qB [qF f,je (!(axB s)) 13]) (polE (derP (axI s) (plF f))))),(11,vL eY (erL (qF f) (polT (turP (plF f))))),(12,vI (erE (qF f) (polE (turP (plF f))))),(13,vI (qF f)),(14,vI (qB [(qF f),(eachE q9 [x,y])])),(15,vI (qB [qF f,je (!(axB s)) 13])),(16,vS (bsO (txt (valV f x y)))),(17,vL eR (derV f s)),(18,vL eR (turV f))] [] Z Z Z (fun h5=>?_) (fun h5=>?_) ?_
 ·replace h5:=X3 h5
  refine C Z (w31y hsf ab) Z Z Z (pk Z ?_)
  show Sub _ _ _
  first|rw[vj_7 ab]|rw[vj_8 ab]
  exact sb Z Z rfl
 ·replace h5:=XJ h5
  refine pk Z ?_
  show Sub _ _ _
  first|rw[vj_7 ab]|rw[vj_8 ab]
  exact sb Z Z rfl
 refine C Z (w32v hsf hsx hsy) Z Z Z (Et Z Z (B.move Z) (Et Z Z (B.move Z) (Et Z Z (B.move Z) (Et Z Z (B.move Z) (Et Z Z (B.call (w19v hsf) Z Z Z) (E Z (B.pick Z Z Z Z Z (pick_tt _)) (Eg Z Z (fun hc=>B.move Z) Z (Eg Z Z (fun hc=>B.move Z) Z (Eg Z Z (fun hc=>B.move Z) Z (Eg Z Z (fun hc=>B.move Z) Z (Eg Z Z (fun hc=>B.call (w19w hsf) Z (ds4 (qr Z hc) (qr Z hc) (qr Z hc) (qr Z hc)) Z) Z (E Z (B.pick Z Z Z (gdB Z) Z (pick_and _)) (Eg Z Z (fun hc=>B.call (w20 hp hf) Z Z Z) Z ?_)))))))))))))
 refine E Z (B.pick Z Z Z (gdB Z) Z (pick_and _)) ?_
 refine Rt Z ?_
 exact leafL (val0:=vB (bif (bif (bif true then true else false) then true else false) then true else false)) (out0:=[]) (.inr Z) ae (by first|rfl|exact lb Z) rfl
end Go.Lens.Tb
end
