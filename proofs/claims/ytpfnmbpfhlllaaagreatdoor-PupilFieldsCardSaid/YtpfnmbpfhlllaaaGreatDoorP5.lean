/- A part of the proof of PupilFieldsCardSaid, without conditions. -/
import Derived.Test.YtpfnmbpfhlllaaaGreatDoorP4
import Derived.Test.YtpfnmbpfhlllaaaGreatDoorP3
import Derived.Shelf.Strings.SlTrimAscii
import Derived.Test.YtpfnmbpfhlllaaaGreatDoorProg
import Derived.Lib.SlTrimSet
import Derived.Lib.Bytealg
import Derived.Shelf.SlGeneric
import Derived.Shelf.SlSortCmp.WholeK
import Derived.Ground.SlsfProg
import Derived.Shelf.SlMaps.Clone
import Derived.Ground.SlmcProg
set_option linter.unusedVariables false
set_option linter.unusedSimpArgs false
set_option linter.unusedSectionVars false
set_option maxRecDepth 100000
set_option maxHeartbeats 4000000
open Int (natAbs toNat)
open Prod (fst snd)
open List (replicate take drop)
open Nat (gcd)
open Go.Proofs.Tryz (prog)
open Go.Lib (decDigits indexByte)
section
namespace Go.Lens.Tb
open Go.Proofs Go.Lens.Un
variable [Lz]
section
variable {P:Program} {Y:Tab} [qH P Y] {nb:Nat} {s:St} {dst:Option Tmp} {ty u:TypeId} {pos:String} {af:Array Edge} {gd:Option (Nat×Bool)} {t:TypeId} {x y:Operand}
theorem B.nwN {N:NI} {e:TypeId} (hx:ev1 s x=.pv (nW N)) (hy:ev1 s y=.nils) (hN:okI N) (und:Y.underlying t=some (.slice e)):Body P Y nb s ⟨dst,.binOp .eql t x y u,ty,pos,af,gd⟩ (lit (.bool (!N.2))) [] []:=by
 refine B.pure (lo:=0) (nm:=0) (kn P) ?_ ?_
 ·intro z hz
  have:z=x\/z=y:=by simpa [Op.operands] using hz
  rcases this with rfl|rfl
  ·rw[hx];rfl
  rw[hy];rfl
 have h3:isNilS (qr []) (.pv (nW N))=some (!N.2):=by
  obtain⟨z,b⟩:=N
  cases b
  ·rfl
  obtain⟨d,ds,hd⟩:=jq (z:=z) hN
  rw[nW_b hd];rfl
 show binF Y .eql t (qr []) (Z2 y) (evU (tmpsOf [x,y]) s x) (evU (tmpsOf [x,y]) s y)=_
 rw[qR ao,qR ao,hx,hy,binF_eq]
 show qE (sliceNilQ Y .eql t (qr []) (.pv (nW N)))=_
 unfold sliceNilQ
 rw[und,h3];rfl
end
attribute [local irreducible] TK PK T RG EfR Body CG
def Qn.ofZ (z:Int) (h:R64 z):Qn:=Qn.whole (ofI z) (ofI_ok (by unfold R64 at h;omega))
theorem Qn.ofZ_q {z:Int} (h:R64 z):(Qn.ofZ z h).q=(z:Rat):=Qn.whole_q _
def frZ:Qn:=Qn.ofZ 0 bg
theorem fi_ok {z:Int} (h:R64 z): -9223372036854775808<=z/\z<=9223372036854775807:=by unfold R64 at h;omega
def cmpQ2 (p q:Rat):Int:=if p<q then -1 else if p=q then 0 else 1
section
variable {x y X Y:NI}
theorem mk_f0 (hx:okI x) (hy:okI y) (hxl:(dig B64 x.1.natAbs).length<=400000) (hyl:(dig B64 y.1.natAbs).length<=400000) (h0:y.1≠0):∃ X Y,X=mkX x y/\Y=mkY y/\okI X/\okI Y/\(dig B64 X.1.natAbs).length<=400000/\(dig B64 Y.1.natAbs).length<=400000/\Y.1≠0:=by
 refine⟨_,_,rfl,rfl,?_,?_,?_,?_,?_⟩
 ·unfold mkX;split;exact ZA hx;exact hx
 ·unfold mkY;split;exact ZA hy;exact hy
 ·grind [mkX,kS,Int.natAbs_neg]
 ·grind [mkY,kS,Int.natAbs_neg]
 grind [mkY,kS]
theorem mk_x1 (hX:X=mkX x y) (hY:Y=mkY y) (h:j8 y.1<0):X=negI x/\Y=negI y:=by subst hX hY;unfold mkX mkY;rw[WK (Zy.1 h),WK (Zy.1 h)];exact⟨rfl,rfl⟩
theorem mk_x2 (hX:X=mkX x y) (hY:Y=mkY y) (h:¬j8 y.1<0):X=x/\Y=y:=by subst hX hY;unfold mkX mkY;rw[WJ (fun g=>h (Zy.2 g)),WJ (fun g=>h (Zy.2 g))];exact⟨rfl,rfl⟩
theorem mk_gl (h:(dig B64 Y.1.natAbs).length<=400000) (h0:Y.1≠0):(dig B64 (mkG X Y).1.natAbs).length<=400000:=by
 show (dig B64 ((gcd X.1.natAbs Y.1.natAbs:Nat):Int).natAbs).length<=400000
 rw[XA]
 exact qd (dv_len (Km aa (X0 ..))) h
theorem mk_g0 (h0:Y.1≠0):(mkG X Y).1≠0:=by
 show ((gcd X.1.natAbs Y.1.natAbs:Nat):Int)≠0
 have:=QN X.1.natAbs (show 0<Y.1.natAbs by omega)
 omega
theorem one_nH {y:NI}:(bif (!(y.2)) then decide (nH y=1) else false)=one1 y:=by
 obtain⟨z,b⟩:=y
 cases b<;>rfl
theorem mk_l1 {hx:okI x} {hy:okI y} {h0:y.1≠0} (hX:X=mkX x y) (hY:Y=mkY y) (h:(bif (!(Y.2)) then decide (nH Y=1) else false)=true):(DV.pv (.agg [pI (nH X),nW X,pI (nH Y),nW Y]))=.pv (.agg [pI (nH (Qn.make x y hx hy h0).n),nW (Qn.make x y hx hy h0).n,pI (nH (Qn.make x y hx hy h0).d),nW (Qn.make x y hx hy h0).d]):=by
 rw[one_nH] at h
 subst hX hY
 have e1:(Qn.make x y hx hy h0).n=mkX x y:=by show mkNum x y=_;unfold mkNum;rw[h];rfl
 have e2:(Qn.make x y hx hy h0).d=mkY y:=by show mkDen x y=_;unfold mkDen;rw[h];rfl
 rw[e1,e2]
theorem mk_l2 {hx:okI x} {hy:okI y} {h0:y.1≠0} (hX:X=mkX x y) (hY:Y=mkY y) (h:(bif (!(Y.2)) then decide (nH Y=1) else false)=false):(DV.pv (.agg [pI (nH (quoI X (mkG X Y))),nW (quoI X (mkG X Y)),pI (nH (quoI Y (mkG X Y))),nW (quoI Y (mkG X Y))]))=.pv (.agg [pI (nH (Qn.make x y hx hy h0).n),nW (Qn.make x y hx hy h0).n,pI (nH (Qn.make x y hx hy h0).d),nW (Qn.make x y hx hy h0).d]):=by
 rw[one_nH] at h
 subst hX hY
 have e1:(Qn.make x y hx hy h0).n=quoI (mkX x y) (mkG (mkX x y) (mkY y)):=by show mkNum x y=_;unfold mkNum;rw[h];rfl
 have e2:(Qn.make x y hx hy h0).d=quoI (mkY y) (mkG (mkX x y) (mkY y)):=by show mkDen x y=_;unfold mkDen;rw[h];rfl
 rw[e1,e2]
end
section
variable {x y:Qn}
theorem f_nl (hs:sz x.q<=20000000):(dig B64 x.n.1.natAbs).length<=400000:=ln_of (by have:=x.bn;omega)
theorem f_dl (hs:sz x.q<=20000000):(dig B64 x.d.1.natAbs).length<=400000:=ln_of (by have:=x.bd;omega)
theorem f_one:vB (bif (!(x.d.2)) then decide (nH x.d=1) else false)=vB (one1 x.d):=by rw[one_nH]
theorem f_lnx (hs:sz x.q+sz y.q<=20000000):(dig B64 x.n.1.natAbs).length<=400000:=f_nl aa
theorem f_ldx (hs:sz x.q+sz y.q<=20000000):(dig B64 x.d.1.natAbs).length<=400000:=f_dl aa
theorem f_lny (hs:sz x.q+sz y.q<=20000000):(dig B64 y.n.1.natAbs).length<=400000:=f_nl aa
theorem f_ldy (hs:sz x.q+sz y.q<=20000000):(dig B64 y.d.1.natAbs).length<=400000:=f_dl aa
theorem f_b {a b:NI} {A B:Nat} (ha:q9 a.1.natAbs<=A) (hb:q9 b.1.natAbs<=B):q9 (kD a b).1.natAbs<=A+B:=by
 rw[mulI_1,JW]
 exact qd (bl_mul _ _) (J9 ha hb)
theorem f_m1 (hs:sz x.q+sz y.q<=20000000):(dig B64 (kD x.n y.d).1.natAbs).length<=400000:=ln_of (qd (f_b x.bn y.bd) aa)
theorem f_m2 (hs:sz x.q+sz y.q<=20000000):(dig B64 (kD y.n x.d).1.natAbs).length<=400000:=ln_of (qd (f_b y.bn x.bd) aa)
theorem f_m3 (hs:sz x.q+sz y.q<=20000000):(dig B64 (kD x.d y.d).1.natAbs).length<=400000:=ln_of (qd (f_b x.bd y.bd) aa)
theorem f_m5 (hs:sz x.q+sz y.q<=20000000):(dig B64 (kD x.n y.n).1.natAbs).length<=400000:=ln_of (qd (f_b x.bn y.bn) aa)
theorem f_m4 (hs:sz x.q+sz y.q<=20000000):(dig B64 (addI (kD x.n y.d) (kD y.n x.d)).1.natAbs).length<=400000:=by
 refine ln_of ?_
 rw[addI_1]
 refine qd (bl_mono (XS _ _)) (qd (bl_add (f_b x.bn y.bd) ?_) aa)
 have:=f_b y.bn x.bd
 omega
theorem f_a1 (h:(bif (one1 x.d) then (one1 y.d) else false)=true):(DV.pv (.agg [pI (nH (Qn.whole (addI x.n y.n) (kM _ _)).n),nW (Qn.whole (addI x.n y.n) (kM _ _)).n,pI (nH (Qn.whole (addI x.n y.n) (kM _ _)).d),nW (Qn.whole (addI x.n y.n) (kM _ _)).d]))=.pv (.agg [pI (nH (x.add y).n),nW (x.add y).n,pI (nH (x.add y).d),nW (x.add y).d]):=by
 have h:(one1 x.d&&one1 y.d)=true:=by rw[<-h];cases one1 x.d<;>rfl
 grind [Qn.add]
theorem f_a2 {hp:(kD x.d y.d).1≠0} (h:(bif (one1 x.d) then (one1 y.d) else false)=false):(DV.pv (.agg [pI (nH (Qn.make (addI (kD x.n y.d) (kD y.n x.d)) (kD x.d y.d) (kM _ _) (km _ _) hp).n),nW (Qn.make (addI (kD x.n y.d) (kD y.n x.d)) (kD x.d y.d) (kM _ _) (km _ _) hp).n,pI (nH (Qn.make (addI (kD x.n y.d) (kD y.n x.d)) (kD x.d y.d) (kM _ _) (km _ _) hp).d),nW (Qn.make (addI (kD x.n y.d) (kD y.n x.d)) (kD x.d y.d) (kM _ _) (km _ _) hp).d]))=.pv (.agg [pI (nH (x.add y).n),nW (x.add y).n,pI (nH (x.add y).d),nW (x.add y).d]):=by
 have h:¬(one1 x.d&&one1 y.d)=true:=by grind
 grind [Qn.add]
theorem f_iv (h:y.q≠0) (hs:sz x.q+sz y.q<=20000000):sz x.q+sz (y.inv h).q<=20000000:=by
 rw[Qn.inv_q]
 have:=sz_inv y.q
 omega
theorem f_cmp:vI (j8 ((kD x.n y.d).1-(kD y.n x.d).1))=vI (cmpQ2 x.q y.q):=by
 have e1:(x.q<y.q)↔x.n.1*y.d.1<y.n.1*x.d.1:=by rw[Rat.lt_iff,Qn.q_num,Qn.q_num,Qn.q_den,Qn.q_den]
 have e2:(x.q=y.q)↔x.n.1*y.d.1=y.n.1*x.d.1:=by
  have h1:=x.d_ne
  have h2:=y.d_ne
  rw[Qn.q_div,Qn.q_div,<-Rat.intCast_inj,JR,JR]
  grind
 unfold cmpQ2 j8
 rw[mulI_1,mulI_1]
 by_cases g:x.q<y.q
 ·rw[WK g,WK (by have:=e1.1 g;omega)]
 rw[WJ g,WJ (fun k=>g (e1.2 aa))]
 by_cases k:x.q=y.q
 ·rw[WK k,WK (by have:=e2.1 k;omega)]
 rw[WJ k,WJ (fun l=>k (e2.2 aa))]
end
theorem ag99:aggT tab 99=some true:=ae
theorem fa99_1:fadQ tab 99 1=some 2:=ae
theorem sz99:szT tab 99=some 4:=ae
theorem w179 (x y:NI) (hx:okI x) (hy:okI y) (hxl:(dig B64 (natAbs x.1)).length<=400000) (hyl:(dig B64 (natAbs y.1)).length<=400000) (h0:y.1≠0):CKa 132 [nV x,nV y] (qV (Qn.make x y hx hy h0)):=by
 refine cG qf132 Z (nB Z) Z (E Z (B.bZ Z Z) ?_)
 obtain⟨X,Y,heX,heY,hX,hY,hXl,hYl,hY0⟩:=mk_f0 hx hy hxl hyl h0
 refine C Z (w212 y hy aa) Z Z Z (Cj [(2,.bref 3 0),(3,.bref 4 0),(4,.bref 5 0)] [(3,.box 97 (bI X)),(4,.box 97 (bI Y)),(5,.box 99 [vI 0,.pv (nilP),vI 0,.pv (nilP)])] Z Z Z (fun h1=>?_) (fun h1=>?_) ?_)
 ·replace h1:=X6 h1
  refine C Z (w192 x hx hxl) Z Z Z (C Z (w192 y hy hyl) Z Z Z (Dr Z ae (pk Z ?_)))
  show Sub _ _ _
  first|(rw[(mk_x1 heX heY ab).1,(mk_x1 heX heY ab).2])|(rw[(mk_x2 heX heY ab).1,(mk_x2 heX heY ab).2])
  exact sb Z Z rfl
 ·replace h1:=XM h1
  refine pk Z ?_
  show Sub _ _ _
  first|(rw[(mk_x1 heX heY ab).1,(mk_x1 heX heY ab).2])|(rw[(mk_x2 heX heY ab).1,(mk_x2 heX heY ab).2])
  exact sb Z Z rfl
 refine E Z (B.nwN Z Z ab jg) (Eg Z Z (fun hc=>B.fadB Z fa97_0 Z) Z (Eg Z Z (fun hc=>B.loadB (qu Z hc) Z Z ag3 sz3 Z) Z (Eg Z Z (fun hc=>B.eql (qu Z hc) Z) Z (E Z (B.pA Z Z Z Z Z) (Cb Z Z (fun h2=>?_) (fun h2=>?_))))))
 ·exact E Z (B.run (val:=.pv (.agg [pI (nH X),(nW X),pI (nH Y),(nW Y)])) (m:=[]) (rd:=[]) ae) (Rt Z (lF Z ch))
 have hGl:=mk_gl (X:=X) hYl hY0
 have hG0:=mk_g0 (X:=X) hY0
 exact C Z (w188 X Y hX hY hXl hYl) Z Z Z (E Z (B.bZ Z Z) (C Z (w230 X (mkG X Y) hX (jN _) hXl hGl hG0) Z Z Z (C Z (w230 Y (mkG X Y) hY (jN _) hYl hGl hG0) Z Z Z (E Z (B.run (val:=.pv (.agg [pI (nH (quoI X (mkG X Y))),(nW (quoI X (mkG X Y))),pI (nH (quoI Y (mkG X Y))),(nW (quoI Y (mkG X Y)))])) (m:=[]) (rd:=[]) ae) (Dr Z ae (Rt Z (lF Z ch)))))))
theorem w176 (n:NI) (h:okI n):CKa 120 [nV n] (qV (Qn.whole n h)):=by
 exact cG qf120 Z (nB Z) Z (E Z (B.bZ Z Z) (C Z (w177 1) Z Z Z (E Z (B.run (val:=.pv (.agg [pI (nH n),(nW n),pI (nH (ofI 1)),(nW (ofI 1))])) (m:=[]) (rd:=[]) ae) (Dr Z ae (Rt Z (lF Z bx))))))
theorem w100 (z:Int) (h:R64 z):CKa 69 [vI z] (qV (Qn.ofZ z h)):=by
 exact cG qf69 Z (nB Z) Z (E Z (B.bZ Z Z) (C Z (w177 z) Z Z Z (C Z (w176 (ofI z) (ofI_ok (fi_ok h))) Z Z Z (Rt Z (lF Z bx)))))
theorem w145 (x:Qn) (hs:sz (Qn.q x)<=20000000):CKa 96 [qV x] (vI (j8 x.q.num)):=by
 exact cG qf96 Z (nB Z) Z (C Z (w212 (Qn.n x) x.hn (qd (f_nl hs) ah)) Z Z Z (Rt Z (lF Z bx)))
theorem w197 (x:Qn):CKa 130 [qV x] (vB (one1 (Qn.d x))):=by
 exact cG qf130 Z (nB Z) Z (E Z (B.nwN Z Z x.hd jg) (Eg Z Z (fun hc=>B.fadB Z fa99_1 Z) Z (Eg Z Z (fun hc=>B.fadB (qu Z hc) fa97_0 Z) Z (Eg Z Z (fun hc=>B.loadB (qu Z hc) Z Z ag3 sz3 Z) Z (Eg Z Z (fun hc=>B.eql (qu Z hc) Z) Z (E Z (B.pA Z Z Z Z Z) (Rt Z (lF Z (by exact f_one)))))))))
theorem w118 (x:Qn) (hs:sz (Qn.q x)<=20000000):CKa 57 [qV x] (qV (Qn.neg x)):=by
 exact cG qf57 Z (nB Z) Z (E Z (B.bZ Z Z) (C Z (w192 (Qn.n x) x.hn (f_nl hs)) Z Z Z (E Z (B.run (val:=.pv (.agg [pI (nH (negI (Qn.n x))),(nW (negI (Qn.n x))),pI (nH (Qn.d x)),(nW (Qn.d x))])) (m:=[]) (rd:=[]) ae) (Dr Z ae (Rt Z (lF Z bx))))))
theorem w125 (x y:Qn) (hs:sz (Qn.q x)+sz (Qn.q y)<=20000000):CKa 71 [qV x,qV y] (qV (Qn.add x y)):=by
 refine cG qf71 Z (nB Z) Z (E Z (B.bZ Z Z) (C Z (w197 x) Z Z Z (Eg Z Z (fun hc=>B.loadBA Z Z Z ag99 sz99 Z Z) Z (Eg Z Z (fun hc=>B.call (w197 y) Z (ds1 (qu Z hc)) Z) Z (E Z (B.pA Z Z Z Z Z) (Cb Z Z (fun h1=>?_) (fun h1=>?_)))))))
 ·exact C Z (w198 (Qn.n x) (Qn.n y) x.hn y.hn (f_lnx hs) (f_lny hs)) Z Z Z (C Z (w176 (addI (Qn.n x) (Qn.n y)) (kM _ _)) Z Z Z (Rt Z (lF Z ci)))
 exact C Z (w199 (Qn.n x) (Qn.d y) x.hn y.hd (f_lnx hs) (f_ldy hs)) Z Z Z (C Z (w199 (Qn.n y) (Qn.d x) y.hn x.hd (f_lny hs) (f_ldx hs)) Z Z Z (C Z (w198 (kD (Qn.n x) (Qn.d y)) (kD (Qn.n y) (Qn.d x)) (km _ _) (km _ _) (f_m1 hs) (f_m2 hs)) Z Z Z (C Z (w199 (Qn.d x) (Qn.d y) x.hd y.hd (f_ldx hs) (f_ldy hs)) Z Z Z (C Z (w179 (addI (kD (Qn.n x) (Qn.d y)) (kD (Qn.n y) (Qn.d x))) (kD (Qn.d x) (Qn.d y)) (kM _ _) (km _ _) (f_m4 hs) (f_m3 hs) (Ks (K6 x.pos y.pos))) Z Z Z (Dr Z ae (Rt Z (lF Z ci)))))))
theorem w126 (x y:Qn) (hs:sz (Qn.q x)+sz (Qn.q y)<=20000000):CKa 72 [qV x,qV y] (qV (Qn.mul x y)):=by
 exact cG qf72 Z (nB Z) Z (E Z (B.bZ Z Z) (C Z (w199 (Qn.n x) (Qn.n y) x.hn y.hn (f_lnx hs) (f_lny hs)) Z Z Z (C Z (w199 (Qn.d x) (Qn.d y) x.hd y.hd (f_ldx hs) (f_ldy hs)) Z Z Z (C Z (w179 (kD (Qn.n x) (Qn.n y)) (kD (Qn.d x) (Qn.d y)) (km _ _) (km _ _) (f_m5 hs) (f_m3 hs) (Ks (K6 x.pos y.pos))) Z Z Z (Dr Z ae (Rt Z (lF Z bx)))))))
theorem w200 (x:Qn) (hs:sz (Qn.q x)<=20000000) (h:x.q≠0):CKa 134 [qV x] (qV (Qn.inv x h)):=by
 exact cG qf134 Z (nB Z) Z (E Z (B.bZ Z Z) (C Z (w179 (Qn.d x) (Qn.n x) x.hd x.hn (f_dl hs) (f_nl hs) (Qn.n_ne h)) Z Z Z (Rt Z (lF Z bx))))
theorem w128 (x y:Qn) (hs:sz (Qn.q x)+sz (Qn.q y)<=20000000) (h:y.q≠0):CKa 74 [qV x,qV y] (qV (Qn.div x y h)):=by
 exact cG qf74 Z (nB Z) Z (E Z (B.bZ Z Z) (C Z (w200 y aa h) Z Z Z (C Z (w126 x (Qn.inv y h) (f_iv h hs)) Z Z Z (Dr Z ae (Rt Z (lF Z bx))))))
theorem w166 (x y:Qn) (hs:sz (Qn.q x)+sz (Qn.q y)<=20000000):CKa 157 [qV x,qV y] (vI (cmpQ2 x.q y.q)):=by
 exact cG qf157 Z (nB Z) Z (C Z (w199 (Qn.n x) (Qn.d y) x.hn y.hd (f_lnx hs) (f_ldy hs)) Z Z Z (C Z (w199 (Qn.n y) (Qn.d x) y.hn x.hd (f_lny hs) (f_ldx hs)) Z Z Z (C Z (w190 (kD (Qn.n x) (Qn.d y)) (kD (Qn.n y) (Qn.d x)) (km _ _) (km _ _) (f_m1 hs) (f_m2 hs)) Z Z Z (Dr Z ae (Rt Z (lF Z (by exact f_cmp)))))))
theorem w210 (x y:Qn) (hs:sz (Qn.q x)+sz (Qn.q y)<=20000000):CKa 163 [qV x,qV y] (qV (Qn.sub x y)):=by
 exact cG qf163 Z (nB Z) Z (E Z (B.bZ Z Z) (C Z (w118 y aa) Z Z Z (C Z (w125 x (Qn.neg y) (by rw[Qn.neg_q,sz_neg];exact hs)) Z Z Z (Dr Z ae (Rt Z (lF Z bx))))))
end Go.Lens.Tb
end
section
namespace Go.Lens.Tb
open Go.Proofs Go.Lens.Un
variable [Lz]
attribute [local irreducible] TK PK T RG EfR Body CG
def txt (q:Rat):Nb:=Lib.itoa q.num++(if q.den=1 then [] else 47::decDigits q.den)
def longN (n:Nat):Bool:=decide (600<(decDigits n).length)
def jk (q:Rat):Bool:=longN q.num.natAbs||longN q.den
theorem dec_bl (n:Nat):(decDigits n).length<=q9 n+1:=dec_len aa (XJ (kw n) (qd (Xx (show 2<=10 by decide) _) (Xj ah aa)))
theorem it_bl (z:Int):(Lib.itoa z).length<=q9 z.natAbs+2:=by
 unfold Lib.itoa
 split
 ·have:=dec_bl z.natAbs
  rw[zb];omega
 rw[show z.toNat=z.natAbs by omega]
 have:=dec_bl z.natAbs
 omega
section
variable {x:Qn} {k:Nat}
theorem pw_a {n s:Nat} (hb:q9 n<=s) (h:(k+1)*(s+64)<=20000000):(dig B64 n).length<=400000/\k*(dig B64 n).length<=399999:=by
 have h1:s+64<=20000000:=qd (QY _ aa) h
 have h2:64*(dig B64 n).length<=q9 n+64:=by
  rcases XG n with e|e
  ·subst e;rw[jL];decide
  have hl:=dv_bl e
  have h3:=bt_s (m:=n) (n:=(dig B64 n).length-1) aa
  omega
 refine⟨ln_of aa,?_⟩
 have h4:k*(64*(dig B64 n).length)<=(k+1)*(s+64):=Ka aa aa
 rw[Nat.mul_left_comm] at h4
 omega
theorem pw_n (h:(k+1)*(sz x.q+64)<=20000000):(dig B64 x.n.1.natAbs).length<=400000:=(pw_a x.bn h).1
theorem pw_d (h:(k+1)*(sz x.q+64)<=20000000):(dig B64 x.d.1.natAbs).length<=400000:=(pw_a x.bd h).1
theorem pw_nl (h:(k+1)*(sz x.q+64)<=20000000):k*(dig B64 x.n.1.natAbs).length<=399999:=(pw_a x.bn h).2
theorem pw_dl (h:(k+1)*(sz x.q+64)<=20000000):k*(dig B64 x.d.1.natAbs).length<=399999:=(pw_a x.bd h).2
def qnP (x:Qn) (k:Nat):Qn:=⟨jo (x.n.1 ^ k),jo (x.d.1 ^ k),jN _,jN _,by rw[Zl];exact K8 x.pos,by rw[Zl,Zl,JY,JY];exact Nat.Coprime.pow _ _ x.cop⟩
theorem qnP_q (x:Qn) (k:Nat):(qnP x k).q=x.q ^ k:=by
 rw[Rat.pow_def]
 refine Rat.ext Z ?_
 show (jo (x.d.1 ^ k)).1.natAbs=x.d.1.natAbs ^ k
 rw[Zl,JY]
theorem it_n (h:sz x.q<=20000000):(Lib.itoa x.n.1).length<=20000002:=by
 have:=it_bl x.n.1
 have:=x.bn
 omega
theorem it_d (h:sz x.q<=20000000):(Lib.itoa x.d.1).length<=20000002:=by
 have:=it_bl x.d.1
 have:=x.bd
 omega
theorem tx_1 (h:one1 x.d=true):vS (bsO (Lib.itoa (fst x.n)))=vS (bsO (txt x.q)):=by
 unfold txt
 rw[WK (Qn.q_one.1 h),zR];rfl
theorem tx_2 (h:one1 x.d=false):vS (bsO ((Lib.itoa (fst x.n)++[47])++Lib.itoa (fst x.d)))=vS (bsO (txt x.q)):=by
 unfold txt
 have hp:=x.pos
 rw[WJ (fun e=>by rw[Qn.q_one.2 e] at h;cases h)]
 have e1:Lib.itoa (fst x.d)=decDigits x.q.den:=by
  unfold Lib.itoa
  rw[WJ aa]
  congr 1
  have:=x.q_den
  omega
 rw[e1,zZ];rfl
theorem it_l {x:NI} (h:(dig B64 x.1.natAbs).length<=400000):(Lib.itoa x.1).length<=1000000000:=by
 have:=it_bl x.1
 have:=blen_dig x.1.natAbs
 omega
theorem trim_it (z:Int):qC (Lib.itoa z) [45]=decDigits z.natAbs:=by
 unfold Lib.itoa
 by_cases h:z<0
 ·rw[WK h]
  unfold qC jW
  simp
 rw[WJ h,show z.toNat=z.natAbs by omega]
 have hh:jW (decDigits z.natAbs) [45]=false:=by
  unfold jW
  cases e:decDigits z.natAbs with
  | nil=>rfl
  | cons c l=>
   have hc:=jE z.natAbs c (by rw[e];exact qh ..)
   have:¬c=45:=by
    intro e2
    subst e2
    exact absurd hc.1 ah
   simp[this]
 unfold qC
 rw[hh];rfl
theorem p8k (k:Nat):2 ^ (3*k)<=10 ^ k:=by rw[Wi];exact Xx ah _
theorem lg_1 {x:NI}:vB (bif (decide ((1800:Int)<(((q9 (natAbs x.1)):Nat):Int))) then (decide ((600:Int)<(((qC (Lib.itoa (fst x)) [45]).length:Nat):Int))) else false)=vB (longN (natAbs x.1)):=by
 rw[trim_it]
 unfold longN
 by_cases h:(1800:Int)<(((q9 (natAbs x.1)):Nat):Int)
 ·rw[zl h]
  congr 4
  exact Jq.2 aa
 rw[zk h]
 have h1:x.1.natAbs<10 ^ 600:=by
  refine XJ (kw _) (qd (Xj ah (show q9 x.1.natAbs<=3*600 by omega)) ?_)
  exact p8k 600
 have:=dec_len ah h1
 rw[show decide (600<(decDigits x.1.natAbs).length)=false from zk aa];rfl
theorem lg_2:vB (bif (longN (natAbs (Qn.n x).1)) then true else (longN (natAbs (Qn.d x).1)))=vB (jk x.q):=by
 unfold jk
 show vB (bif longN x.n.1.natAbs then true else longN x.d.1.natAbs)=vB (longN x.n.1.natAbs||longN x.d.1.natAbs)
 cases longN x.n.1.natAbs<;>rfl
end
theorem w191 (x:Qn) (k:Nat) (hs:(k+1)*(sz x.q+64)<=20000000) (hk:k<9223372036854775808):CKa 119 [qV x,vI (k:Int)] (qV (qnP x k)):=by
 exact cG qf119 Z (nB Z) Z (E Z (B.bZ Z Z) (C Z (w245 (Qn.n x) k x.hn (pw_n hs) (pw_nl hs) hk) Z Z Z (C Z (w245 (Qn.d x) k x.hd (pw_d hs) (pw_dl hs) hk) Z Z Z (E Z (B.run (val:=.pv (.agg [pI (nH (jo ((Qn.n x).1 ^ k))),(nW (jo ((Qn.n x).1 ^ k))),pI (nH (jo ((Qn.d x).1 ^ k))),(nW (jo ((Qn.d x).1 ^ k)))])) (m:=[]) (rd:=[]) ae) (Dr Z ae (Rt Z (lF Z bx)))))))
theorem w162 (hp:qJ) (x:Qn) (hs:sz x.q<=20000000):CKa 117 [qV x] (vS (bsO (txt x.q))):=by
 refine cG qf117 Z (nB Z) Z (C Z (w197 x) Z Z Z (Cb Z Z (fun h1=>?_) (fun h1=>?_)))
 ·exact C Z (w222 (Qn.n x) x.hn (f_nl hs) hp) Z Z Z (Rt Z (lF Z cj))
 exact C Z (w222 (Qn.n x) x.hn (f_nl hs) hp) Z Z Z (E Z (B.catB Z Z cm) (C Z (w222 (Qn.d x) x.hd (f_dl hs) hp) Z Z Z (E Z (B.catB Z Z cm) (Dr Z ae (Rt Z (lF Z cj))))))
theorem w236 (hp:qJ) (x:NI) (hx:okI x) (hxl:(dig B64 (natAbs x.1)).length<=400000):CKa 181 [nV x] (vB (longN (natAbs x.1))):=by
 exact cG qf181 Z (nB Z) Z (C Z (w275 x hx hxl) Z Z Z (Eg Z Z (fun hc=>B.loadBA Z Z Z ag97 sz97 Z Z) Z (Eg Z Z (fun hc=>B.call (w222 x hx hxl hp) Z (ds1 (qu Z hc)) Z) Z (Eg Z Z (fun hc=>B.call (w243 (Lib.itoa (fst x)) [45] (it_l hxl) ah) Z (ds2 (qu Z hc) Z) Z) Z (Eg Z Z (fun hc=>B.ZM (qu Z hc) un9) Z (Eg Z Z (fun hc=>B.gtr (qu Z hc) Z) Z (E Z (B.pA Z Z Z Z Z) (Rt Z (lF Z (by exact lg_1))))))))))
theorem w181 (hp:qJ) (x:Qn) (hs:sz x.q<=20000000):CKa 116 [qV x] (vB (jk x.q)):=by
 exact cG qf116 Z (nB Z) Z (C Z (w236 hp (Qn.n x) x.hn (f_nl hs)) Z Z Z (Eg Z Z (fun hc=>B.fadB Z fa99_1 Z) Z (Eg Z Z (fun hc=>B.loadBA (qu Z hc) Z Z ag97 sz97 Z Z) Z (Eg Z Z (fun hc=>B.call (w236 hp (Qn.d x) x.hd (f_dl hs)) Z (ds1 (qu Z hc)) Z) Z (E Z (B.pO Z Z Z Z Z) (Rt Z (lF Z (by exact lg_2))))))))
end Go.Lens.Tb
end
section
namespace Go.Proofs
open Go.Shelf
def Tryz.lays160_ren:Go.Shelf.Ren:=⟨fun|160=>173|232=>209|231=>208|227=>210|234=>212|233=>211|236=>214|235=>213|228=>237|271=>240|151=>239|197=>238|120=>270|152=>269|260=>268|137=>287|119=>288|224=>235|225=>234|217=>233|266=>266|n=>n,fun|9=>9|4=>4|3=>3|5=>5|117=>254|116=>253|0=>0|124=>257|21=>21|105=>278|46=>261|119=>326|139=>329|138=>328|n=>n,fun|3=>6|4=>7|n=>n⟩
theorem Tryz.lays160:Go.Proofs.Lays.n160 prog Tryz.lays160_ren:={
  mixed:=ae
  f119:=Tryz.func288.trans (WD some ae)
  f120:=Tryz.func270.trans (WD some ae)
  f137:=Tryz.func287.trans (WD some ae)
  f151:=Tryz.func239.trans (WD some ae)
  f152:=Tryz.func269.trans (WD some ae)
  f160:=Tryz.func173.trans (WD some ae)
  f197:=Tryz.func238.trans (WD some ae)
  f217:=Tryz.func233.trans (WD some ae)
  f224:=Tryz.func235.trans (WD some ae)
  f225:=Tryz.func234.trans (WD some ae)
  f227:=Tryz.func210.trans (WD some ae)
  f228:=Tryz.func237.trans (WD some ae)
  f231:=Tryz.func208.trans (WD some ae)
  f232:=Tryz.func209.trans (WD some ae)
  f233:=Tryz.func211.trans (WD some ae)
  f234:=Tryz.func212.trans (WD some ae)
  f235:=Tryz.func213.trans (WD some ae)
  f236:=Tryz.func214.trans (WD some ae)
  f260:=Tryz.func268.trans (WD some ae)
  f266:=Tryz.func266.trans (WD some ae)
  f271:=Tryz.func240.trans (WD some ae)
  t0:=Tryz.underlying0
  a0:=Tryz.isAgg0
  z0:=Tryz.sizeOf0
  v0:=Tryz.zeroValue0
  t3:=Tryz.underlying3
  a3:=Tryz.isAgg3
  z3:=Tryz.sizeOf3
  v3:=Tryz.zeroValue3
  t4:=Tryz.underlying4
  a4:=Tryz.isAgg4
  z4:=Tryz.sizeOf4
  v4:=Tryz.zeroValue4
  t5:=Tryz.underlying5
  a5:=Tryz.isAgg5
  z5:=Tryz.sizeOf5
  v5:=Tryz.zeroValue5
  t9:=Tryz.underlying9
  a9:=Tryz.isAgg9
  z9:=Tryz.sizeOf9
  v9:=Tryz.zeroValue9
  t21:=Tryz.underlying21
  a21:=Tryz.isAgg21
  z21:=Tryz.sizeOf21
  v21:=Tryz.zeroValue21
  t46:=Tryz.underlying261
  a46:=Tryz.isAgg261
  z46:=Tryz.sizeOf261
  v46:=Tryz.zeroValue261
  t105:=Tryz.underlying278
  a105:=Tryz.isAgg278
  z105:=Tryz.sizeOf278
  v105:=Tryz.zeroValue278
  t116:=Tryz.underlying253
  a116:=Tryz.isAgg253
  z116:=Tryz.sizeOf253
  t117:=Tryz.underlying254
  a117:=Tryz.isAgg254
  z117:=Tryz.sizeOf254
  v117:=Tryz.zeroValue254
  t119:=Tryz.underlying326
  a119:=Tryz.isAgg326
  z119:=Tryz.sizeOf326
  t124:=Tryz.underlying257
  a124:=Tryz.isAgg257
  z124:=Tryz.sizeOf257
  v124:=Tryz.zeroValue257
  t138:=Tryz.underlying328
  a138:=Tryz.isAgg328
  z138:=Tryz.sizeOf328
  v138:=Tryz.zeroValue328
  t139:=Tryz.underlying329
  a139:=Tryz.isAgg329
  z139:=Tryz.sizeOf329
  v139:=Tryz.zeroValue329
  g3:=ae
  g4:=by kernel_rfl }
theorem Tryz.strings_Trim (s cutset:ByteArray) (w:World) (hs:s.size<=9223372036854775807) (hcs:cutset.size<4294967281) (hascii:∀ (j:Nat) b,cutset.data.toList[j]? =some b->b.toNat<128) :
    Calls prog 173 #[.string s,.string cutset] w fun e w'=>e=.returned (.string ⟨(Lib.trimS s.data.toList cutset.data.toList).toArray⟩)/\Go.RowKit.Below w.heap.size w w':=Any.strings_Trim_laid Tryz.lays160 ae s cutset w hs hcs hascii
end Go.Proofs
end
section
namespace Go.Lens.Un
def Zc:Nb:=[48,49,50,51,52,53,54,55,56,57]
theorem digs_mem {c:UInt8}:Zc.contains c=true↔48<=c.toNat/\c.toNat<=57:=by
 have key:∀ n:Fin 256,Zc.contains (UInt8.ofNat n.val)=decide (48<=n.val/\n.val<=57):=by decide +kernel
 have h:=key ⟨c.toNat,UInt8.toNat_lt c⟩
 rw[X4] at h
 rw[h,zf]
theorem dwn {p:UInt8->Bool}:∀ {l:Nb},l.dropWhile p=[]↔∀ x∈l,p x=true:=by
 intro l
 induction l with
 | nil=>simp
 | cons a l ih=>
  rw[List.dropWhile_cons]
  grind
theorem trim_nil {s:Nb}:Lib.trimS s Zc=[]↔Dgs s:=by
 unfold Lib.trimS Lib.trimLeftS Lib.trimRightS
 constructor
 ·intro h
  have h1:∀ x∈(s.reverse.dropWhile (Zc.contains ·)).reverse,Zc.contains x=true:=by
   intro x hx
   have:=dwn.1 h x hx
   exact this
  have h2:s.reverse.dropWhile (Zc.contains ·)=[]:=by
   cases e:s.reverse.dropWhile (Zc.contains ·) with
   | nil=>rfl
   | cons a l=>
    exfalso
    have h3:=h1 a (by rw[e];simp)
    have h4:=List.head?_dropWhile_not (Zc.contains ·) s.reverse
    grind
  intro c hc
  exact digs_mem.1 (dwn.1 h2 c (List.mem_reverse.2 hc))
 intro h
 have h2:s.reverse.dropWhile (Zc.contains ·)=[]:=dwn.2 fun c hc=>digs_mem.2 (h c (List.mem_reverse.1 hc))
 rw[h2];rfl
def ku (s:Nb):Bool:=decide (s≠[])&&decide (Lib.trimS s Zc=[])&&(decide (s.head?≠some 48)||decide (s=[48]))
theorem Zw {s:Nb}:ku s=true↔Cano s:=by
 unfold ku Cano
 simp only[zj,Jr,zf,trim_nil]
 constructor
 ·grind
 rintro⟨h1,h2,h3⟩
 refine⟨⟨h2,h1⟩,?_⟩
 by_cases e:s.head? =some 48
 ·right
  cases s with
  | nil=>exact absurd Z h2
  | cons c l=>
   grind
 exact .inl e
def q0 (s:Nb):Nb×Nb×Bool:=if 0<=indexByte s 47 then (s.take (indexByte s 47).toNat,s.drop ((indexByte s 47).toNat+1),true) else (s,[],false)
theorem idx_le:∀ (s:Nb) (c:UInt8),indexByte s c<s.length:=by
 intro s c
 induction s with
 | nil=>show (-1:Int)<0;decide
 | cons a s ih=>
  grind [indexByte,List.length_cons]
theorem idx_no {s:Nb} {c:UInt8} (h:∀ x∈s,x≠c):indexByte s c= -1:=by
 induction s with
 | nil=>rfl
 | cons a s ih=>
  unfold indexByte
  grind
theorem idx_at {s t:Nb} {c:UInt8} (h:∀ x∈s,x≠c):indexByte (s++c::t) c=s.length:=by
 induction s with
 | nil=>
  grind [indexByte]
 | cons a s ih=>
  have h1:=ih fun x hx=>h x (zN _ hx)
  have h2:=h a (qh ..)
  show indexByte (a::(s++c::t)) c=_
  unfold indexByte
  grind
theorem cut_no {s:Nb} (h:∀ x∈s,x≠47):q0 s=(s,[],false):=by grind [q0,idx_no]
theorem cut_at {s t:Nb} (h:∀ x∈s,x≠47):q0 (s++47::t)=(s,t,true):=by
 unfold q0
 rw[idx_at h,WK aa,zT,J6]
 simp
theorem cut_join {s:Nb} (h:(q0 s).2.2=true):s=(q0 s).1++47::(q0 s).2.1:=by
 unfold q0 at h ⊢
 split at h
 ·rename_i h0
  rw[WK h0]
  simp only
  have h1:=idx_le s 47
  obtain⟨k,hk⟩:∃ k:Nat,indexByte s 47=k:=⟨(indexByte s 47).toNat,aa⟩
  rw[hk,zT]
  rw[hk] at h1
  have key:∀ (s:Nb) (k:Nat),indexByte s 47=k->s[k]? =some 47:=by
   intro s
   induction s with
   | nil=>intro k h;exact absurd h (by show ¬((-1:Int)=k);omega)
   | cons a s ih=>
    intro k h
    unfold indexByte at h
    grind
  have h2:=key s k hk
  have h3:k<s.length:=aa
  grind [List.take_append_drop,List.drop_eq_getElem_cons]
 cases h
end Go.Lens.Un
end
section
namespace Go.Lens.Tb
open Go.Proofs Go.Lens.Un
variable [Lz] [Dn]
attribute [local irreducible] TK PK T RG EfR Body CG
theorem w335 (s:Nb):CKa 266 [vS (bsO s),.pv (.lit (.int .u8 47))] (vI (indexByte s 47)):=by
 have he:∀ vs w,(callFunc 266 vs).run prog w=((Extern.BytealgIndexByte.indexByte vs).run prog w).andThen fun v w'=>.ok (.value v) w':=fun vs w=>run_callFunc_extern Tryz.func266 ae ae ae ae vs w
 refine⟨fun k hk=>by simp[DV.qL,DV.refs] at hk,fun G w vs M hv=>.inr ?_⟩
 obtain⟨v,v',rfl,hv,hv'⟩:=hv.two
 obtain⟨rfl,_⟩:=qx hv
 obtain⟨rfl,_⟩:=qx hv'
 exact⟨_,w,by rw[he,Lib.run_indexByteString];rfl,G,qD M.ctx (qG Z) ak⟩
theorem w239 (s:Nb) (hs:s.length<=1000000000):CKa 173 [vS (bsO s),vS (bsO [48,49,50,51,52,53,54,55,56,57])] (vS (bsO (Lib.trimS s Zc))):=by
 refine⟨fun k hk=>by simp[DV.qL,DV.refs] at hk,fun G w vs M hv=>.inl ?_⟩
 obtain⟨v,v2,rfl,h1,h2⟩:=hv.two
 obtain⟨rfl,_⟩:=qx h1
 obtain⟨rfl,_⟩:=qx h2
 refine⟨Tryz.call173 _ _,Calls.mono (Tryz.strings_Trim (bsO s) (bsO Zc) w (by show s.length<=_;omega) (by show Zc.length<_;decide) (ascii_of_all ah)) ?_⟩
 rintro e w' ⟨rfl,hB⟩
 exact⟨_,rfl,G,kT M.ctx hB.os hB.tape hB.output hB.size (fun k hk=>hB.block k hk) (qG Z) ak Dn.no⟩
section
variable {s:Nb}
theorem ix_0 (h:(bif false then true else decide ([47]=s))=true):0=indexByte s 47:=by
 have:[47]=s:=X6 h
 subst this;rfl
theorem ct_1 (h:0<=indexByte s 47):take (toNat (indexByte s 47)) s=(q0 s).1:=by unfold q0;rw[WK h]
theorem ct_2 (h:0<=indexByte s 47):drop (toNat (indexByte s 47+1)) s=(q0 s).2.1:=by
 unfold q0;rw[WK h,show (indexByte s 47+1).toNat=(indexByte s 47).toNat+1 by omega]
theorem ct_3 (h:0<=indexByte s 47):true=(q0 s).2.2:=by unfold q0;rw[WK h]
theorem ct_4 (h:¬0<=indexByte s 47):s=(q0 s).1:=by unfold q0;rw[WJ h]
theorem ct_5 (h:¬0<=indexByte s 47):[]=(q0 s).2.1:=by unfold q0;rw[WJ h]
theorem ct_6 (h:¬0<=indexByte s 47):false=(q0 s).2.2:=by unfold q0;rw[WJ h]
theorem cn_l {b:Bool} (h:(bif decide (s≠[]) then b else false)=true):0<s.length:=by
 cases s with
 | nil=>cases h
 | cons a l=>simp
theorem cn_1:(bif (bif decide (s≠[]) then decide (Lib.trimS s Zc=[]) else false) then (bif decide (((byteAt (bsO s) 0):Int)≠48) then true else decide (s=[48])) else false)=ku s:=by
 unfold ku
 cases s with
 | nil=>rfl
 | cons c l=>
  have e:decide (((byteAt (bsO (c::l)) 0):Int)≠48)=decide ((c::l).head?≠some 48):=by
   refine Jq.2 ?_
   show (c.toNat:Int)≠48↔some c≠some 48
   constructor
   ·intro h e
    have e:=JO e
    subst e;exact h rfl
   intro h e
   refine h (WD some (JU.1 ?_))
   have:(48:UInt8).toNat=48:=rfl
   omega
  rw[e]
  cases decide ((c::l)≠[])<;>cases decide (Lib.trimS (c::l) Zc=[])<;>cases decide ((c::l).head?≠some 48)<;>rfl
end
theorem sz28:szT tab 28=some 1:=ae
theorem un168:tab.underlying 168=some (.slice 28):=ae
theorem w99 (b:Bool) (e:Int):CKa 54 [vB b,vI e] (vI (j5 b e)):=by
 refine cG qf54 Z (nB Z) Z (Cb Z Z (fun h1=>?_) (fun h1=>?_))
 ·exact Rt Z (lF Z (li co))
 exact Rt Z (lF Z (li co))
theorem w187 (b:Bool) (e:Int):CKa 111 [vB b,vI e] (vI (j5 b e)):=by
 refine cG qf111 Z (nB Z) Z (Cb Z Z (fun h1=>?_) (fun h1=>?_))
 ·exact Rt Z (lF Z (li co))
 exact Rt Z (lF Z (li co))
theorem w97 (n low high:Int):CKa 78 [vI n,vI low,vI high] (vI (ja n low high)):=by
 refine cG qf78 Z (nB Z) Z ?_
 refine Em Z Z Z Z ?_
 refine Em Z Z Z Z ?_
 exact Eg Z Z (fun hc=>B.gtr (qu Z hc) (qu Z hc)) Z (E Z (B.pO Z Z Z Z Z) (C Z (w99 (bif (decide (n<low)) then true else (decide (high<n))) 3) Z Z Z (Rt Z (lF Z (li (by simp only[ja,outF,bif_or]))))))
theorem w98 (l:List Int) (hl:l.length<=1000000000000000):CKa 48 [vL eI l] (vI (qK l)):=by
 refine cG qf48 Z (nB Z) Z (E Z (B.ju Z un168) (l1 (fun (k:Nat)=>[(5,vL eI l),(6,vI (l.length:Int)),(7,vI (k:Int))]) (fun _=>[]) (fun k=>k<=l.length/\qK l=qK (drop k l)) (fun k=>l.length-k) 0 Z ?_ (sb Z Z Z) ?_))
 · exact⟨zt _,rfl⟩
 intro k hI0
 refine Cp Z Z (fun h1=>?_) (fun h1=>?_)
 ·refine E Z (B.idx (z:=0) Z Z un168 sz28 (fun _=>rfl) Z aa) (Cp Z Z (fun h2=>?_) (fun h2=>?_))
  ·exact Rt Z (lF Z (li cp))
  refine E Z (B.add Z Z bg) (pk Z (L1 (k+1) ?_ ?_ (sb Z Z Z)))
  · (refine⟨aa,?_⟩;rw[hI0.2,drop_at l k 0 aa,qK,WK aa])
  · omega
 exact Rt Z (lF Z (li cp))
theorem w186 (l:List Int) (hl:l.length<=1000000000000000):CKa 110 [vL eI l] (vI (qK l)):=by
 refine cG qf110 Z (nB Z) Z (E Z (B.ju Z un168) (l1 (fun (k:Nat)=>[(5,vL eI l),(6,vI (l.length:Int)),(7,vI (k:Int))]) (fun _=>[]) (fun k=>k<=l.length/\qK l=qK (drop k l)) (fun k=>l.length-k) 0 Z ?_ (sb Z Z Z) ?_))
 · exact⟨zt _,rfl⟩
 intro k hI0
 refine Cp Z Z (fun h1=>?_) (fun h1=>?_)
 ·refine E Z (B.idx (z:=0) Z Z un168 sz28 (fun _=>rfl) Z aa) (Cp Z Z (fun h2=>?_) (fun h2=>?_))
  ·exact Rt Z (lF Z (li cp))
  refine E Z (B.add Z Z bg) (pk Z (L1 (k+1) ?_ ?_ (sb Z Z Z)))
  · (refine⟨aa,?_⟩;rw[hI0.2,drop_at l k 0 aa,qK,WK aa])
  · omega
 exact Rt Z (lF Z (li cp))
theorem w310 (s:Nb):CKa 233 [vS (bsO s),.pv (.lit (.int .u8 47))] (vI (indexByte s 47)):=by
 exact cG qf233 Z (nB Z) Z (C Z (w335 s) Z Z Z (Rt Z (leaf Z Z)))
theorem w277 (s:Nb):CKa 207 [vS (bsO s),vS (bsO [47])] (vI (indexByte s 47)):=by
 refine cG qf207 Z (nB Z) Z (E Z (B.lenB1 Z un9) ?_)
 refine Em Z Z Z Z ?_
 refine Em Z Z Z Z ?_
 refine Eg Z Z (fun hc=>B.seqB (qu Z hc) (qu Z hc)) Z (E Z (B.pO Z Z Z Z Z) (Cb Z Z (fun h1=>?_) (fun h1=>?_)))
 ·exact Rt Z (lF Z (li (by first|rfl|exact ix_0 ab)))
 exact CT Z Z (E Z (B.sidx Z Z un9 Z (show 0<List.length [47] from ah)) (C Z (w310 s) Z Z Z (Rt Z (leaf Z Z))))
theorem w238 (s:Nb) (hs:s.length<=1000000000):CKa 172 [vS (bsO s),vS (bsO [47])] (.tup [vS (bsO (fst (q0 s))),vS (bsO (fst (snd (q0 s)))),vB (snd (snd (q0 s)))]):=by
 refine cG qf172 Z (nB Z) Z ?_
 have hix:=idx_le s 47
 refine C Z (w277 s) Z Z Z (Cp Z Z (fun h1=>?_) (fun h1=>?_))
 ·exact E Z (B.slHB Z Z un9 (Xl aa).symm aa) (E Z (B.lenB1 Z un9) (E Z (B.add Z Z bg) (E Z (B.slLB Z Z un9 (Xl aa).symm aa) (Dr Z ae (Rt Z (lF Z (tup3 (ls cq) (ls cq) (lb cq))))))))
 exact Rt Z (lF Z (tup3 (ls cq) (ls cq) (lb cq)))
theorem w184 (s:Nb) (hs:s.length<=1000000000):CKa 108 [vS (bsO s),vS (bsO [47])] (.tup [vS (bsO (fst (q0 s))),vS (bsO (fst (snd (q0 s)))),vB (snd (snd (q0 s)))]):=by
 exact cG qf108 Z (nB Z) Z (C Z (w238 s hs) Z Z Z (Rt Z (leaf Z Z)))
theorem w185 (s:Nb) (hs:s.length<=1000000000):CKa 109 [vS (bsO s)] (vB (ku s)):=by
 refine cG qf109 Z (nB Z) Z (E Z (B.sneB Z Z) ?_)
 refine Em Z Z Z Z ?_
 refine Eg Z Z (fun hc=>B.call (w239 s hs) Z (ds2 (qu Z hc) Z) Z) Z (Eg Z Z (fun hc=>B.seqB (qu Z hc) Z) Z (E Z (B.pA Z Z Z Z Z) ?_))
 refine Em Z Z Z Z ?_
 refine Eg Z Z (fun hc=>B.sidx (qu Z hc) Z un9 Z (show 0<List.length s from (by first|omega|exact cn_l (eq_of_beq hc)))) Z (Eg Z Z (fun hc=>B.neq (qu Z hc) Z) Z (Eg Z Z (fun hc=>B.move (qu Z hc)) Z ?_))
 refine Em Z Z Z Z ?_
 exact Eg Z Z (fun hc=>B.seqB (qu Z hc) Z) Z (Eg Z Z (fun hc=>B.pick (qu Z hc) Z Z Z (gdB Z) (pick_or2 hc)) Z (E Z (B.pA Z Z Z Z Z) (Rt Z (lF Z (lb (by exact cn_1))))))
def j1 (s:Nb):Bool:=(ku (q0 (qC s [45])).1&&(!(jW s [45])||decide ((q0 (qC s [45])).1≠[48])))&&(!(q0 (qC s [45])).2.2||(ku (q0 (qC s [45])).2.1&&decide ((q0 (qC s [45])).2.1≠[48])&&decide ((q0 (qC s [45])).2.1≠[49])))
def ZD (s:Nb):Bool:=decide (600<(((q0 (qC s [45])).1.length:Nat):Int))||decide (600<(((q0 (qC s [45])).2.1.length:Nat):Int))
def jr (s:Nb):Int:=if j1 s=false then 1 else if ZD s=true then 4 else if ((q0 (qC s [45])).2.2&&decide (gcd (jp (q0 (qC s [45])).1) (jp (q0 (qC s [45])).2.1)≠1))=true then 1 else 0
section
variable {s:Nb}
theorem trimP_len (s p:Nb):(qC s p).length<=s.length:=by
 unfold qC
 grind
theorem cutB_len (s:Nb):(q0 s).1.length<=s.length/\(q0 s).2.1.length<=s.length:=by grind [q0,List.length_take,List.length_drop]
theorem ZK {s:Nb}:okI (jM s):=by
 unfold jM
 cases jW s [45]
 ·exact jN _
 exact ZA (jN _)
theorem ck_f1 (h:(q0 (qC s [45])).2.2=true):j1 s=(bif (bif (bif (bif ku (q0 (qC s [45])).1 then (bif (!(jW s [45])) then true else decide ((q0 (qC s [45])).1≠[48])) else false) then ku (q0 (qC s [45])).2.1 else false) then decide ((q0 (qC s [45])).2.1≠[48]) else false) then decide ((q0 (qC s [45])).2.1≠[49]) else false):=by grind [j1]
theorem ck_f2 (h:(q0 (qC s [45])).2.2=false):j1 s=(bif ku (q0 (qC s [45])).1 then (bif (!(jW s [45])) then true else decide ((q0 (qC s [45])).1≠[48])) else false):=by grind [j1]
theorem firstF_2 (a b:Bool):qK [j5 a 1,j5 b 4]=if a=true then 1 else if b=true then 4 else 0:=by cases a<;>cases b<;>rfl
theorem bif_or2 (a b:Bool):(bif a then true else b)=(a||b):=by cases a<;>rfl
theorem ck_0 (h:¬qK [j5 (!(j1 s)) 1,j5 (bif (decide (600<(((q0 (qC s [45])).1.length:Nat):Int))) then true else (decide (600<(((q0 (qC s [45])).2.1.length:Nat):Int)))) 4]≠0):j1 s=true/\ZD s=false:=by
 rw[bif_or2,firstF_2] at h
 have h:=zi.1 h
 change (if (!j1 s)=true then (1:Int) else if ZD s=true then 4 else 0)=0 at h
 cases h1:j1 s with
 | false=>rw[h1] at h;exact absurd (show (1:Int)=0 from h) ah
 | true=>
  grind
theorem ck_7 (h:qK [j5 (!(j1 s)) 1,j5 (bif (decide (600<(((q0 (qC s [45])).1.length:Nat):Int))) then true else (decide (600<(((q0 (qC s [45])).2.1.length:Nat):Int)))) 4]≠0):qK [j5 (!(j1 s)) 1,j5 (bif (decide (600<(((q0 (qC s [45])).1.length:Nat):Int))) then true else (decide (600<(((q0 (qC s [45])).2.1.length:Nat):Int)))) 4]=jr s:=by
 rw[bif_or2,firstF_2] at h ⊢
 change (if (!j1 s)=true then (1:Int) else if ZD s=true then 4 else 0)≠0 at h
 change (if (!j1 s)=true then (1:Int) else if ZD s=true then 4 else 0)=_
 unfold jr
 grind
theorem ck_num (h:j1 s=true/\ZD s=false):Cano (q0 (qC s [45])).1/\(q0 (qC s [45])).1.length<=600/\(jW s [45]=true->(q0 (qC s [45])).1≠[48]):=by
 obtain⟨h1,h2⟩:=h
 unfold j1 at h1
 unfold ZD at h2
 simp only[zj,Jr,zf,XP] at h1
 simp only[z7,zG] at h2
 refine⟨Zw.1 h1.1.1,aa,fun hn=>?_⟩
 grind
theorem ck_den (h:j1 s=true/\ZD s=false) (hb:(q0 (qC s [45])).2.2=true):Cano (q0 (qC s [45])).2.1/\(q0 (qC s [45])).2.1.length<=600/\(q0 (qC s [45])).2.1≠[48]/\(q0 (qC s [45])).2.1≠[49]:=by
 obtain⟨h1,h2⟩:=h
 unfold j1 at h1
 unfold ZD at h2
 rw[hb] at h1
 simp only[zj,Jr,zf,XP] at h1
 simp only[z7,zG] at h2
 rcases h1.2 with g|g
 ·cases g
 exact⟨Zw.1 g.1.1,aa,g.1.2,g.2⟩
theorem dg_hasP {l:Nb} (h:Dgs l):jW l [45]=false:=by
 unfold jW
 cases l with
 | nil=>rfl
 | cons c l=>
  have hc:=h c (qh ..)
  have:¬c=45:=by
   intro e2
   subst e2
   exact absurd hc.1 ah
  simp[this]
theorem dg_trimP {l:Nb} (h:Dgs l):qC l [45]=l:=by unfold qC;rw[dg_hasP h];rfl
theorem dg_rd {l:Nb} (h:Dgs l) (hn:l≠[]):RdOk l:=by grind [RdOk,dg_trimP]
theorem dg_readI {l:Nb} (h:Dgs l):jM l=jo ((jp l:Nat):Int):=by unfold jM;rw[dg_hasP h,dg_trimP h];rfl
theorem ck_1 (h:j1 s=true/\ZD s=false) (_:(q0 (qC s [45])).2.2=true):RdOk (q0 (qC s [45])).1/\(q0 (qC s [45])).1.length<=2000:=by
 have:=ck_num h
 exact⟨dg_rd this.1.1 this.1.2.1,aa⟩
theorem ck_2 (h:j1 s=true/\ZD s=false) (hb:(q0 (qC s [45])).2.2=true):RdOk (q0 (qC s [45])).2.1/\(q0 (qC s [45])).2.1.length<=2000:=by
 have:=ck_den h hb
 exact⟨dg_rd this.1.1 this.1.2.1,aa⟩
theorem dl_decV {l:Nb} (h:Dgs l) (hl:l.length<=600):(dig B64 (jM l).1.natAbs).length<=400000:=by
 rw[dg_readI h,Zl,XA]
 exact qd (dl_lt (kq h)) aa
theorem ck_3 (h:j1 s=true/\ZD s=false) (_:(q0 (qC s [45])).2.2=true):(dig B64 (jM (q0 (qC s [45])).1).1.natAbs).length<=400000:=dl_decV (ck_num h).1.1 (ck_num h).2.1
theorem ck_4 (h:j1 s=true/\ZD s=false) (hb:(q0 (qC s [45])).2.2=true):(dig B64 (jM (q0 (qC s [45])).2.1).1.natAbs).length<=400000:=dl_decV (ck_den h hb).1.1 (ck_den h hb).2.1
theorem decV_0 {l:Nb} (h:Cano l):jp l=0↔l=[48]:=by
 constructor
 ·intro e
  have:=dec_of _ Z h
  rw[e,decDigits,WI ah] at this
  exact this.symm
 intro e;subst e;rfl
theorem ck_5 (h:j1 s=true/\ZD s=false) (hb:(q0 (qC s [45])).2.2=true):(dig B64 (jo ((gcd (jM (q0 (qC s [45])).1).1.natAbs (jM (q0 (qC s [45])).2.1).1.natAbs:Nat):Int)).1.natAbs).length<=400000:=by
 rw[Zl,XA]
 have h2:=ck_den h hb
 refine qd (dv_len (Km ?_ (X0 ..))) (ck_4 h hb)
 rw[dg_readI h2.1.1,Zl,XA]
 have:jp (q0 (qC s [45])).2.1≠0:=fun e=>h2.2.2.1 ((decV_0 h2.1).1 e)
 omega
theorem ck_g (g:Nat):j5 (decide (j8 ((g:Int)-1)≠0)) 1=if decide (g≠1)=true then 1 else 0:=by
 by_cases e:g=1
 ·subst e;rfl
 rw[zl (show j8 ((g:Int)-1)≠0 from fun k=>e (by have:=sgn_0.1 k;omega)),WK (by simpa using e)];rfl
theorem ck_8 (h:j1 s=true/\ZD s=false):j5 (bif (q0 (qC s [45])).2.2 then decide (j8 ((jo ((gcd (jM (q0 (qC s [45])).1).1.natAbs (jM (q0 (qC s [45])).2.1).1.natAbs:Nat):Int)).1-(ofI 1).1)≠0) else false) 1=jr s:=by
 unfold jr
 rw[WJ (by rw[h.1];decide),WJ (by rw[h.2];decide)]
 cases hb:(q0 (qC s [45])).2.2
 ·rfl
 have h1:=ck_num h
 have h2:=ck_den h hb
 rw[dg_readI h1.1.1,dg_readI h2.1.1]
 simp only[Zl,XA,Wy,Kf,ofI]
 exact ck_g _
theorem chk_0 (h:jr s=0):(j1 s=true/\ZD s=false)/\((q0 (qC s [45])).2.2=true->gcd (jp (q0 (qC s [45])).1) (jp (q0 (qC s [45])).2.1)=1):=by
 unfold jr at h
 grind
theorem cut_sign (s:Nb):q0 s=(bif jW s [45] then 45::(q0 (qC s [45])).1 else (q0 (qC s [45])).1,(q0 (qC s [45])).2.1,(q0 (qC s [45])).2.2):=by
 cases hh:jW s [45] with
 | false=>rw[show qC s [45]=s by unfold qC;rw[hh];rfl];rfl
 | true=>
  have e:s=45::qC s [45]:=by
   cases s with
   | nil=>cases hh
   | cons c l=>
    have h1:c=45:=by
     unfold jW at hh
     grind
    unfold qC
    grind
  generalize qC s [45]=d at e ⊢
  subst e
  simp only[Wy]
  have hi:indexByte (45::d) 47=if indexByte d 47= -1 then -1 else indexByte d 47+1:=by
   conv=>lhs;unfold indexByte
   grind
  unfold q0
  rw[hi]
  have hg:=Lib.indexByte_ge d 47
  by_cases g:indexByte d 47= -1
  ·rw[WK g,WJ ah,WJ aa]
  rw[WJ g,WK aa,WK aa,show (indexByte d 47+1).toNat=(indexByte d 47).toNat+1 by omega];rfl
theorem fr_n (h:j1 s=true/\ZD s=false):jW (q0 s).1 [45]=jW s [45]/\qC (q0 s).1 [45]=(q0 (qC s [45])).1:=by
 have h1:=(ck_num h).1.1
 rw[cut_sign s]
 cases hh:jW s [45] with
 | false=>exact⟨dg_hasP h1,dg_trimP h1⟩
 | true=>
  simp only[Wy]
  generalize (q0 (qC s [45])).1=X
  have e:jW (45::X) [45]=true:=by unfold jW;simp
  refine⟨e,?_⟩
  unfold qC
  rw[e];rfl
theorem fr_1 (h:jr s=0):RdOk (q0 s).1/\(q0 s).1.length<=2000:=by
 have h1:=(chk_0 h).1
 have h2:=ck_num h1
 refine⟨?_,?_⟩
 ·unfold RdOk;rw[(fr_n h1).2];exact⟨h2.1.1,h2.1.2.1⟩
 rw[cut_sign s]
 cases jW s [45]
 ·simp only[Ww];omega
 grind
theorem cut_2 (s:Nb):(q0 s).2.1=(q0 (qC s [45])).2.1/\(q0 s).2.2=(q0 (qC s [45])).2.2:=by rw[cut_sign s];exact⟨rfl,rfl⟩
theorem fr_2 (h:jr s=0) (hb:(q0 s).2.2=true):RdOk (q0 s).2.1/\(q0 s).2.1.length<=2000:=by
 rw[(cut_2 s).1]
 rw[(cut_2 s).2] at hb
 exact ck_2 (chk_0 h).1 hb
theorem ck_l (h:jr s=0):s.length<=1000000000:=by
 have h1:=fr_1 h
 unfold q0 at h1
 cases hb:(q0 s).2.2 with
 | true=>
  have h2:=fr_2 h hb
  have h1:=fr_1 h
  have:=WD List.length (cut_join hb)
  grind
 | false=>
  have h1:=fr_1 h
  have e:(q0 s).1=s:=by
   unfold q0 at hb ⊢
   grind
  rw[e] at h1;omega
theorem readI_v (h:jr s=0):(jM (q0 s).1).1=bif jW s [45] then -((jp (q0 (qC s [45])).1:Nat):Int) else ((jp (q0 (qC s [45])).1:Nat):Int):=by
 have h1:=fr_n (chk_0 h).1
 unfold jM
 rw[h1.1,h1.2]
 cases jW s [45]
 ·rfl
 simp only[Wy,kS,Zl]
theorem readI_a (h:jr s=0):(jM (q0 s).1).1.natAbs=jp (q0 (qC s [45])).1:=by grind [readI_v]
def denI (s:Nb):NI:=bif (q0 s).2.2 then jM (q0 s).2.1 else ofI 1
theorem denI_v (h:jr s=0):(denI s).1=bif (q0 (qC s [45])).2.2 then ((jp (q0 (qC s [45])).2.1:Nat):Int) else 1:=by
 unfold denI
 rw[(cut_2 s).1,(cut_2 s).2]
 cases hb:(q0 (qC s [45])).2.2
 ·rfl
 simp only[Wy]
 rw[dg_readI (ck_den (chk_0 h).1 hb).1.1];rfl
theorem den_pos (h:jr s=0):0<(denI s).1:=by
 rw[denI_v h]
 cases hb:(q0 (qC s [45])).2.2
 ·show (0:Int)<1;decide
 have h2:=ck_den (chk_0 h).1 hb
 have:jp (q0 (qC s [45])).2.1≠0:=fun e=>h2.2.2.1 ((decV_0 h2.1).1 e)
 simp only[Wy];omega
theorem den_ok:okI (denI s):=by
 unfold denI
 cases (q0 s).2.2
 ·exact ofI_ok ah
 exact ZK
theorem den_cop (h:jr s=0):gcd (jM (q0 s).1).1.natAbs (denI s).1.natAbs=1:=by
 rw[readI_a h,denI_v h]
 cases hb:(q0 (qC s [45])).2.2
 ·exact X1 _
 simp only[Wy,XA]
 exact (chk_0 h).2 hb
def qU (s:Nb):Qn:=if h:jr s=0 then ⟨jM (q0 s).1,denI s,ZK,den_ok,den_pos h,den_cop h⟩ else frZ
theorem fr_3 (h:jr s=0) (h1:(!((q0 s).2.2))=true):(DV.pv (.agg [pI (nH (Qn.whole (jM (q0 s).1) ZK).n),nW (Qn.whole (jM (q0 s).1) ZK).n,pI (nH (Qn.whole (jM (q0 s).1) ZK).d),nW (Qn.whole (jM (q0 s).1) ZK).d]))=.pv (.agg [pI (nH (qU s).n),nW (qU s).n,pI (nH (qU s).d),nW (qU s).d]):=by
 have hb:(q0 s).2.2=false:=by simpa using h1
 have e:denI s=ofI 1:=by unfold denI;rw[hb];rfl
 unfold qU
 rw[WI h]
 simp only[e];rfl
theorem fr_4 (h:jr s=0) (h1:(!((q0 s).2.2))=false):(DV.pv (.agg [pI (nH (jM (q0 s).1)),nW (jM (q0 s).1),pI (nH (jM (q0 s).2.1)),nW (jM (q0 s).2.1)]))=.pv (.agg [pI (nH (qU s).n),nW (qU s).n,pI (nH (qU s).d),nW (qU s).d]):=by
 have hb:(q0 s).2.2=true:=by simpa using h1
 have e:denI s=jM (q0 s).2.1:=by unfold denI;rw[hb];rfl
 unfold qU
 rw[WI h]
 simp only[e]
theorem ZP (h:jr s=0):txt (qU s).q=s:=by
 have hn:=ck_num (chk_0 h).1
 have e1:(qU s).q.num=(jM (q0 s).1).1:=by unfold qU;rw[WI h];rfl
 have e2:(qU s).q.den=(denI s).1.natAbs:=by unfold qU;rw[WI h];rfl
 have hd:=dec_of _ Z hn.1
 have a1:Lib.itoa (jM (q0 s).1).1=(q0 s).1:=by
  rw[readI_v h,cut_sign s]
  cases hh:jW s [45]
  ·simp only[Ww]
   unfold Lib.itoa
   grind
  simp only[Wy]
  have:jp (q0 (qC s [45])).1≠0:=fun e=>hn.2.2 hh ((decV_0 hn.1).1 e)
  grind [Lib.itoa,Int.natAbs_neg,Int.natAbs_natCast]
 unfold txt
 rw[e1,e2,a1,denI_v h]
 cases hb:(q0 (qC s [45])).2.2
 ·simp only[Ww]
  rw[WK (show natAbs 1=1 from rfl),zR]
  have:(q0 s).2.2=false:=by rw[(cut_2 s).2,hb]
  unfold q0 at this ⊢
  grind
 have h2:=ck_den (chk_0 h).1 hb
 simp only[Wy,XA]
 have hd2:=dec_of _ Z h2.1
 rw[WJ (fun e=>h2.2.2.2 (by rw[<-hd2,e];rw[decDigits,WI ah];rfl)),hd2,<-(cut_2 s).1]
 exact (cut_join (by rw[(cut_2 s).2,hb])).symm
end
theorem w112 (s:Nb) (hs:s.length<=1000000000):CKa 49 [vS (bsO s)] (vI (jr s)):=by
 refine cG qf49 Z (nB Z) Z (C Z (w183 s [45] aa ah) Z Z Z ?_)
 have hs2:(qC s [45]).length<=1000000000:=qd (trimP_len s _) hs
 refine C Z (w184 (qC s [45]) hs2) Z Z Z ?_
 have hs3:=qd (cutB_len (qC s [45])).1 hs2
 have hs4:=qd (cutB_len (qC s [45])).2 hs2
 refine C Z (w185 (fst (q0 (qC s [45]))) hs3) Z Z Z ?_
 refine Em Z Z Z Z ?_
 refine Eg Z Z (fun hc=>B.not (qu Z hc)) Z (Eg Z Z (fun hc=>B.move (qu Z hc)) Z ?_)
 refine Em Z Z Z Z ?_
 refine Eg Z Z (fun hc=>B.sneB (qu Z hc) Z) Z (Eg Z Z (fun hc=>B.pick (qu Z hc) Z Z Z (gdB Z) (pick_or2 hc)) Z (E Z (B.pA Z Z Z Z Z) (Cj [(5,vS (bsO (fst (q0 (qC s [45]))))),(6,vS (bsO (fst (snd (q0 (qC s [45])))))),(7,vB (snd (snd (q0 (qC s [45]))))),(8,vB (j1 s))] [] Z Z Z (fun h1=>?_) (fun h1=>?_) ?_)))
 ·refine Em Z Z Z Z ?_
  refine Eg Z Z (fun hc=>B.call (w185 (fst (snd (q0 (qC s [45])))) hs4) Z (ds1 (qu Z hc)) Z) Z (E Z (B.pA Z Z Z Z Z) ?_)
  refine Em Z Z Z Z ?_
  refine Eg Z Z (fun hc=>B.sneB (qu Z hc) Z) Z (E Z (B.pA Z Z Z Z Z) ?_)
  refine Em Z Z Z Z ?_
  refine Eg Z Z (fun hc=>B.sneB (qu Z hc) Z) Z (E Z (B.pA Z Z Z Z Z) (pk Z ?_))
  show Sub _ _ _
  first|rw[ck_f1 h1]|rw[ck_f2 h1]
  exact sb Z Z rfl
 ·refine pk Z ?_
  show Sub _ _ _
  first|rw[ck_f1 h1]|rw[ck_f2 h1]
  exact sb Z Z rfl
 refine C Z (w187 (!(j1 s)) 1) Z Z Z (E Z (B.ZM Z un9) ?_)
 refine Em Z Z Z Z ?_
 refine Eg Z Z (fun hc=>B.ZM (qu Z hc) un9) Z (Eg Z Z (fun hc=>B.gtr (qu Z hc) Z) Z (E Z (B.pO Z Z Z Z Z) (C Z (w187 (bif (decide (600<(((fst (q0 (qC s [45]))).length:Nat):Int))) then true else (decide (600<(((fst (snd (q0 (qC s [45])))).length:Nat):Int)))) 4) Z Z Z (E Z (B.zA (es:=List.map eI [(j5 (!(j1 s)) 1),(j5 (bif (decide (600<(((fst (q0 (qC s [45]))).length:Nat):Int))) then true else (decide (600<(((fst (snd (q0 (qC s [45])))).length:Nat):Int)))) 4)]) Z) (C Z (w186 [(j5 (!(j1 s)) 1),(j5 (bif (decide (600<(((fst (q0 (qC s [45]))).length:Nat):Int))) then true else (decide (600<(((fst (snd (q0 (qC s [45])))).length:Nat):Int)))) 4)] (zW Z)) Z Z Z (Cp Z Z (fun h2=>?_) (fun h2=>?_)))))))
 ·exact Rt Z (lF Z (li ct))
 have hck:=ck_0 h2
 refine Em Z Z Z Z ?_
 refine Eg Z Z (fun hc=>B.call (w189 (fst (q0 (qC s [45]))) (ck_1 hck (eq_of_beq hc)).1 (ck_1 hck (eq_of_beq hc)).2) Z (ds1 (qu Z hc)) Z) Z ?_
 refine Em Z Z Z Z ?_
 exact Eg Z Z (fun hc=>B.call (w189 (fst (snd (q0 (qC s [45])))) (ck_2 hck (eq_of_beq hc)).1 (ck_2 hck (eq_of_beq hc)).2) Z (ds1 (qu Z hc)) Z) Z (Eg Z Z (fun hc=>B.call (w188 (jM (fst (q0 (qC s [45])))) (jM (fst (snd (q0 (qC s [45]))))) ZK ZK (ck_3 hck (eq_of_beq hc)) (ck_4 hck (eq_of_beq hc))) Z (ds2 (qu Z hc) (qu Z hc)) Z) Z (Eg Z Z (fun hc=>B.call (w177 1) Z Z Z) Z (Eg Z Z (fun hc=>B.call (w190 (jo ((gcd (natAbs (jM (fst (q0 (qC s [45])))).1) (natAbs (jM (fst (snd (q0 (qC s [45]))))).1):Nat):Int)) (ofI 1) (jN _) (ofI_ok ah) (ck_5 hck (eq_of_beq hc)) dl_1) Z (ds2 (qu Z hc) (qu Z hc)) Z) Z (Eg Z Z (fun hc=>B.neq (qu Z hc) Z) Z (E Z (B.pA Z Z Z Z Z) (C Z (w187 (bif (snd (snd (q0 (qC s [45])))) then (decide ((j8 (fst (jo ((gcd (natAbs (jM (fst (q0 (qC s [45])))).1) (natAbs (jM (fst (snd (q0 (qC s [45]))))).1):Nat):Int))-fst (ofI 1)))≠0)) else false) 1) Z Z Z (Rt Z (lF Z (li ct)))))))))
theorem w116 (s:Nb) (h:jr s=0):CKa 53 [vS (bsO s)] (qV (qU s)):=by
 refine cG qf53 Z (nB Z) Z (E Z (B.bZ Z Z) (C Z (w184 s (ck_l h)) Z Z Z (Cb Z Z (fun h1=>?_) (fun h1=>?_))))
 ·exact C Z (w189 (fst (q0 s)) (fr_1 h).1 (fr_1 h).2) Z Z Z (C Z (w176 (jM (fst (q0 s))) ZK) Z Z Z (Rt Z (lF Z cu)))
 exact C Z (w189 (fst (q0 s)) (fr_1 h).1 (fr_1 h).2) Z Z Z (C Z (w189 (fst (snd (q0 s))) (fr_2 h (by simpa using h1)).1 (fr_2 h (by simpa using h1)).2) rfl rfl rfl (E rfl (B.run (val:=.pv (.agg [pI (nH (jM (fst (q0 s)))),(nW (jM (fst (q0 s)))),pI (nH (jM (fst (snd (q0 s))))),(nW (jM (fst (snd (q0 s)))))])) (m:=[]) (rd:=[]) ae) (Rt Z (lF Z cu))))
end Go.Lens.Tb
end
section
namespace Go.Lens
variable [Lz]
section
variable {P:Program} {Y:Tab} [qH P Y] {nb:Nat} {s:St} {dst:Option Tmp} {ty u:TypeId} {pos:String} {af:Array Edge} {gd:Option (Nat×Bool)} {t:TypeId} {x y z:Operand}
theorem B.setA {α:Type} {enc:α->List PV} {l:List α} {z0:α} {cs:List PV} {h v n sz:Nat} {T:TypeId} (hx:ev1 s x=.eref h v n 0) (hm:qr s.ms h=some (.arr v sz T (l.map enc))) (hy:ev1 s y=.pv (.agg cs)) (hz:enc z0=cs)
  (hs:szT Y t=some sz) (hlt:n<l.length) (hsz:∀ a,(enc a).length=sz):Body P Y nb s ⟨dst,.store t x y,ty,pos,af,gd⟩ .dead [(h,.arr v sz T ((l.set n z0).map enc))] [h]:=by
 refine .inr (jS.of fun σ G a w hv hl I=>?_)
 have hX:=hv x aS
 have hY:=hv y aS
 rw[hx] at hX;rw[hy] at hY
 have hlk:qr σ.ms h=some (.arr v sz T (l.map enc)):=by grind
 have C:Ctx G w (fun z=>match z with| .tmp 0=>a.eval x| .tmp 1=>a.eval y|_=>undef) (fun z=>match z with| .tmp 0=>.eref h v n 0| .tmp 1=>.pv (.agg cs)|_=>.dead) (qr σ.ms) (qr σ.ms):=by
  refine I.mem.ctx2 (fun z=>?_) (fun z k hk=>?_)
  ·grind [qt]
  split at hk
  ·simp only[DV.refs,zg] at hk;subst hk;exact⟨_,hlk⟩
  ·simp[DV.refs] at hk
  simp[DV.refs] at hk
 have hcv:storeV Y t (.eref h v n 0) (.pv (.agg cs)) (qr σ.ms)=some ⟨true,.dead,[(h,.arr v sz T ((l.set n z0).map enc))]⟩:=by
  unfold storeV
  have hp:pvOf (qr σ.ms) (.pv (.agg cs))=some (.agg cs):=rfl
  have hg:(l.map enc).getD n []=enc (l[n]'hlt):=by grind
  have hk:cs.length=sz:=by rw[<-hz];exact hsz z0
  have hc:Z9 (.agg cs)=cs:=rfl
  have hd:(enc (l[n]'hlt)).drop sz=[]:=zV (by rw[hsz];omega)
  have hdec:decide (n<(l.map enc).length/\0+sz<=sz)=true:=zl ⟨by rw[zI];exact hlt,aa⟩
  simp only[hs,hlk,hp,hc,hk,WB,ql,hg,J8,zU,KT,hd,zR,KA,hz]
  grind
 obtain⟨w',G',h1,h2⟩:=storeV_sound (P:=P) C (t:=t) (a:=.tmp 0) (x:=.tmp 1) hcv rfl
 refine⟨undef,w',G',.inr ⟨?_,rfl⟩,h2⟩
 have lift:∀ {q:Sem Unit} {w':World},q.run P w=.ok () w'->(do q;Pure.pure Next.skip:Sem Next).run P w=.ok .skip w':=by
  intro q w' h
  simp only[qp,h,qo,qq]
 exact lift (q:=Instr.storeAt _ _ _) h1
end
end Go.Lens
end
section
namespace Go.Lens.Tb
open Go.Proofs Go.Lens.Un
variable [Lz] [Dn]
attribute [local irreducible] TK PK T RG EfR Body CG
theorem ki {α:Type} {l:List α} {k:Nat} {z:α} (h:k<l.length):l.getD k z∈l:=by
 rw[ze,zm h];exact Jd h
def resT (q:Rat):Nb:=bif jk q then [] else txt q
def resE (q:Rat):Int:=bif jk q then 4 else 0
section
variable {x:Qn}
theorem rs_1 (h:jk x.q=true):[]=resT x.q:=by unfold resT;rw[h];rfl
theorem rs_2 (h:jk x.q=false):txt x.q=resT x.q:=by unfold resT;rw[h];rfl
theorem rs_3 (h:jk x.q=true):4=resE x.q:=by unfold resE;rw[h];rfl
theorem rs_4 (h:jk x.q=false):0=resE x.q:=by unfold resE;rw[h];rfl
end
theorem sz23:szT tab 23=some 1:=ae
theorem un56:tab.underlying 56=some (.slice 23):=ae
theorem w113 (hp:qJ) (x:Qn) (hs:sz (Qn.q x)<=20000000):CKa 50 [qV x] (.tup [vS (bsO (resT (Qn.q x))),vI (resE (Qn.q x))]):=by
 refine cG qf50 Z (nB Z) Z (C Z (w181 hp x hs) Z Z Z (Cb Z Z (fun h1=>?_) (fun h1=>?_)))
 ·exact Rt Z (lF Z (ZF (ls cv) (li cv)))
 exact C Z (w162 hp x hs) Z Z Z (Rt Z (lF Z (ZF (ls cv) (li cv))))
def eachE {α:Type} (f:α->Int):List α->Int
 | []=>0
 | a::l=>if f a=0 then eachE f l else f a
section
variable {α:Type} {l:List α} {f:α->Int} {k:Nat} {z:α}
theorem ea_step (hk:k<l.length) (h:¬f (l.getD k z)≠0):eachE f (l.drop k)=eachE f (l.drop (k+1)):=by
 rw[drop_at l k z hk,eachE,WK (zi.1 h)]
theorem ea_end {i:Int} (h:i=eachE f (l.drop k)) (hk:¬(k:Int)<(l.length:Int)):0=i:=by
 rw[h,zV aa];rfl
theorem ea_at {i:Int} (h:i=eachE f (l.drop k)) (hk:k<l.length) (hp:f (l.getD k z)≠0):f (l.getD k z)=i:=by
 rw[h,drop_at l k z hk,eachE,WJ hp]
end
theorem ag23:aggT tab 23=some false:=ae
theorem in99:tab.info? 99=some ty99.info:=ae
def Qn.dv (x y:Qn):Qn:=if h:y.q≠0 then Qn.div x y h else frZ
theorem w128d (x y:Qn) (hs:sz (Qn.q x)+sz (Qn.q y)<=20000000) (h:y.q≠0):CKa 74 [qV x,qV y] (qV (Qn.dv x y)):=by
 unfold Qn.dv
 rw[WI h]
 exact w128 x y hs h
theorem Qn.dv_q {x y:Qn}:(Qn.dv x y).q=x.q / y.q:=by
 unfold Qn.dv
 split
 ·exact Qn.div_q _ _ _
 rename_i h
 have h0:y.q=0:=zi.1 h
 rw[h0,show frZ.q=((0:Int):Rat) from Qn.ofZ_q _]
 grind
end Go.Lens.Tb
end
section
namespace Go.Lens
variable [Lz]
abbrev KI:=Int×Int
def kkV (k:KI):Value:=.agg #[.int .i64 k.1,.int .i64 k.2]
def kkP (k:KI):PV:=.agg [.lit (.int .i64 k.1),.lit (.int .i64 k.2)]
def Qc {α:Type} (k:KI) (v:α):List (KI×α)->List (KI×α)
 | []=>[(k,v)]
 | (a,x)::l=>if k=a then (a,v)::l else (a,x)::Qc k v l
def idxI {α:Type} (k:KI):Nat->List (KI×α)->Option Nat
 | _,[]=>none
 | j,(a,_)::l=>if k=a then some j else idxI k (j+1) l
def kN {α:Type} (k:KI):List (KI×α)->Option α
 | []=>none
 | (a,x)::l=>if k=a then some x else kN k l
def kvO {α:Type} (enc:α->PV) (l:List (KI×α)):List (PV×PV):=l.map fun p=>(kkP p.1,enc p.2)
abbrev kO {α:Type} (enc:α->PV) (l:List (KI×α)):MO:=.kmap (fun kv=>kv=kvO enc l)
theorem rel_kk {R:Rd} {k:KI} {v:Value} (h:qI R (kkP k) v):v=kkV k:=by
 simp only[kkP,qI,qw] at h
 obtain⟨vs,rfl,_,v1,l1,e1,⟨rfl,_⟩,v2,l2,e2,⟨rfl,_⟩,e3⟩:=h
 subst e3;subst e2
 have:vs= #[.int .i64 k.1,.int .i64 k.2]:=by grind
 rw[this];rfl
theorem kk_rel {R:Rd} {k:KI}:qI R (kkP k) (kkV k):=by
 simp only[kkP,kkV,qI,qw]
 exact⟨_,rfl,by simp[Value.oneCell'],_,_,rfl,⟨rfl,rfl⟩,_,_,rfl,⟨rfl,rfl⟩,rfl⟩
theorem rel_keys {α:Type} {R:Rd} {enc:α->PV}:∀ {l:List (KI×α)} {es:List MapEntry},qw R ((kvO enc l).map (·.1)) (es.map (·.key))->es.map (·.key)=l.map fun p=>kkV p.1
 | [],es,h=>by simpa [kvO,qw] using h
 | p::l,es,h=>by
  simp only[kvO,zy,qw] at h
  obtain⟨v,vs,e,h1,h2⟩:=h
  cases es with
  | nil=>cases e
  | cons x es=>
   simp only[zy,Jz] at e ⊢
   obtain⟨e1,e2⟩:=e
   refine⟨e1.trans (rel_kk h1),rel_keys (by rw[e2];exact h2)⟩
structure KTy (Y:Tab) (t kt et it:TypeId):Prop where
 u:Y.underlying t=some (.map kt et)
 k:Y.underlying kt=some (.array 2 it)
 i:Y.underlying it=some (.int .i64)
 a:aggT Y it=some false
 z:szT Y it=some 1
section
variable {P:Program} {Y:Tab} [qH P Y] {t kt et it:TypeId}
theorem run_part2 (hT:KTy Y t kt et it) (a b:Value) (w:World):(part it #[a,b] 0).run P w=.ok a w/\(part it #[a,b] 1).run P w=.ok b w:=by constructor<;>simp[part,qp,kA hT.a]
theorem run_checkK (hT:KTy Y t kt et it) (b:Bool) (k:KI) (w:World):(Instr.checkKey b 10000 kt (kkV k)).run P w=.ok () w:=by
 obtain⟨h1,h2⟩:=run_part2 (P:=P) hT (.int .i64 k.1) (.int .i64 k.2) w
 have hi:∀ (n:Nat) (x:Int),(Instr.checkKey b (n+1) it (.int .i64 x)).run P w=.ok () w:=fun n x=>by simp[Instr.checkKey,qF hT.i]
 have key:∀ n:Nat,(Instr.checkKey b (n+1+1) kt (kkV k)).run P w=.ok () w:=fun n=>by
  rw[Instr.checkKey]
  simp only[kkV,qp,qF hT.k,qo]
  simp[Qe,Std.Legacy.Range.size,List.range',qX hT.z,h1,h2,hi]
 exact key 9998
theorem run_eqK (hT:KTy Y t kt et it) (k j:KI) (w:World):(Op.equal kt (kkV k) (kkV j)).run P w=.ok (decide (k=j)) w:=by
 obtain⟨h1,h2⟩:=run_part2 (P:=P) hT (.int .i64 k.1) (.int .i64 k.2) w
 obtain⟨h3,h4⟩:=run_part2 (P:=P) hT (.int .i64 j.1) (.int .i64 j.2) w
 have hi:∀ (n:Nat) (x y:Int),(Op.equalIn (n+1) it (.int .i64 x) (.int .i64 y)).run P w=.ok (x==y) w:=fun n x y=>by rw[Op.equalIn];simp[qF hT.i]
 have hd:decide (k=j)=(k.1==j.1&&k.2==j.2):=by grind
 have key:∀ n:Nat,(Op.equalIn (n+1+1) kt (kkV k) (kkV j)).run P w=.ok (decide (k=j)) w:=fun n=>by
  rw[Op.equalIn]
  simp only[kkV,qp,qF hT.k,qo,qX hT.z]
  rw[hd]
  cases e1:(k.1==j.1)<;>cases e2:(k.2==j.2)<;>
  simp[Qe,Std.Legacy.Range.size,List.range',h1,h2,h3,h4,hi,e1,e2]
 exact key 9998
theorem run_findK (hT:KTy Y t kt et it) {α:Type} (k:KI) (w:World):∀ (l:List (KI×α)) (es:List MapEntry) (i:Nat),es.map (·.key)=l.map (fun p=>kkV p.1)->
   ∃ r,(Instr.findAsking kt (kkV k) es i).run P w=.ok r w/\match idxI k i l with
    | none=>r=none
    | some j=>∃ e,es[j-i]? =some e/\i<=j/\r=some (j,e.val)
 | [],es,i,h=>by
  have:es=[]:=by simpa using h
  subst this
  exact⟨none,by simp[Instr.findAsking],by simp[idxI]⟩
 | (a,x)::l,[],i,h=>by cases h
 | (a,x)::l,e::es,i,h=>by
  simp only[zy,Jz] at h
  obtain⟨h1,h2⟩:=h
  simp only[Instr.findAsking,qp,h1,run_eqK hT,qo,idxI]
  by_cases hk:k=a
  ·simp only[hk,Wp,ql]
   exact⟨_,by simp,e,by simp,by simp,rfl⟩
  simp only[hk,decide_false,qk,qm]
  obtain⟨r,q1,q2⟩:=run_findK hT k w l es (i+1) h2
  grind
theorem run_findKey2 (hT:KTy Y t kt et it) (k:KI) (es:List MapEntry) (hk:∀ e∈es,∃ a,e.key=kkV a) (w:World):(Instr.findKey kt (kkV k) es).run P w=(Instr.findAsking kt (kkV k) es 0).run P w:=by
 cases es with
 | nil=>simp[Instr.findKey,qF hT.k,Instr.findNow,Instr.findAsking]
 | cons e es=>simp[Instr.findKey,qF hT.k,Instr.findNow,Instr.sameNow]
theorem keyStays2 (k:KI) (w:World):(Instr.keyThatStays (kkV k) (kkV k)).run P w=.ok (kkV k) w:=by
 have:Instr.sameBits 10000 (kkV k) (kkV k)=true:=by
  have key:∀ n:Nat,Instr.sameBits (n+1+1) (kkV k) (kkV k)=true:=fun n=>by simp[kkV,Instr.sameBits]
  exact key 9998
 simp[Instr.keyThatStays,this]
end
theorem idx_none {α:Type} {k:KI} (v:α):∀ {l:List (KI×α)} {i:Nat},idxI k i l=none->Qc k v l=l++[(k,v)]
 | [],i,_=>rfl
 | (a,x)::l,i,h=>by
  simp only[idxI] at h
  split at h
  ·cases h
  rename_i hne
  simp[Qc,hne,idx_none v h]
theorem idx_get {α:Type} {k:KI}:∀ {l:List (KI×α)} {i:Nat},idxI k i l=none->kN k l=none
 | [],i,_=>rfl
 | (a,x)::l,i,h=>by
  simp only[idxI] at h
  split at h
  ·cases h
  rename_i hne
  simp[kN,hne,idx_get h]
theorem idx_some {α:Type} {k:KI} (v:α):∀ {l:List (KI×α)} {i j:Nat},idxI k i l=some j->i<=j/\(∃ x,l[j-i]? =some (k,x)/\kN k l=some x)/\Qc k v l=l.set (j-i) (k,v)
 | [],i,j,h=>by cases h
 | (a,x)::l,i,j,h=>by
  simp only[idxI] at h
  split at h
  ·rename_i hq
   subst hq
   cases h
   simp[Qc,kN]
  rename_i hne
  obtain⟨h1,⟨y,h2,h4⟩,h3⟩:=idx_some v h
  have e:j-i=j-(i+1)+1:=aa
  grind [kN,Qc]
theorem qw.setAt {R:Rd}:∀ {cs:List PV} {vs:List Value} (_:qw R cs vs) (i:Nat) {p:PV} {v:Value} (_:qI R p v),qw R (cs.set i p) (vs.set i v)
 | [],vs,H,i,p,v,_=>by simp only[qw] at H;subst H;simp[qw]
 | c::cs,vs,H,0,p,v,h=>by
  grind [qw]
 | c::cs,vs,H,i+1,p,v,h=>by
  simp only[qw] at H
  obtain⟨v0,vs',rfl,H0,H⟩:=H
  simp only[XD,qw]
  exact⟨v0,_,rfl,H0,qw.setAt H i h⟩
theorem kO_at {α:Type} {G:Gh} {w:World} {h:Nat} {enc:α->PV} {l:List (KI×α)} (H:qW G w h (kO enc l)) :
  (G.ρ h).arr=false/\∃ es:List MapEntry,G.γ (G.ρ h).map=some h/\w.heap[(G.ρ h).map]? =some (.map es.toArray es.length)/\(∀ (i:Nat) (e:MapEntry),es[i]? =some e->e.born=i)/\
   es.map (·.key)=l.map (fun p=>kkV p.1)/\qw (G.rd w) ((kvO enc l).map (·.2)) (es.map (·.val))/\es.length=l.length:=by
 simp only[qW] at H
 obtain⟨h1,es,kv,rfl,h2,h3,h4,h5,h6⟩:=H
 refine⟨h1,es,h2,h3,h4,rel_keys h5,h6,?_⟩
 have:=h5.length
 simpa [kvO] using this
theorem at_kO {α:Type} {G:Gh} {w:World} {h:Nat} {enc:α->PV} {l:List (KI×α)} {es:List MapEntry} (h1:(G.ρ h).arr=false) (h2:G.γ (G.ρ h).map=some h) (h3:w.heap[(G.ρ h).map]? =some (.map es.toArray es.length))
  (h4:∀ (i:Nat) (e:MapEntry),es[i]? =some e->e.born=i) (h5:es.map (·.key)=l.map (fun p=>kkV p.1)) (h6:qw (G.rd w) ((kvO enc l).map (·.2)) (es.map (·.val))):qW G w h (kO enc l):=by
 simp only[qW]
 refine⟨h1,es,_,rfl,h2,h3,h4,?_,h6⟩
 rw[h5]
 have:∀ l:List (KI×α),qw (G.rd w) ((kvO enc l).map (·.1)) (l.map fun p=>kkV p.1):=by
  intro l
  induction l with
  | nil=>simp[kvO,qw]
  | cons p l ih=>simp only[kvO,zy,qw];exact⟨_,_,rfl,kk_rel,ih⟩
 exact this l
section
variable {P:Program} {Y:Tab} [qH P Y] {nb:Nat} {s:St} {dst:Option Tmp} {ty:TypeId} {pos:String} {af:Array Edge} {gd:Option (Nat×Bool)} {t kt et it:TypeId} {x y z:Operand} {α:Type} {enc:α->PV}
theorem B.newS {d h:Nat} (hm:jH s.ms h=false):jS P s ⟨some d,.makeMap t none,ty,pos,af,gd⟩ (.mref h) [(h,kO enc [])] []:=by
 refine jS.of fun σ G a w _ hl I=>?_
 have hl':qr σ.ms h=none:=(hl h (.inr ao)).trans (hasM_none hm)
 refine⟨.map (some w.heap.size),w.alloc (.map #[] 0),_,.inl (by simp[execOp,Instr.makeMap]),j2 (B:={ map:=w.heap.size }) I.fresh hl' ?_ ?_ ak am⟩
 ·simp[qt,Gh.new]
 exact at_kO (es:=[]) cw cw cz ao ao (by simp[kvO,qw])
theorem B.newK {d h:Nat} (hh:nameOf nb s.ms (some d)=h) (hm:jH s.ms h=false):Body P Y nb s ⟨some d,.makeMap t none,ty,pos,af,gd⟩ (.mref h) [(h,kO enc [])] []:=.inr (B.newS hm)
theorem B.setS {o:Op} (ho:o.operands=(Op.mapUpdate t x y z).operands) (he:∀ ev:Operand->Value,execOp ev ⟨none,o,ty,pos,af,gd⟩=execOp ev ⟨none,.mapUpdate t x y z,ty,pos,af,gd⟩) {h:Nat} {l:List (KI×α)} {k:KI} {v:α} (hT:KTy Y t kt et it) (hx:ev1 s x=.mref h) (hy:ev1 s y=.pv (kkP k)) (hz:ev1 s z=.pv (enc v)) (hl:qr s.ms h=some (kO enc l)) :
  jS P s ⟨none,o,ty,pos,af,gd⟩ .dead [(h,kO enc (Qc k v l))] [h]:=by
 refine jS.of fun σ G a w hv hl2 I=>?_
 have hX:=hv x c5
 have hY:=hv y c5
 have hZ:=hv z c5
 rw[hx] at hX;rw[hy] at hY;rw[hz] at hZ
 simp only[qt] at hX hY hZ
 have hY':=rel_kk hY
 have hlk:qr σ.ms h=some (kO enc l):=by grind
 obtain⟨k1,es,e1,e2,e3,e4,e5,e6⟩:=kO_at (I.ms _ _ hlk)
 have hgo:(getObj (G.ρ h).map).run P w=.ok (.map es.toArray es.length) w:=MapKept.run_getObj_map e2
 have hset:∀ o:Obj,(setObj (G.ρ h).map o).run P w=.ok () { w with heap:=w.heap.setIfInBounds (G.ρ h).map o }:=fun o=>MapKept.run_setObj_map o e2
 have hlt:(G.ρ h).map<w.heap.size:=(zS.1 e2).1
 have hkk:∀ e∈es,∃ a,e.key=kkV a:=by
  intro e he
  have:e.key∈es.map (·.key):=zE.2 ⟨e,he,rfl⟩
  grind
 obtain⟨r,hf1,hf2⟩:=run_findK (P:=P) hT k w l es 0 e4
 have hfk:=(run_findKey2 (P:=P) hT k es hkk w).trans hf1
 have fin:∀ (es':List MapEntry),(∀ (i:Nat) (e:MapEntry),es'[i]? =some e->e.born=i)->es'.map (·.key)=(Qc k v l).map (fun p=>kkV p.1)->qw (G.rd w) ((kvO enc (Qc k v l)).map (·.2)) (es'.map (·.val))->
   (Instr.mapUpdate t (.map (some (G.ρ h).map)) (kkV k) (a.eval z)).run P w=.ok () { w with heap:=w.heap.setIfInBounds (G.ρ h).map (.map es'.toArray es'.length) }->
   ∃ r w' G',((execOp a.eval ⟨none,o,ty,pos,af,gd⟩).run P w=.ok (.value r) w'\/(execOp a.eval ⟨none,o,ty,pos,af,gd⟩).run P w=.ok .skip w'/\r=undef)/\Stepped G w (qr σ.ms) .dead [(h,kO enc (Qc k v l))] G' w' r:=by
  intro es' c1 c2 c3 hrun
  have hblk:∀ b,G.γ b≠some h->(w.heap.setIfInBounds (G.ρ h).map (.map es'.toArray es'.length))[b]? =w.heap[b]? :=by grind
  refine⟨undef,{ w with heap:=w.heap.setIfInBounds (G.ρ h).map (.map es'.toArray es'.length) },G,.inr ⟨?_,rfl⟩,?_⟩
  ·rw[he];simp only[execOp,hX.2,hY',qp,hrun,qo,qq]
  have S:=q8 (m:=kO enc (Qc k v l)) (val:=.dead) (r:=undef) I.ctxS (B:=G.ρ h) hlk aU
   (w':={ w with heap:=w.heap.setIfInBounds (G.ρ h).map (.map es'.toArray es'.length) }) Z Z Z ao hblk aB ?_ ak am
  ·rw[Gh.qT] at S;exact S
  rw[Gh.qT]
  have L:(G.rd w).Le (G.rd { w with heap:=w.heap.setIfInBounds (G.ρ h).map (.map es'.toArray es'.length) }):=by
   have:=(kg (G:=G) (w:=w) (h:=h) (B:=G.ρ h) (w':={ w with heap:=w.heap.setIfInBounds (G.ρ h).map (.map es'.toArray es'.length) }) Z Z Z ao hblk).rd
   rwa [Gh.qT] at this
  exact at_kO (es:=es') k1 e1 (by show (w.heap.setIfInBounds (G.ρ h).map _)[(G.ρ h).map]? =_;rw[Qm];simp[hlt]) c1 c2 (qw.mono L _ _ c3)
 cases hi:idxI k 0 l with
 | none=>
  rw[hi] at hf2
  simp only at hf2
  subst hf2
  have s1:=idx_none v hi
  refine fin (es++[{ key:=kkV k,val:=a.eval z,born:=es.length }]) (fun i e h=>?_) (by rw[s1];simp[e4]) (by rw[s1];simp only[kvO,z8,zy,zX];exact qw.append (by simpa [kvO] using e5) (by simp only[qw];exact⟨_,_,rfl,hZ,rfl⟩)) ?_
  ·grind
  simp only[Instr.mapUpdate,qp,qF hT.u,qo,hgo,run_checkK hT,hfk,hset]
  simp
 | some j=>
  rw[hi] at hf2
  simp only at hf2
  obtain⟨e0,g1,_,rfl⟩:=hf2
  obtain⟨_,⟨x0,s2,_⟩,s3⟩:=idx_some v hi
  simp only[KQ] at g1 s2 s3
  have hjl:j<es.length:=(QD.1 g1).1
  have hk0:e0.key=kkV k:=by
   have h1:(es.map (·.key))[j]? =some e0.key:=by simp[g1]
   grind
  have ek:(es.modify j fun e=>{ e with key:=kkV k,val:=a.eval z })=es.set j { e0 with key:=kkV k,val:=a.eval z }:=by
   apply XU
   grind
  refine fin (es.set j { e0 with key:=kkV k,val:=a.eval z }) (fun i e h=>?_) (by rw[s3];simp only[KA,e4]) (by rw[s3];simp only[kvO,KA];exact qw.setAt (by simpa [kvO] using e5) j hZ) ?_
  ·grind
  simp only[Instr.mapUpdate,qp,qF hT.u,qo,hgo,run_checkK hT,hfk]
  have hkey:((((es.toArray)[j]?).map (·.key)).getD (kkV k))=kkV k:=by grind
  grind [keyStays2,Result.andThen_ok]
theorem B.setK {h:Nat} {l:List (KI×α)} {k:KI} {v:α} (hT:KTy Y t kt et it) (hx:ev1 s x=.mref h) (hy:ev1 s y=.pv (kkP k)) (hz:ev1 s z=.pv (enc v)) (hl:qr s.ms h=some (kO enc l)) :
  Body P Y nb s ⟨none,.mapUpdate t x y z,ty,pos,af,gd⟩ .dead [(h,kO enc (Qc k v l))] [h]:=.inr (B.setS Z (fun _=>rfl) hT hx hy hz hl)
theorem B.insK {h:Nat} {l:List (KI×α)} {k:KI} {v:α} (hT:KTy Y t kt et it) (hx:ev1 s x=.mref h) (hy:ev1 s y=.pv (kkP k)) (hz:ev1 s z=.pv (enc v)) (hl:qr s.ms h=some (kO enc l)) :
  Body P Y nb s ⟨none,.insert t x y z,ty,pos,af,gd⟩ .dead [(h,kO enc (Qc k v l))] [h]:=.inr (B.setS (o:=.insert t x y z) Z (fun _=>rfl) hT hx hy hz hl)
theorem run_getK {a:Act} {w:World} {G:Gh} {σ:St} {h:Nat} {l:List (KI×α)} {k:KI} {zv:Value} {zp:PV} {i:TypeInfo} (ok:Bool) (I:Inv G σ.vw a w) (hT:KTy Y t kt et it) (hlk:qr σ.ms h=some (kO enc l)) (hi:Y.info? et=some i) (hz:i.zero=some zv) (hzp:∀ R,qI R zp zv) :
  ∃ rv:Value,(Instr.lookup t (.map (some (G.ρ h).map)) (kkV k) ok).run P w=.ok (if ok then .tuple #[rv,.bool (kN k l).isSome] else rv) w/\qI (G.rd w) (match kN k l with|some v=>enc v|none=>zp) rv:=by
 obtain⟨k1,es,e1,e2,e3,e4,e5,e6⟩:=kO_at (I.ms _ _ hlk)
 have hgo:(getObj (G.ρ h).map).run P w=.ok (.map es.toArray es.length) w:=MapKept.run_getObj_map e2
 have hkk:∀ e∈es,∃ a,e.key=kkV a:=by
  intro e he
  have:e.key∈es.map (·.key):=zE.2 ⟨e,he,rfl⟩
  grind
 obtain⟨r,hf1,hf2⟩:=run_findK (P:=P) hT k w l es 0 e4
 have hfk:=(run_findKey2 (P:=P) hT k es hkk w).trans hf1
 have hzr:(zeroValue et).run P w=.ok zv w:=by simp[zeroValue,qp,typeInfo,qH.inf P hi,hz]
 simp only[Instr.lookup,qp,qF hT.u,qo,hgo,run_checkK hT,hfk,qq]
 cases hq:idxI k 0 l with
 | none=>
  rw[hq] at hf2
  simp only at hf2
  subst hf2
  have s1:=idx_get hq
  simp only[qp,hzr,qo,qq,s1]
  exact⟨zv,rfl,hzp _⟩
 | some j=>
  rw[hq] at hf2
  simp only at hf2
  obtain⟨e0,g1,_,rfl⟩:=hf2
  simp only[KQ] at g1
  cases hl0:l with
  | nil=>rw[hl0] at hq;cases hq
  | cons p0 l0=>
   rw[<-hl0]
   obtain⟨_,⟨x0,s2,s3⟩,_⟩:=idx_some p0.2 hq
   simp only[KQ] at s2
   simp only[qp,qo,qq,s3]
   refine⟨e0.val,rfl,?_⟩
   have hj:j<(List.map (fun p=>p.2) (kvO enc l)).length:=by grind [kvO]
   obtain⟨v',q1,q2⟩:=e5.get j hj
   grind [kvO]
theorem B.getK {h:Nat} {l:List (KI×α)} {k:KI} {zv:Value} {zp:PV} {i:TypeInfo} (hT:KTy Y t kt et it) (hx:ev1 s x=.mref h) (hy:ev1 s y=.pv (kkP k)) (hl:qr s.ms h=some (kO enc l)) (hi:Y.info? et=some i) (hz:i.zero=some zv) (hzp:∀ R,qI R zp zv) :
  Body P Y nb s ⟨dst,.lookup t x y true,ty,pos,af,gd⟩ (.tup [.pv (match kN k l with|some v=>enc v|none=>zp),lit (.bool (kN k l).isSome)]) [] [h]:=by
 refine .inr (jS.of fun σ G a w hv hl2 I=>?_)
 have hX:=hv x aS
 have hY:=hv y aS
 rw[hx] at hX;rw[hy] at hY
 simp only[qt] at hX hY
 have hlk:qr σ.ms h=some (kO enc l):=by grind
 obtain⟨rv,hrun,hrel⟩:=run_getK (P:=P) (k:=k) true I hT hlk hi hz hzp
 refine⟨.tuple #[rv,.bool (kN k l).isSome],w,G,.inl ?_,qD I.ctxS ?_ bW⟩
 ·simp only[execOp,hX.2,rel_kk hY,qp,hrun,qo,qq];rfl
 grind [qt,qz,lit,qI,isLit]
theorem B.getK0 {h:Nat} {l:List (KI×α)} {k:KI} {v:α} {zv:Value} {zp:PV} {i:TypeInfo} (hT:KTy Y t kt et it) (hx:ev1 s x=.mref h) (hy:ev1 s y=.pv (kkP k)) (hl:qr s.ms h=some (kO enc l)) (hi:Y.info? et=some i) (hz:i.zero=some zv) (hzp:∀ R,qI R zp zv) (hg:kN k l=some v) :
  Body P Y nb s ⟨dst,.lookup t x y false,ty,pos,af,gd⟩ (.pv (enc v)) [] [h]:=by
 refine .inr (jS.of fun σ G a w hv hl2 I=>?_)
 have hX:=hv x aS
 have hY:=hv y aS
 rw[hx] at hX;rw[hy] at hY
 simp only[qt] at hX hY
 have hlk:qr σ.ms h=some (kO enc l):=by grind
 obtain⟨rv,hrun,hrel⟩:=run_getK (P:=P) (k:=k) false I hT hlk hi hz hzp
 rw[hg] at hrel
 refine⟨rv,w,G,.inl ?_,qD I.ctxS ?_ ak⟩
 ·simp only[execOp,hX.2,rel_kk hY,qp,hrun,qo,qq];rfl
 simp only[qt];exact hrel
theorem B.rangeK {hm:Nat} {l:List (KI×α)} {d h:Nat} (hT:KTy Y t kt et it) (hx:ev1 s x=.mref hm) (hl:qr s.ms hm=some (kO enc l)) (hh:nameOf nb s.ms (some d)=h) (hf:jH s.ms h=false) :
  Body P Y nb s ⟨some d,.range t x,ty,pos,af,gd⟩ (.bref h 0) [(h,.miter hm l.length #[])] [hm]:=by
 refine .inr (jS.of fun σ G a w hv hl2 I=>?_)
 have hX:=hv x aS
 rw[hx] at hX
 simp only[qt] at hX
 have hlk:qr σ.ms hm=some (kO enc l):=by grind
 have hln:qr σ.ms h=none:=(hl2 h (.inr ao)).trans (hasM_none hf)
 have hne:hm≠h:=fun e=>by rw[e,hln] at hlk;cases hlk
 obtain⟨k1,es,e1,e2,e3,e4,e5,e6⟩:=kO_at (I.ms _ _ hlk)
 have hgo:(getObj (G.ρ hm).map).run P w=.ok (.map es.toArray es.length) w:=MapKept.run_getObj_map e2
 have hrun:(Instr.range t (.map (some (G.ρ hm).map))).run P w=.ok (.pointer (some ⟨w.heap.size,0,none⟩)) (w.alloc (.mapIter (some (G.ρ hm).map) l.length #[] l.length)):=by
  rw[<-e6]
  simp only[Instr.range,qp,qF hT.u,qo,hgo,qq,run_newObj];rfl
 refine⟨.pointer (some ⟨w.heap.size,0,none⟩),w.alloc (.mapIter (some (G.ρ hm).map) l.length #[] l.length),_,.inl ?_,j2 (B:={ addr:=some ⟨w.heap.size,0,none⟩ }) I.fresh hln ?_ ?_ ak (by intro k hk;simp[MO.refs] at hk;subst hk;exact .inr ⟨_,hlk⟩)⟩
 ·simp only[execOp,hX.2,qp,hrun,qo,qq]
 ·simp[qt,Gh.new]
 simp only[qW]
 have hρ:(G.new h { addr:=some ⟨w.heap.size,0,none⟩ } w.heap.size).ρ hm=G.ρ hm:=by simp[Gh.new,hne]
 refine⟨by simp[Gh.new],by rw[hρ];exact k1,w.heap.size,by simp[Gh.new],by simp[Gh.new],?_⟩
 rw[hρ]
 exact heap_alloc_new w _
theorem kk_val {G:Gh} {w:World} {l:List (KI×α)} {es:List MapEntry} {i:Nat} {e:MapEntry} {k:KI} {v:α} (e4:es.map (·.key)=l.map (fun p=>kkV p.1)) (e5:qw (G.rd w) ((kvO enc l).map (·.2)) (es.map (·.val))) (he:es[i]? =some e) (hi:l[i]? =some (k,v)) :
  e.key=kkV k/\qI (G.rd w) (enc v) e.val:=by
 constructor
 ·have h1:(es.map (·.key))[i]? =some e.key:=by simp[he]
  rw[e4] at h1
  grind
 have hj:i<(List.map (fun p=>p.2) (kvO enc l)).length:=by simpa [kvO] using (QD.1 hi).1
 obtain⟨v',q1,q2⟩:=e5.get i hj
 grind [kvO]
theorem B.entryK {hm h i:Nat} {l:List (KI×α)} {seen:Array Nat} {k:KI} {v:α} (hx:ev1 s x=.bref h 0) (hl:qr s.ms h=some (.miter hm l.length (seen.push i))) (hm':qr s.ms hm=some (kO enc l)) (hi:l[i]? =some (k,v)) :
  Body P Y nb s ⟨dst,.entry x,ty,pos,af,gd⟩ (.tup [.pv (kkP k),.pv (enc v)]) [] [h,hm]:=by
 refine .inr (jS.of fun σ G a w hv hl2 I=>?_)
 have hX:=hv x aS
 rw[hx] at hX
 simp only[qt] at hX
 obtain⟨_,b,e0,hX⟩:=hX
 have hlk:qr σ.ms h=some (.miter hm l.length (seen.push i)):=by grind
 have hlm:qr σ.ms hm=some (kO enc l):=by grind
 obtain⟨_,_,b',f1,f2,f3⟩:=I.ms _ _ hlk
 obtain⟨k1,es,e1,e2,e3,e4,e5,e6⟩:=kO_at (I.ms _ _ hlm)
 rw[e0] at f1
 simp only[zh,Addr.mk.injEq,WC] at f1
 subst f1
 have hgo:(getObj (G.ρ hm).map).run P w=.ok (.map es.toArray es.length) w:=MapKept.run_getObj_map e2
 have hgi:(getObj b).run P w=.ok (.mapIter (some (G.ρ hm).map) l.length (seen.push i) l.length) w:=by simp[getObj,Sem.run,f3]
 have hil:i<es.length:=by grind
 have hei:es[i]? =some es[i]:=zm hil
 obtain⟨q1,q2⟩:=kk_val e4 e5 hei hi
 have hfind:es.toArray.find? (·.born==i)=some es[i]:=by
  rw[List.find?_toArray]
  rw[List.find?_eq_some_iff_getElem]
  refine⟨by rw[e3 i _ hei];simp,i,hil,rfl,fun j hj=>?_⟩
  have hjl:j<es.length:=aa
  rw[e3 j _ (zm hjl)]
  simp;omega
 have hrun:(Instr.entry (.pointer (some ⟨b,0,none⟩))).run P w=.ok (.tuple #[kkV k,es[i].val]) w:=by simp only[Instr.entry,qp,hgi,qo,Array.back?_push,hgo,e6,bne_self_eq_false,qk,qm,hfind,qq,q1]
 refine⟨.tuple #[kkV k,es[i].val],w,G,.inl ?_,qD I.ctxS ?_ bc⟩
 ·simp only[execOp,hX,qp,hrun,qo,qq]
 simp only[qt,qz]
 exact⟨_,rfl,_,_,rfl,kk_rel,_,_,rfl,q2,rfl⟩
end
theorem run_nextK {P:Program} {w:World} {b r:Nat} {es:List MapEntry} {seen:Array Nat} {ty:TypeId} (hborn:∀ (i:Nat) (e:MapEntry),es[i]? =some e->e.born=i) (hb:w.heap[b]? =some (.mapIter (some r) es.length seen es.length)) (hr:w.heap[r]? =some (.map es.toArray es.length)) :
  ∃ d,w.drawn<=d/\(((∀ i,i<es.length->i∈seen)/\(Instr.next (.pointer (some ⟨b,0,none⟩)) false ty).run P w=.ok (.tuple #[.bool false]) { w with drawn:=d })\/
   ∃ i e,es[i]? =some e/\i∉seen/\(Instr.next (.pointer (some ⟨b,0,none⟩)) false ty).run P w=.ok (.tuple #[.bool true,e.key,e.val]) { w with heap:=w.heap.setIfInBounds b (.mapIter (some r) es.length (seen.push i) es.length),drawn:=d }):=by
 have hmb:∀ e∈es,es[e.born]? =some e/\e.born<es.length:=by
  intro e he
  obtain⟨j,hj,rfl⟩:=Xq he
  have:=hborn j _ (zm hj)
  grind
 have hgb:(getObj b).run P w=.ok (.mapIter (some r) es.length seen es.length) w:=by simp only[getObj,Sem.run,hb]
 have hgr:(getObj r).run P w=.ok (.map es.toArray es.length) w:=MapKept.run_getObj_map hr
 have h0:(!seen.isEmpty&&!es.toArray.isEmpty&&es.toArray.all (fun x=>decide (x.born>=es.length)))=false:=by
  cases es with
  | nil=>simp
  | cons p l=>
   grind
 obtain⟨L,hL⟩:∃ L,L=es.toArray.filter (fun e=>!seen.contains e.born):=⟨_,rfl⟩
 have hmem:∀ x∈L,x∈es/\x.born∉seen:=by grind
 have e1:L.filter (fun x=>decide (x.born<es.length))=L:=Array.filter_eq_self.2 (fun x hx=>by simpa using (hmb x (hmem x hx).1).2)
 have e2:L.filter (fun x=>decide (x.born>=es.length))= #[]:=by
  rw[Array.filter_eq_empty_iff]
  grind
 have hnx:(Instr.next (.pointer (some ⟨b,0,none⟩)) false ty).run P w=((choose (.mapNext (((if L.isEmpty then #[none] else #[])++(L++ #[]).map some:Array (Option MapEntry))).size)).run P w).andThen (fun j w1=>
   (match ((if L.isEmpty then #[none] else #[])++(L++ #[]).map some:Array (Option MapEntry))[j]? with
   | some (some e)=>do
    setObj b (.mapIter (some r) es.length (seen.push e.born) es.length)
    pure (Value.tuple #[.bool true,e.key,e.val])
   | some none=>(pure (Value.tuple #[.bool false]):Sem Value)
   | none=>stuck "Next: no such candidate").run P w1):=by
  simp only[Instr.next,qp,hgb,qo,hgr,h0,qk,qm,<-hL,e1,e2]
  rfl
 by_cases hz:L.size=0
 ·have:L= #[]:=Qg hz
  subst this
  refine⟨w.drawn,zB _,.inl ⟨fun i hi=>?_,?_⟩⟩
  ·by_cases hs:i∈seen
   ·exact hs
   exfalso
   have hg:es[i]? =some es[i]:=zm hi
   grind
  rw[hnx]
  simp[run_choose,Question.forced]
 have hne:L.isEmpty=false:=by rw[Array.isEmpty_eq_false_iff];intro e;rw[e] at hz;exact hz rfl
 obtain⟨j,d,hj,hlt,hdd⟩:=run_pick (P:=P) (w:=w) (n:=L.size) aa
 have hx:=Array.getElem_mem hlt
 obtain⟨hm1,hm2⟩:=hmem _ hx
 obtain⟨g1,_⟩:=hmb _ hm1
 refine⟨d,hdd,.inr ⟨L[j].born,L[j],g1,hm2,?_⟩⟩
 rw[hnx]
 simp only[hne,qk,qm,Array.append_empty,Array.empty_append,Array.size_map,hj,qo,Array.getElem?_map,Qz hlt,qc]
 simp only[qp,setObj,Sem.run,hb,qo,qq]
section
variable {P:Program} {Y:Tab} [qH P Y] {nb n:Nat} {ops:Array Oper} {s:St} {α:Type} {enc:α->PV}
theorem T.nextK [Fc] {id h hm:Nat} {l:List (KI×α)} {seen:Array Nat} {dst:Option Tmp} {x:Operand} {ty:TypeId} {pos:String} {af:Array Edge} {os:List Oper} {Q:Exit->St->Prop}
  (hops:ops.toList=⟨dst,.next x false,ty,pos,af,none⟩::os) (hda:jh n (.region id ops false)=true) (hx:ev1 s x=.bref h 0)
  (hl:qr s.ms h=some (.miter hm l.length seen)) (hmm:qr s.ms hm=some (kO enc l))
  (hT:∀ i k v,l[i]? =some (k,v)->i∉seen->RG P Y nb ops false os (stp s ⟨dst,.tup [lit (.bool true),.pv (kkP k),.pv (enc v)],[(h,.miter hm l.length (seen.push i))],[h,hm]⟩) [] (fun s'=>Q .normal s'))
  (hF:(∀ i,i<l.length->i∈seen)->RG P Y nb ops false os (stp s ⟨dst,.tup [lit (.bool false)],[],[h,hm]⟩) [] (fun s'=>Q .normal s')):T P n nb (.region id ops false) s Q:=by
 intro G a w R I hn hK
 simp only[jh,zj] at hda
 have hda1:=hda.1
 rw[hops] at hda1
 simp only[Kh,zj] at hda1
 obtain⟨hd0,hds⟩:=hda1
 have hidx:(List.range ops.size).map (fun i=>ops[i]?)=ops.toList.map some:=by
  apply XU
  grind
 have hsz:ops.size=os.length+1:=by rw[<-qf,hops];rfl
 have hrng:List.range ops.size=0::(List.range os.length).map Nat.succ:=by rw[hsz,List.range_succ_eq_map]
 rw[hops,hrng] at hidx
 simp only[zy,Jz] at hidx
 obtain⟨hi0,hidx⟩:=hidx
 refine wpIn_region ?_
 rw[hrng]
 simp only[wpOpsIn,hi0]
 have hX:=Zq I x
 rw[hx] at hX
 simp only[qt] at hX
 obtain⟨_,b,e0,hX⟩:=hX
 obtain⟨ka,kb,b',f1,f2,f3⟩:=I.ms _ _ hl
 obtain⟨k1,es,e1,e2,e3,e4,e5,e6⟩:=kO_at (I.ms _ _ hmm)
 rw[e0] at f1
 simp only[zh,Addr.mk.injEq,WC] at f1
 subst f1
 have hwant:Region.wanted (⟨dst,.next x false,ty,pos,af,none⟩:Oper) (yielded ops a.tmps)=true:=rfl
 rw[WK hwant]
 have pd:∀ v,(a.put dst v).defers=a.defers:=fun v=>by cases dst<;>rfl
 have fin:∀ (e:Ef) (r:Value) (w':World) (G1:Gh),e.dst=dst->Stepped G w (qr s.ms) e.val e.ms G1 w' r->RG P Y nb ops false os (stp s e) [] (fun s'=>Q .normal s')->
   wpOpsIn fcF 0 P ops R ((List.range os.length).map Nat.succ) (a.put dst r) w':=by
  rintro e r w' G1 rfl S ⟨es,hes,_,hq⟩
  obtain⟨I1,Sn1⟩:=I.eff (K:=nb) S e.dst (dstOk_lt hd0 hn)
  refine textR (P:=P) _ hes hidx hds (G:=G1) I1 aP ?_
  intro G2 a2 w2 I2 Sn2 hn2 hd2
  exact hK _ _ _ _ _ hq I2 (Sn1.trans Sn2) hn2 (Mks.of (hd2.trans (pd r)))
 rw[<-e6] at f3
 obtain⟨d,hwd,⟨hall,hrun⟩|⟨i,e,g1,g2,hrun⟩⟩:=run_nextK (P:=P) (ty:=ty) e3 f3 e2
 ·have hex:(execOp a.eval ⟨dst,.next x false,ty,pos,af,none⟩).run P w=.ok (.value (.tuple #[.bool false])) { w with drawn:=d }:=by
   simp only[execOp,hX,qp,hrun,qo,qq]
  refine wpR_of ?_ ao _
  unfold Oper.wp
  rw[hex]
  refine fin ⟨dst,.tup [lit (.bool false)],[],[h,hm]⟩ _ _ G Z ?_ (hF (by rw[<-e6];exact hall))
  have I':Inv G s.vw a { w with drawn:=d }:=I.drew d
  have S:=qD I'.ctxS (val:=.tup [lit (.bool false)]) (r:=.tuple #[.bool false]) (by simp only[qt];exact⟨_,rfl,RelDVs_lits (vs:=[.bool false]) au⟩) bW
  exact { S with later:=⟨S.later.base,S.later.R0,S.later.R0c,S.later.R0m,S.later.os,S.later.tape,S.later.output,S.later.size,S.later.cold,fun _=>hwd⟩ }
 have hil:i<l.length:=by rw[<-e6];exact (QD.1 g1).1
 obtain⟨k,v,hkv⟩:∃ k v,l[i]? =some (k,v):=⟨_,_,zm hil⟩
 obtain⟨q1,q2⟩:=kk_val e4 e5 g1 hkv
 have hex:(execOp a.eval ⟨dst,.next x false,ty,pos,af,none⟩).run P w=.ok (.value (.tuple #[.bool true,kkV k,e.val])) { w with heap:=w.heap.setIfInBounds b (.mapIter (some (G.ρ hm).map) es.length (seen.push i) es.length),drawn:=d }:=by simp only[execOp,hX,qp,hrun,qo,qq,q1]
 refine wpR_of ?_ ao _
 unfold Oper.wp
 rw[hex]
 refine fin ⟨dst,.tup [lit (.bool true),.pv (kkP k),.pv (enc v)],[(h,.miter hm l.length (seen.push i))],[h,hm]⟩ _ _ G Z ?_ (hT i k v hkv g2)
 have hbl:b<w.heap.size:=(zS.1 f3).1
 have hblk:∀ b',G.γ b'≠some h->(w.heap.setIfInBounds b (.mapIter (some (G.ρ hm).map) es.length (seen.push i) es.length))[b']? =w.heap[b']? :=by
  intro b' hb
  rw[Qm,WJ (fun e=>hb (by rw[<-e];exact f2))]
 have L:(G.rd w).Le (G.rd { w with heap:=w.heap.setIfInBounds b (.mapIter (some (G.ρ hm).map) es.length (seen.push i) es.length),drawn:=d }):=by
  have:=(kg (G:=G) (w:=w) (h:=h) (B:=G.ρ h) (w':={ w with heap:=w.heap.setIfInBounds b (.mapIter (some (G.ρ hm).map) es.length (seen.push i) es.length),drawn:=d }) Z Z Z ao hblk (fun _=>hwd)).rd
  rwa [Gh.qT] at this
 have S:=q8 (m:=.miter hm l.length (seen.push i)) (val:=.tup [lit (.bool true),.pv (kkP k),.pv (enc v)]) (r:=.tuple #[.bool true,kkV k,e.val]) I.ctxS (B:=G.ρ h) hl aU
  (w':={ w with heap:=w.heap.setIfInBounds b (.mapIter (some (G.ρ hm).map) es.length (seen.push i) es.length),drawn:=d }) Z Z Z ao hblk ?_ ?_ bW (by intro k hk;simp[MO.refs] at hk;subst hk;exact⟨_,hmm⟩) (fun _=>hwd)
 ·rw[Gh.qT] at S;exact S
 ·rw[Gh.qT]
  simp only[qt,qz]
  exact⟨_,rfl,_,_,rfl,by simp[lit,qt,qI,isLit],_,_,rfl,kk_rel,_,_,rfl,qI.mono L _ _ q2,rfl⟩
 rw[Gh.qT]
 simp only[qW]
 refine⟨ka,kb,b,e0,f2,?_⟩
 show (w.heap.setIfInBounds b _)[b]? =_
 rw[Qm,<-e6];simp[hbl]
end
theorem TK.nextK [Fc] {P:Program} {Y:Tab} [qH P Y] {nb n:Nat} {ops:Array Oper} {s:St} {α:Type} {enc:α->PV} {Q:Exit->St->Prop} {K:List Fr} {id h hm:Nat} {l:List (KI×α)} {seen:Array Nat} {dst:Option Tmp} {x:Operand} {ty:TypeId} {pos:String} {af:Array Edge} {os:List Oper}
  (hops:ops.toList=⟨dst,.next x false,ty,pos,af,none⟩::os) (hda:jh n (.region id ops false)=true) (hx:ev1 s x=.bref h 0)
  (hl:qr s.ms h=some (.miter hm l.length seen)) (hmm:qr s.ms hm=some (kO enc l))
  (hT:∀ i k v,l[i]? =some (k,v)->i∉seen->RG P Y nb ops false os (stp s ⟨dst,.tup [lit (.bool true),.pv (kkP k),.pv (enc v)],[(h,.miter hm l.length (seen.push i))],[h,hm]⟩) [] (PK P n nb Q K .normal))
  (hF:(∀ i,i<l.length->i∈seen)->RG P Y nb ops false os (stp s ⟨dst,.tup [lit (.bool false)],[],[h,hm]⟩) [] (PK P n nb Q K .normal)):TK P n nb Q (.region id ops false) K s:=
 T.nextK (Y:=Y) hops hda hx hl hmm hT hF
theorem TK.moE [Fc] {P:Program} {n nb:Nat} {Q:Exit->St->Prop} {K:List Fr} {c:Code} {tm:List (Nat×DV)} {ms:Na} {h:Nat} {o:MO} {ι:Type} {p:ι->Prop} {o':ι->MO} (hm:qr ms h=some o)
  (ho:∀ (G:Gh) (w:World),qW G w h o->∃ i,p i/\qW G w h (o' i)) (hr:∀ i,(o' i).refs=[]) (k:∀ i,p i->TK P n nb Q c K ⟨tm,(h,o' i)::ms⟩):TK P n nb Q c K ⟨tm,ms⟩:=by
 intro G a w R I hn hK
 obtain⟨i,hp,H⟩:=ho G w (I.ms h _ hm)
 have S:=q8 (m:=o' i) (val:=.dead) (r:=undef) I.ctxS (B:=G.ρ h) hm aU (w':=w) Z Z Z Z (fun _ _=>rfl) aB c6 ak (by rw[hr];simp)
 rw[Gh.qT] at S
 obtain⟨I1,Sn1⟩:=I.eff (s:=⟨tm,ms⟩) (K:=nb) S none ao
 exact k i hp G a w R I1 hn fun e s' G' a' w' hq I' Sn' hn' hm'=>hK e s' G' a' w' hq I' (Sn1.trans Sn') hn' hm'
section
variable [Fc] {P:Program} {n nb:Nat} {Q:Exit->St->Prop} {K:List Fr} {c:Code} {tm:List (Nat×DV)} {ms:Na} {h:Nat}
theorem TK.shutK {R R':List (PV×PV)->Prop} (hm:qr ms h=some (.kmap R)) (hR:∀ kv,R kv->R' kv) (k:TK P n nb Q c K ⟨tm,(h,.kmap R')::ms⟩):TK P n nb Q c K ⟨tm,ms⟩:=
 TK.moE (ι:=Unit) (p:=fun _=>True) (o':=fun _=>.kmap R') hm (fun G w H=>by
  simp only[qW] at H ⊢
  obtain⟨h1,es,kv,h2,h3⟩:=H
  exact⟨(),trivial,h1,es,kv,hR kv h2,h3⟩) (fun _=>rfl) (fun _ _=>k)
theorem TK.openA {R:List (List PV)->Prop} {v sz:Nat} {T:TypeId} (hm:qr ms h=some (.arrK v sz T R)) (k:∀ es,R es->TK P n nb Q c K ⟨tm,(h,.arr v sz T es)::ms⟩):TK P n nb Q c K ⟨tm,ms⟩:=
 TK.moE (o':=fun es=>.arr v sz T es) hm (fun G w H=>by
  simp only[qW] at H ⊢
  obtain⟨es,h2,h3⟩:=H
  exact⟨es,h2,h3⟩) (fun _=>rfl) k
theorem TK.shutA {R:List (List PV)->Prop} {v sz:Nat} {T:TypeId} {es:List (List PV)} (hm:qr ms h=some (.arr v sz T es)) (hR:R es) (k:TK P n nb Q c K ⟨tm,(h,.arrK v sz T R)::ms⟩):TK P n nb Q c K ⟨tm,ms⟩:=
 TK.moE (ι:=Unit) (p:=fun _=>True) (o':=fun _=>.arrK v sz T R) hm (fun G w H=>by
  simp only[qW] at H ⊢
  exact⟨(),trivial,es,hR,H⟩) (fun _=>rfl) (fun _ _=>k)
end
end Go.Lens
end
section
namespace Go.Lens
variable [Lz]
mutual
def DV.ren (g:Nat->Nat):DV->DV
 | .dead=>.dead
 | .nils=>.nils
 | .gd c d=>.gd c (d.ren g)
 | .pv p=>.pv p
 | .bref h c=>.bref (g h) c
 | .aref h v=>.aref (g h) v
 | .atrunc h v k=>.atrunc (g h) v k
 | .eref h v i c=>.eref (g h) v i c
 | .awin h v o n=>.awin (g h) v o n
 | .mref h=>.mref (g h)
 | .agg ds=>.agg (DV.renL g ds)
 | .tup ds=>.tup (DV.renL g ds)
 | .clos f a c=>.clos f (DV.renL g a) (DV.renL g c)
 | .yld h ps asg bd ds=>.yld (g h) ps asg bd (DV.renL g ds)
def DV.renL (g:Nat->Nat):List DV->List DV
 | []=>[]
 | d::ds=>d.ren g::DV.renL g ds
end
def MO.ren (g:Nat->Nat):MO->MO
 | .box T ds=>.box T (DV.renL g ds)
 | .miter hm s n=>.miter (g hm) s n
 | .arr v e T es=>.arr v e T es
 | .map a b=>.map a b
 | .fbox a=>.fbox a
 | .farr v e=>.farr v e
 | .fmap a b=>.fmap a b
 | .siter a p=>.siter a p
 | .obj o=>.obj o
 | .kmap R=>.kmap R
 | .arrK v e T R=>.arrK v e T R
 | .lrec a b=>.lrec a b
 | .kdat P=>.kdat P
 | .gone=>.gone
def renM (g:Nat->Nat) (l:Na):Na:=l.map fun p=>(g p.1,p.2.ren g)
def Gh.ren (G:Gh) (g g':Nat->Nat):Gh:={ G with ρ:=fun x=>G.ρ (g x),γ:=fun b=>(G.γ b).map g' }
mutual
theorem ren_refs (g:Nat->Nat):∀ d:DV,(d.ren g).refs=d.refs.map g
 | .dead| .nils| .pv _=>rfl
 | .gd c d=>by simp only[DV.ren,DV.refs];exact ren_refs g d
 | .bref h c| .aref h v| .atrunc h v k| .eref h v i c| .awin h v o n| .mref h=>rfl
 | .agg ds| .tup ds=>by simp only[DV.ren,DV.refs];exact Z6 g ds
 | .clos f a c=>by simp only[DV.ren,DV.refs,Z6 g a,Z6 g c,z8]
 | .yld h ps asg bd ds=>by simp only[DV.ren,DV.refs,Z6 g ds,zy]
theorem Z6 (g:Nat->Nat):∀ ds:List DV,DV.qL (DV.renL g ds)=(DV.qL ds).map g
 | []=>rfl
 | d::ds=>by simp only[DV.renL,DV.qL,ren_refs g d,Z6 g ds,z8]
end
theorem mo_refs (g:Nat->Nat) (o:MO):(o.ren g).refs=o.refs.map g:=by cases o<;>simp[MO.ren,MO.refs,Z6]
section
variable {G:Gh} {g g':Nat->Nat} {w:World}
mutual
theorem RelDV_ren {R:Rd}:∀ (d:DV) (v:Value),qt (G.ren g g') R d v↔qt G R (d.ren g) v
 | .dead,_=>by simp only[DV.ren,qt]
 | .nils,_=>by simp only[DV.ren,qt]
 | .pv _,_=>by simp only[DV.ren,qt]
 | .gd c d,v=>by simp only[DV.ren,qt,RelDV_ren d v]
 | .bref h c,_=>by simp only[DV.ren,qt,Gh.ren]
 | .aref h c,_=>by simp only[DV.ren,qt,Gh.ren]
 | .atrunc h c k,_=>by simp only[DV.ren,qt,Gh.ren]
 | .eref h c i k,_=>by simp only[DV.ren,qt,Gh.ren]
 | .awin h c i k,_=>by simp only[DV.ren,qt,Gh.ren]
 | .mref h,_=>by simp only[DV.ren,qt,Gh.ren]
 | .agg ds,v=>by simp only[DV.ren,qt,kz ds]
 | .tup ds,v=>by simp only[DV.ren,qt,kz ds]
 | .clos f a c,v=>by simp only[DV.ren,qt,kz a,kz c]
 | .yld h ps asg bd ds,v=>by simp only[DV.ren,qt,kz ds];rfl
theorem kz {R:Rd}:∀ (ds:List DV) (vs:List Value),qz (G.ren g g') R ds vs↔qz G R (DV.renL g ds) vs
 | [],_=>by simp only[DV.renL,qz]
 | d::ds,vs=>by
  simp only[DV.renL,qz]
  constructor
  ·rintro⟨v,vs',h1,h2,h3⟩;exact⟨v,vs',h1,(RelDV_ren d v).1 h2,(kz ds vs').1 h3⟩
  rintro⟨v,vs',h1,h2,h3⟩;exact⟨v,vs',h1,(RelDV_ren d v).2 h2,(kz ds vs').2 h3⟩
end
theorem ren_rd:(G.ren g g').rd w=G.rd w:=by
 unfold Gh.rd Gh.ren
 simp only[Option.map_eq_none_iff]
variable (h1:∀ x,g' (g x)=x) (h2:∀ x,g (g' x)=x)
include h1 h2
theorem jA {b h:Nat}:(G.ren g g').γ b=some h↔G.γ b=some (g h):=by
 simp only[Gh.ren,QZ]
 grind
theorem ZL {b:Nat}:(G.ren g g').γ b=none↔G.γ b=none:=by simp[Gh.ren]
theorem RelMO_ren {h:Nat}:∀ (o:MO),qW (G.ren g g') w h o↔qW G w (g h) (o.ren g)
 | .box T ds=>by simp only[MO.ren,qW,ren_rd,kz,jA h1 h2];rfl
 | .miter hm s n=>by simp only[MO.ren,qW,jA h1 h2];rfl
 | .arr v e T es=>by simp only[MO.ren,qW,ren_rd,jA h1 h2];rfl
 | .map a b=>by simp only[MO.ren,qW,ren_rd,jA h1 h2];rfl
 | .fbox a=>by simp only[MO.ren,qW,ren_rd];rfl
 | .farr v e=>by simp only[MO.ren,qW,ren_rd];rfl
 | .fmap a b=>by simp only[MO.ren,qW,ren_rd];rfl
 | .siter a p=>by simp only[MO.ren,qW,jA h1 h2];rfl
 | .obj o=>by simp only[MO.ren,qW,jA h1 h2];rfl
 | .kmap R=>by simp only[MO.ren,qW,ren_rd,jA h1 h2];rfl
 | .arrK v e T R=>by simp only[MO.ren,qW,ren_rd,jA h1 h2];rfl
 | .lrec a b=>by simp only[MO.ren,qW,jA h1 h2];rfl
 | .kdat P=>by simp only[MO.ren,qW,ren_rd,jA h1 h2];rfl
 | .gone=>by simp only[MO.ren,qW]
theorem look_ren (h:Nat):∀ l:Na,qr (renM g l) (g h)=(qr l h).map (MO.ren g)
 | []=>rfl
 | (k,o)::l=>by
  show qr ((g k,o.ren g)::renM g l) (g h)=_
  rw[qy,qy,look_ren h l]
  grind
theorem look_ren' {k:Nat} {o:MO} {l:Na} (h:qr (renM g l) k=some o):∃ o0,qr l (g' k)=some o0/\o=o0.ren g:=by
 rw[<-h2 k,look_ren h1 h2] at h
 obtain⟨o0,e,rfl⟩:=QZ.1 h
 exact⟨o0,e,rfl⟩
theorem qA.ren {P:Program} {f:FuncId} {ds:List DV} {l out:Na} {val:DV} (H:qA P f ds (qr l) val out):qA P f (DV.renL g ds) (qr (renM g l)) (val.ren g) (renM g out):=by
 have hnm:∀ h,h∈(renM g out).map (·.1)↔g' h∈out.map (·.1):=by
  intro h
  simp only[renM,Kz,zE,Function.comp]
  grind
 have hlk:∀ h,(∃ o,qr l (g' h)=some o)->∃ o,qr (renM g l) h=some o:=by
  rintro h ⟨o,e⟩
  exact⟨o.ren g,by rw[<-h2 h,look_ren h1 h2,e];rfl⟩
 refine⟨fun h hh=>?_,fun G w vs M hv=>?_⟩
 ·rw[Z6] at hh
  obtain⟨h0,e0,rfl⟩:=zE.1 hh
  obtain⟨o,e⟩:=H.refs h0 e0
  exact⟨o.ren g,by rw[look_ren h1 h2,e];rfl⟩
 have M0:ZZ (G.ren g g') (qr l) w:=by
  refine⟨fun h o e=>(RelMO_ren h1 h2 o).2 (M.ms (g h) _ (by rw[look_ren h1 h2,e];rfl)),fun b h e=>M.fresh b _ ((jA h1 h2).1 e),fun b h e=>?_,fun k o h e hh=>?_,fun b o v hb hv=>?_,fun r es hb hv=>?_,M.baseLe,fun b o e=>?_⟩
  ·obtain⟨o,e1⟩:=M.own b _ ((jA h1 h2).1 e)
   obtain⟨o0,e2,_⟩:=look_ren' h1 h2 e1
   grind
  ·obtain⟨o1,e1⟩:=M.refsM (g k) (o.ren g) (g h) (by rw[look_ren h1 h2,e];rfl) (by rw[mo_refs];exact zE.2 ⟨h,hh,rfl⟩)
   obtain⟨o0,e2,_⟩:=look_ren' h1 h2 e1
   grind
  ·obtain⟨q1,q2⟩:=M.r0 b o v hb hv;exact⟨(ZL h1 h2).2 q1,q2⟩
  ·obtain⟨q1,q2⟩:=M.r0m r es hb hv;exact⟨(ZL h1 h2).2 q1,q2⟩
  obtain⟨q1,q2⟩:=M.laid b o e;exact⟨(ZL h1 h2).2 q1,q2⟩
 refine (H.call (G.ren g g') w vs M0 (by rw[ren_rd];exact (kz ds _).2 hv)).mono ?_
 rintro r w' ⟨G1,S⟩
 obtain⟨G2,hG⟩:∃ G2:Gh,G2.ren g g'=G1:=⟨G1.ren g' g,by
  obtain⟨b,R0,ρ,γ⟩:=G1
  simp only[Gh.ren,Gh.mk.injEq,WF]
  refine⟨funext fun x=>by rw[h1],funext fun b=>?_⟩
  cases γ b with
  | none=>rfl
  | some x=>simp[h1]⟩
 subst hG
 refine⟨G2,⟨⟨S.later.base,S.later.R0,fun b o v hb hv=>?_,fun r' es hb hv=>?_,S.later.os,S.later.tape,S.later.output,S.later.size,fun b hb hg=>?_,S.later.drawn⟩,?_,fun h o hh=>?_,fun h o e=>?_,fun h hh=>⟨?_,fun b hb=>?_⟩,fun b h e=>?_,fun b h e=>?_,fun h hh=>?_,fun k o hk h hh=>?_,fun b h e=>?_,fun b o v hb hv=>?_,fun r' es hb hv=>?_⟩⟩
 ·exact (S.later.R0c b o v hb hv).imp id (fun q e=>q ((ZL h1 h2).2 e))
 ·exact (S.later.R0m r' es hb hv).imp id (fun q e=>q ((ZL h1 h2).2 e))
 ·obtain⟨q1,q2⟩:=S.later.cold b hb ((ZL h1 h2).2 hg);exact⟨q1,(ZL h1 h2).1 q2⟩
 ·have:=(RelDV_ren val r).1 S.hval;rwa [ren_rd] at this
 ·simp only[renM,zE] at hh
  obtain⟨p,hp,e⟩:=hh
  simp only[zx] at e
  obtain⟨rfl,rfl⟩:=e
  exact (RelMO_ren h1 h2 p.2).1 (S.hms p.1 p.2 hp)
 ·obtain⟨o0,e2,_⟩:=look_ren' h1 h2 e
  have:=S.keeps _ _ e2
  grind [Gh.keeps,Gh.ren]
 ·have:=(S.old (g' h) (fun q=>hh ((hnm h).2 q))).1
  simp only[Gh.ren,h2] at this
  exact this
 ·obtain⟨q1,q2⟩:=(S.old (g' h) (fun q=>hh ((hnm h).2 q))).2 b ((jA h1 h2).2 (by rw[h2];exact hb))
  rw[jA h1 h2,h2] at q1
  exact⟨q1,q2⟩
 ·exact S.fresh b (g' h) ((jA h1 h2).2 (by rw[h2];exact e))
 ·rcases S.own b (g' h) ((jA h1 h2).2 (by rw[h2];exact e)) with q|q
  ·exact .inl ((hnm h).2 q)
  grind [jA]
 ·rw[ren_refs] at hh
  obtain⟨h0,e0,rfl⟩:=zE.1 hh
  rcases S.refs h0 e0 with q|⟨o,q⟩
  ·grind
  exact .inr ⟨o.ren g,by rw[look_ren h1 h2,q];rfl⟩
 ·simp only[renM,zE] at hk
  obtain⟨p,hp,e⟩:=hk
  simp only[zx] at e
  obtain⟨rfl,rfl⟩:=e
  rw[mo_refs] at hh
  obtain⟨h0,e0,rfl⟩:=zE.1 hh
  rcases S.refsM p.1 p.2 hp h0 e0 with q|⟨o,q⟩
  ·grind
  exact .inr ⟨o.ren g,by rw[look_ren h1 h2,q];rfl⟩
 ·rcases S.newb b (g' h) ((jA h1 h2).2 (by rw[h2];exact e)) with q|q
  ·grind [jA]
  exact .inr q
 ·exact (S.r0 b o v hb hv).imp id (fun q=>⟨(ZL h1 h2).1 q.1,q.2⟩)
 exact (S.r0m r' es hb hv).imp id (fun q=>⟨(ZL h1 h2).1 q.1,q.2⟩)
end
def swp (a b x:Nat):Nat:=if x=a then b else if x=b then a else x
theorem swp_swp (a b x:Nat):swp a b (swp a b x)=x:=by
 unfold swp
 grind
theorem swp_l (a b:Nat):swp a b a=b:=by simp[swp]
theorem swp_o {a b x:Nat} (h1:x≠a) (h2:x≠b):swp a b x=x:=by simp[swp,h1,h2]
def r1 (x a t:Nat):Nat:=swp x a t
def r2 (x y a b t:Nat):Nat:=swp (r1 x a y) b (r1 x a t)
def r3 (x y z a b c t:Nat):Nat:=swp (r2 x y a b z) c (r2 x y a b t)
def r2' (x y a b t:Nat):Nat:=r1 x a (swp (r1 x a y) b t)
def r3' (x y z a b c t:Nat):Nat:=r2' x y a b (swp (r2 x y a b z) c t)
section
variable {x y z a b c t u:Nat}
theorem r1_l (x a t:Nat):r1 x a (r1 x a t)=t:=swp_swp ..
theorem r2_l (x y a b t:Nat):r2' x y a b (r2 x y a b t)=t:=by unfold r2 r2';rw[swp_swp,r1_l]
theorem r2_r (x y a b t:Nat):r2 x y a b (r2' x y a b t)=t:=by unfold r2 r2';rw[r1_l,swp_swp]
theorem r3_l (x y z a b c t:Nat):r3' x y z a b c (r3 x y z a b c t)=t:=by unfold r3 r3';rw[swp_swp,r2_l]
theorem r3_r (x y z a b c t:Nat):r3 x y z a b c (r3' x y z a b c t)=t:=by unfold r3 r3';rw[r2_r,swp_swp]
theorem r1_inj (e:r1 x a t=r1 x a u):t=u:=by grind [r1_l]
theorem r2_inj (e:r2 x y a b t=r2 x y a b u):t=u:=by grind [r2_l]
theorem r1_1 (x a:Nat):r1 x a x=a:=swp_l ..
theorem r2_1 (hx:x≠y) (h:a≠b):r2 x y a b x=a:=by
 unfold r2;rw[r1_1]
 exact swp_o (fun e=>hx (r1_inj ((r1_1 x a).trans e))) h
theorem r2_2 (x y a b:Nat):r2 x y a b y=b:=by unfold r2;exact swp_l ..
theorem r3_1 (hx:x≠y) (hz:x≠z) (h:a≠b) (hc:a≠c):r3 x y z a b c x=a:=by
 unfold r3;rw[r2_1 hx h]
 exact swp_o (fun e=>hz (r2_inj ((r2_1 hx h).trans e))) hc
theorem r3_2 (hz:y≠z) (hc:b≠c):r3 x y z a b c y=b:=by
 unfold r3;rw[r2_2]
 exact swp_o (fun e=>hz (r2_inj ((r2_2 x y a b).trans e))) hc
theorem r3_3 (x y z a b c:Nat):r3 x y z a b c z=c:=by unfold r3;exact swp_l ..
theorem qA.r1 {P:Program} {f:FuncId} {ds:List DV} {l out:Na} {val:DV} (x a:Nat) (H:qA P f ds (qr l) val out):qA P f (DV.renL (r1 x a) ds) (qr (renM (r1 x a) l)) (val.ren (r1 x a)) (renM (r1 x a) out):=qA.ren (r1_l x a) (r1_l x a) H
theorem qA.r2 {P:Program} {f:FuncId} {ds:List DV} {l out:Na} {val:DV} (x y a b:Nat) (H:qA P f ds (qr l) val out):qA P f (DV.renL (r2 x y a b) ds) (qr (renM (r2 x y a b) l)) (val.ren (r2 x y a b)) (renM (r2 x y a b) out):=qA.ren (r2_l x y a b) (r2_r x y a b) H
theorem qA.r3 {P:Program} {f:FuncId} {ds:List DV} {l out:Na} {val:DV} (x y z a b c:Nat) (H:qA P f ds (qr l) val out):qA P f (DV.renL (r3 x y z a b c) ds) (qr (renM (r3 x y z a b c) l)) (val.ren (r3 x y z a b c)) (renM (r3 x y z a b c) out):=qA.ren (r3_l x y z a b c) (r3_r x y z a b c) H
end
end Go.Lens
end
section
namespace Go.Lens.Tb
open Go.Proofs Go.Lens.Un
variable [Lz]
attribute [local irreducible] TK PK T RG EfR Body CG
abbrev eK (k:KI):List PV:=[pI (fst k),pI (snd k)]
def cmp3 (x y:Int):Int:=if x<y then -1 else if y<x then 1 else 0
def ordI (a b:KI):Int:=qK [cmp3 (a.1+a.2) (b.1+b.2),cmp3 b.1 a.1]
def KS (a:KI):Prop:=0<=a.1/\0<=a.2/\a.1+a.2<=1000
section
variable {x y:Int} {l:List Int} {k:Nat}
theorem c3_1 (h:x<y): -1=cmp3 x y:=by unfold cmp3;rw[WK h]
theorem c3_2 (h:¬x<y) (g:y<x):1=cmp3 x y:=by unfold cmp3;rw[WJ h,WK g]
theorem c3_3 (h:¬x<y) (g:¬y<x):0=cmp3 x y:=by unfold cmp3;rw[WJ h,WJ g]
theorem fi_step (h:qK l=qK (l.drop k)) (hk:k<l.length) (h0:¬l.getD k 0≠0):qK l=qK (l.drop (k+1)):=by
 rw[h,drop_at l k 0 hk,qK,WK (zi.1 h0)]
theorem fi_at (h:qK l=qK (l.drop k)) (hk:k<l.length) (h0:l.getD k 0≠0):l.getD k 0=qK l:=by
 rw[h,drop_at l k 0 hk,qK,WJ h0]
theorem fi_end (h:qK l=qK (l.drop k)) (hk:¬(k:Int)<(l.length:Int)):0=qK l:=by
 rw[h,zV aa];rfl
end
theorem jy:tab.underlying 40=some (.slice 3):=ae
theorem w268 (x:Int):CKa 199 [vI x] (vB false):=by
 exact cG qf199 Z (nB Z) Z (Rt Z (lF Z (lb (by exact zk (fun h=>h Z)))))
theorem w224 (x y:Int):CKa 139 [vI x,vI y] (vI (cmp3 x y)):=by
 refine cG qf139 Z (nB Z) Z (C Z (w268 x) Z Z Z (C Z (w268 y) Z Z Z (CF Z Z (CF Z Z (Cp Z Z (fun h1=>?_) (fun h1=>?_))))))
 ·exact Rt Z (lF Z (li c7))
 refine Cp Z Z (fun h2=>?_) (fun h2=>?_)
 ·exact Rt Z (lF Z (li c7))
 exact Rt Z (lF Z (li c7))
theorem w223 (l:List Int) (hl:l.length<=1000):CKa 138 [vL eI l] (vI (qK l)):=by
 refine cG qf138 Z (nB Z) Z (E Z (B.ju Z jy) (l1 (fun (k:Nat)=>[(3,vI 0),(6,vL eI l),(7,vI (l.length:Int)),(8,vI (k:Int))]) (fun _=>[]) (fun k=>k<=l.length/\qK l=qK (drop k l)) (fun k=>l.length-k) 0 Z ?_ (sb Z Z Z) ?_))
 · exact⟨zt _,rfl⟩
 intro k hI0
 refine Cp Z Z (fun h1=>?_) (fun h1=>?_)
 ·refine E Z (B.idx (z:=0) Z Z jy sz3 (fun _=>rfl) Z aa) (Cp Z Z (fun h2=>?_) (fun h2=>?_))
  ·exact Rt Z (lF Z (li c8))
  refine E Z (B.add Z Z bg) (pk Z (L1 (k+1) ?_ ?_ (sb Z Z Z)))
  · exact⟨aa,fi_step hI0.2 aa ab⟩
  · omega
 exact Rt Z (lF Z (li c8))
theorem w170 (a b:KI) (ha:KS a) (hb:KS b):CKa 79 [.pv (.agg [pI (fst a),pI (snd a)]),.pv (.agg [pI (fst b),pI (snd b)])] (vI (ordI a b)):=by
 exact cG qf79 Z (nB Z) Z (E Z (B.run Z) (E Z (B.run Z) (E Z (B.add Z Z c9) (E Z (B.run Z) (E Z (B.run Z) (E Z (B.add Z Z c9) (C Z (w224 ((fst a)+(snd a)) ((fst b)+(snd b))) Z Z Z (E Z (B.run Z) (E Z (B.run Z) (C Z (w224 (fst b) (fst a)) Z Z Z (E Z (B.zA (es:=List.map eI [(cmp3 ((fst a)+(snd a)) ((fst b)+(snd b))),(cmp3 (fst b) (fst a))]) Z) (C Z (w223 [(cmp3 ((fst a)+(snd a)) ((fst b)+(snd b))),(cmp3 (fst b) (fst a))] (nB Z)) Z Z Z (Dr Z ae (Rt Z (lF Z (li bx))))))))))))))))
end Go.Lens.Tb
end
section
namespace Go.Lens.Un
abbrev PL:=List (KI×Rat)
def lin (g:KI->Rat):PL->Rat
 | []=>0
 | (a,c)::l=>c*g a+lin g l
def cf (P:PL) (k:KI):Rat:=lin (fun a=>if a=k then 1 else 0) P
def szP:PL->Nat
 | []=>1
 | (_,c)::l=>sz c+1+szP l
theorem lin_app (g:KI->Rat):∀ (P R:PL),lin g (P++R)=lin g P+lin g R
 | [],R=>by simp[lin,K0]
 | (a,c)::l,R=>by simp only[zQ,lin,lin_app g l R];grind
theorem cf_app (P R:PL) (k:KI):cf (P++R) k=cf P k+cf R k:=lin_app _ P R
theorem jI (a:KI) (c:Rat) (P:PL) (k:KI):cf ((a,c)::P) k=(if a=k then c else 0)+cf P k:=by
 show c*(if a=k then 1 else 0)+cf P k=_
 grind
theorem cf_nil (k:KI):cf [] k=0:=rfl
theorem lin_split (g:KI->Rat) (a:KI):∀ P:PL,lin g P=cf P a*g a+lin g (P.filter fun p=>decide (p.1≠a))
 | []=>by simp[lin,cf,K1,KW]
 | (b,c)::l=>by
  have ih:=lin_split g a l
  by_cases h:b=a
  ·subst h
   simp only[lin,jI,ql,Jb,WL,not_true_eq_false,decide_false,qk,qm]
   rw[ih];grind
  simp only[lin,jI,h,qm,Jb,WL,X5,Wp,ql]
  rw[ih];grind
theorem cf_filter (a k:KI):∀ P:PL,cf (P.filter fun p=>decide (p.1≠a)) k=if k=a then 0 else cf P k
 | []=>by simp[cf_nil]
 | (b,c)::l=>by
  have ih:=cf_filter a k l
  by_cases h:b=a
  ·subst h
   simp only[Jb,WL,not_true_eq_false,decide_false,qk,qm,jI]
   grind
  simp only[Jb,WL,h,X5,Wp,ql,jI]
  rw[ih]
  grind
def Eqv (P R:PL):Prop:=∀ k,cf P k=cf R k
theorem Eqv.rfl {P:PL}:Eqv P P:=fun _=>Eq.refl _
theorem Eqv.symm {P R:PL} (h:Eqv P R):Eqv R P:=fun k=>(h k).symm
theorem Eqv.trans {P R S:PL} (h:Eqv P R) (g:Eqv R S):Eqv P S:=fun k=>(h k).trans (g k)
theorem lin_congr (g:KI->Rat):∀ (n:Nat) (P R:PL),P.length+R.length<=n->Eqv P R->lin g P=lin g R:=by
 intro n
 induction n with
 | zero=>intro P R h _;rw[zK (l:=P) aa,zK (l:=R) aa]
 | succ n ih=>
  have key:∀ (a:KI) (P R:PL),(P.filter fun p=>decide (p.1≠a)).length+(R.filter fun p=>decide (p.1≠a)).length<=n->Eqv P R->lin g P=lin g R:=by
   intro a P R h e
   rw[lin_split g a P,lin_split g a R,e a,ih _ _ h (fun k=>by rw[cf_filter,cf_filter,e k])]
  intro P R h e
  cases P with
  | cons p l=>
   refine key p.1 _ _ ?_ e
   grind
  | nil=>cases R with
   | nil=>rfl
   | cons p l=>
    refine key p.1 _ _ ?_ e
    grind
theorem Eqv.lin {P R:PL} (h:Eqv P R) (g:KI->Rat):lin g P=lin g R:=lin_congr g _ P R (zB _) h
theorem Eqv.perm {P R:PL} (h:P.Perm R):Eqv P R:=by
 intro k
 induction h with
 | nil=>rfl
 | cons x _ ih=>obtain⟨a,c⟩:=x;rw[jI,jI,ih]
 | swap x y l=>obtain⟨a,c⟩:=x;obtain⟨b,d⟩:=y;rw[jI,jI,jI,jI];grind
 | trans _ _ h1 h2=>exact h1.trans h2
theorem Eqv.app {P P' R R':PL} (h:Eqv P P') (g:Eqv R R'):Eqv (P++R) (P'++R'):=fun k=>by rw[cf_app,cf_app,h k,g k]
theorem cf_no {P:PL} {k:KI} (h:k∉P.map (·.1)):cf P k=0:=by
 induction P with
 | nil=>rfl
 | cons p l ih=>
  obtain⟨a,c⟩:=p
  simp only[zy,zF,not_or] at h
  rw[jI,WJ (WG h.1),ih h.2,K0]
theorem sz_0:sz (0:Rat)=1:=by decide +kernel
theorem sz_cf (P:PL) (k:KI):sz (cf P k)<=szP P:=by
 induction P with
 | nil=>rw[cf_nil,sz_0];exact zB _
 | cons p l ih=>
  obtain⟨a,c⟩:=p
  rw[jI]
  show _<=sz c+1+szP l
  split
  ·have:=sz_add c (cf l k);omega
  rw[K0];omega
def cfM (m:List (KI×Qn)) (k:KI):Rat:=match kN k m with|some x=>x.q|none=>0
structure KP (P:PL) (m:List (KI×Qn)):Prop where
 nd:(m.map (·.1)).Nodup
 q:∀ k,cfM m k=cf P k
 mem:∀ k∈m.map (·.1),k∈P.map (·.1)
theorem KP.nil:KP [] []:=⟨J5,fun _=>rfl,fun _ h=>h⟩
def addK (k:KI) (c:Qn) (m:List (KI×Qn)):List (KI×Qn):=Qc k (match kN k m with|some o=>Qn.add o c|none=>c) m
theorem get_set {α:Type} (k j:KI) (v:α):∀ l:List (KI×α),kN j (Qc k v l)=if j=k then some v else kN j l
 | []=>by simp[Qc,kN]
 | (a,x)::l=>by
  simp only[Qc]
  by_cases h:k=a
  ·subst h
   simp only[ql,kN]
   grind
  simp only[h,qm,kN,get_set k j v l]
  by_cases hj:j=a
  ·subst hj;simp[WG h]
  simp[hj]
theorem mem_set {α:Type} (k j:KI) (v:α):∀ l:List (KI×α),j∈(Qc k v l).map (·.1)↔j=k\/j∈l.map (·.1)
 | []=>by simp[Qc]
 | (a,x)::l=>by
  simp only[Qc]
  by_cases h:k=a
  ·subst h;simp
  simp only[h,qm,zy,zF,mem_set k j v l]
  constructor
  ·grind
  grind
theorem nd_set {α:Type} (k:KI) (v:α):∀ l:List (KI×α),(l.map (·.1)).Nodup->((Qc k v l).map (·.1)).Nodup
 | [],_=>by simp[Qc]
 | (a,x)::l,hn=>by
  simp only[zy,JD] at hn
  simp only[Qc]
  by_cases h:k=a
  ·subst h;simp[hn.1,hn.2]
  simp only[h,qm,zy,JD,mem_set]
  exact⟨fun e=>e.elim (fun e=>h e.symm) hn.1,nd_set k v l hn.2⟩
theorem KP.add {P:PL} {m:List (KI×Qn)} (h:KP P m) (k:KI) (c:Qn):KP (P++[(k,c.q)]) (addK k c m):=by
 refine⟨nd_set _ _ _ h.nd,fun j=>?_,fun j hj=>?_⟩
 ·have hq:=h.q j
  unfold cfM at hq ⊢
  rw[addK,get_set,cf_app,jI,cf_nil]
  by_cases e:j=k
  ·subst e
   simp only[ql]
   grind [Rat.zero_add,Rat.add_zero,Qn.add_q]
  grind
 rw[addK,mem_set] at hj
 simp only[z8,zy,zX,zH,zg]
 rcases hj with e|e
 ·exact .inr e
 exact .inl (h.mem j e)
theorem get_of_mem {α:Type} {k:KI} {x:α}:∀ {l:List (KI×α)},(l.map (·.1)).Nodup->(k,x)∈l->kN k l=some x
 | [],_,h=>by cases h
 | (a,y)::l,hn,h=>by
  simp only[zy,JD] at hn
  rcases zF.1 h with e|e
  ·cases e;simp[kN]
  have:k≠a:=by rintro rfl;exact hn.1 (zE.2 ⟨_,e,rfl⟩)
  simp[kN,this,get_of_mem hn.2 e]
theorem KP.val {P:PL} {m:List (KI×Qn)} (h:KP P m) {k:KI} {x:Qn} (hx:(k,x)∈m):x.q=cf P k:=by rw[<-h.q k,cfM,get_of_mem h.nd hx]
theorem KP.sz {P:PL} {m:List (KI×Qn)} (h:KP P m) {k:KI} {x:Qn} (hx:(k,x)∈m):sz x.q<=szP P:=by rw[h.val hx];exact sz_cf P k
theorem ZO {α:Type} {k:KI} {x:α}:∀ {l:List (KI×α)},kN k l=some x->(k,x)∈l
 | [],h=>by cases h
 | (a,y)::l,h=>by
  simp only[kN] at h
  split at h
  ·grind
  exact zN _ (ZO h)
theorem KP.szg {P:PL} {m:List (KI×Qn)} (h:KP P m) {k:KI} {x:Qn} (hx:kN k m=some x):Un.sz x.q<=szP P:=h.sz (ZO hx)
theorem KP.congr {P R:PL} {m:List (KI×Qn)} (h:KP P m) (e:Eqv P R) (hk:∀ k∈P.map (·.1),k∈R.map (·.1)):KP R m:=⟨h.nd,fun k=>(h.q k).trans (e k),fun k hm=>hk k (h.mem k hm)⟩
def plM (m:List (KI×Qn)):PL:=m.map fun p=>(p.1,p.2.q)
theorem cf_plM {m:List (KI×Qn)} (hn:(m.map (·.1)).Nodup) (k:KI):cf (plM m) k=cfM m k:=by
 induction m with
 | nil=>rfl
 | cons p l ih=>
  obtain⟨a,x⟩:=p
  simp only[zy,JD] at hn
  show cf ((a,x.q)::plM l) k=_
  rw[jI,ih hn.2]
  unfold cfM
  by_cases e:k=a
  ·subst e
   have:kN k l=none:=by
    cases hg:kN k l with
    | none=>rfl
    | some y=>exact absurd (zE.2 ⟨_,ZO hg,rfl⟩) hn.1
   simp[kN,this,KW]
  simp[kN,e,WG e,K0]
theorem KP.eqv {P:PL} {m:List (KI×Qn)} (h:KP P m):Eqv (plM m) P:=fun k=>(cf_plM h.nd k).trans (h.q k)
end Go.Lens.Un
end
section
namespace Go.Lens.Tb
open Go.Proofs Go.Lens.Un
variable [Lz] [Dn]
attribute [local irreducible] TK PK T RG EfR Body CG
abbrev eP (x:Qn):PV:=.agg (eF x)
abbrev kR (P:PL):MO:=.kmap (fun kv=>∃ m,KP P m/\kv=kvO eP m)
structure Trm where
 c:Nb
 i:Int
 j:Int
abbrev eY (t:Trm):List PV:=[pS (bsO (Trm.c t)),pI (Trm.i t),pI (Trm.j t)]
def trZ:Trm:=⟨[],0,0⟩
theorem kty:KTy tab 101 112 99 3:=⟨ae,ae,ae,ae,ae⟩
abbrev zP:PV:=.agg [pI 0,nilP,pI 0,nilP]
theorem zP_ok:∀ R,qI R zP (.agg #[.int .i64 0,.slice none 0 0,.int .i64 0,.slice none 0 0]):=by
 intro R
 simp only[zP,qI,qw]
 exact⟨_,rfl,by simp[Value.oneCell'],_,_,rfl,⟨rfl,rfl⟩,_,_,rfl,⟨rfl,rfl⟩,_,_,rfl,⟨rfl,rfl⟩,_,_,rfl,⟨rfl,rfl⟩,rfl⟩
section
variable {P:Program} {Y:Tab} [qH P Y] {nb:Nat} {s:St} {dst:Option Tmp} {ty:TypeId} {pos:String} {af:Array Edge} {gd:Option (Nat×Bool)} {t kt et it:TypeId} {x y z:Operand} {α:Type} {enc:α->PV}
theorem B.getKs {h:Nat} {l:List (KI×α)} {k:KI} {v:α} {zv:Value} {zp:PV} {i:TypeInfo} (hT:KTy Y t kt et it) (hx:ev1 s x=.mref h) (hy:ev1 s y=.pv (kkP k)) (hl:qr s.ms h=some (kO enc l)) (hi:Y.info? et=some i) (hz:i.zero=some zv) (hzp:∀ R,qI R zp zv) (hg:kN k l=some v) :
  Body P Y nb s ⟨dst,.lookup t x y true,ty,pos,af,gd⟩ (.tup [.pv (enc v),lit (.bool true)]) [] [h]:=by
 have:=B.getK (P:=P) (nb:=nb) (dst:=dst) (ty:=ty) (pos:=pos) (af:=af) (gd:=gd) (zp:=zp) hT hx hy hl hi hz hzp
 rw[hg] at this;exact this
theorem B.getKn {h:Nat} {l:List (KI×α)} {k:KI} {zv:Value} {zp:PV} {i:TypeInfo} (hT:KTy Y t kt et it) (hx:ev1 s x=.mref h) (hy:ev1 s y=.pv (kkP k)) (hl:qr s.ms h=some (kO enc l)) (hi:Y.info? et=some i) (hz:i.zero=some zv) (hzp:∀ R,qI R zp zv) (hg:kN k l=none) :
  Body P Y nb s ⟨dst,.lookup t x y true,ty,pos,af,gd⟩ (.tup [.pv zp,lit (.bool false)]) [] [h]:=by
 have:=B.getK (P:=P) (nb:=nb) (dst:=dst) (ty:=ty) (pos:=pos) (af:=af) (gd:=gd) (zp:=zp) hT hx hy hl hi hz hzp
 rw[hg] at this;exact this
end
theorem ad_n {k:KI} {c:Qn} {m:List (KI×Qn)} (h:kN k m=none):addK k c m=Qc k c m:=by unfold addK;rw[h]
theorem ad_s {k:KI} {c o:Qn} {m:List (KI×Qn)} (h:kN k m=some o):addK k c m=Qc k (Qn.add o c) m:=by unfold addK;rw[h]
def sumM (f:List Trm):List (KI×Qn):=f.foldl (fun m t=>Qc (t.i,t.j) (qU t.c) m) []
theorem su_st {f:List Trm} {m:List (KI×Qn)} {k:Nat} (hk:k<f.length) (h:m=sumM (f.take k)):Qc (Trm.i (f.getD k trZ),Trm.j (f.getD k trZ)) (qU (Trm.c (f.getD k trZ))) m=sumM (f.take (k+1)):=by
 unfold sumM at h ⊢
 rw[Qf hk,XX,<-h,ze,zm hk];rfl
theorem ag112:aggT tab 112=some true:=ae
theorem fa74_1:fadQ tab 74 1=some 1:=ae
theorem fa74_2:fadQ tab 74 2=some 2:=ae
theorem sz74:szT tab 74=some 3:=ae
theorem sz112:szT tab 112=some 2:=ae
theorem un32:tab.underlying 32=some (.slice 74):=ae
theorem w119n (m:List (KI×Qn)) (k:KI) (c:Qn) (hg:kN k m=none):qA prog 58 [.mref 1,.pv (.agg [pI (fst k),pI (snd k)]),qV c] (qr [(1,(kO eP m))]) (.tup []) [(1,(kO eP (addK k c m)))]:=by
 refine cL 2 [(1,(kO eP m))] qf58 Z (nB Z) Z Z (kc (E Z (B.getKn kty Z Z Z in99 Z zP_ok hg) (E Z (B.bZ Z Z) (CF Z Z (E Z (B.setK (enc:=eP) kty Z Z Z Z) ?_)))))
 refine Rn Z ?_
 exact ZG (val0:=.tup []) (out0:=[(1,(kO eP (Qc k c m)))]) (.inl Z) ae Z (by rw[ad_n hg])
theorem w119s (m:List (KI×Qn)) (k:KI) (c o:Qn) (hg:kN k m=some o) (hz:∀ o,kN k m=some o->sz (Qn.q o)+sz (Qn.q c)<=20000000):qA prog 58 [.mref 1,.pv (.agg [pI (fst k),pI (snd k)]),qV c] (qr [(1,(kO eP m))]) (.tup []) [(1,(kO eP (addK k c m)))]:=by
 refine cL 2 [(1,(kO eP m))] qf58 Z (nB Z) Z Z (kc (E Z (B.getKs kty Z Z Z in99 Z zP_ok hg) (E Z (B.bZ Z Z) (CT Z Z (C Z (w125 o c (by have:=hz _ hg;omega)) Z Z Z (E Z (B.setK (enc:=eP) kty Z Z Z Z) ?_))))))
 refine Rn Z ?_
 exact ZG (val0:=.tup []) (out0:=[(1,(kO eP (Qc k (Qn.add o c) m)))]) (.inl Z) ae Z (by rw[ad_s hg])
theorem w119 (m:List (KI×Qn)) (k:KI) (c:Qn) (h:Nat) (hz:∀ o,kN k m=some o->sz (Qn.q o)+sz (Qn.q c)<=20000000):qA prog 58 [.mref h,.pv (kkP k),.pv (eP c)] (qr [(h,kO eP m)]) (.tup []) [(h,kO eP (addK k c m))]:=by
 have key:qA prog 58 [.mref 1,.pv (kkP k),.pv (eP c)] (qr [(1,kO eP m)]) (.tup []) [(1,kO eP (addK k c m))]:=by
  cases hg:kN k m with
  | none=>exact w119n m k c hg
  | some o=>exact w119s m k c o hg hz
 simpa [renM,DV.renL,DV.ren,MO.ren,r1_1] using key.r1 1 h
theorem w114' (f:List Trm) (hl:f.length<=1000000) (hv:∀ t∈f,jr (Trm.c t)=0):qA prog 51 [vL eY f] (qr []) (.mref 7) [(7,kO eP (sumM f))]:=by
 refine cL 1 [] qf51 Z (nB Z) Z Z (kc (E Z (B.newK (enc:=eP) Z Z) (E Z (B.ju Z un32) (l2 (fun (k:Nat) (m:List (KI×Qn))=>[(3,.mref 7),(7,vL eY f),(8,vI (f.length:Int)),(9,vI (k:Int))]) (fun _ m=>[(7,(kO eP m))]) (fun k m=>k<=f.length/\m=sumM (take k f)) (fun k _=>f.length-k) 0 [] Z ?_ (sb Z Z Z) ?_))))
 · exact⟨zt _,rfl⟩
 intro k m hI0
 refine Cp Z Z (fun h1=>?_) (fun h1=>?_)
 ·refine E Z (B.idx (z:=trZ) Z Z un32 sz74 (fun _=>rfl) Z aa) (E Z (B.run (val:=.pv (.agg [pI (Trm.i (f.getD k trZ)),pI (Trm.j (f.getD k trZ))])) (m:=[]) (rd:=[]) ae) (C Z (w116 (Trm.c (f.getD k trZ)) (hv _ (ki aa))) Z Z Z (E Z (B.setK (l:=m) (k:=((Trm.i (f.getD k trZ)),(Trm.j (f.getD k trZ)))) (v:=(qU (Trm.c (f.getD k trZ)))) kty Z Z Z Z) (Dr Z ae (E Z (B.add Z Z bg) (pk Z (L2 (k+1) (Qc ((Trm.i (f.getD k trZ)),(Trm.j (f.getD k trZ))) (qU (Trm.c (f.getD k trZ))) m) ?_ ?_ (sb Z Z Z))))))))
  · exact⟨aa,su_st aa hI0.2⟩
  · omega
 exact Rt Z (ZG (val0:=.mref 7) (out0:=[(7,(kO eP m))]) (.inr Z) ae Z cA)
end Go.Lens.Tb
end
section
namespace Go.Proofs
open Go.Shelf
def Tryz.lays235_ren:Go.Shelf.Ren:=⟨fun|6=>187|15=>229|14=>228|28=>265|29=>250|20=>257|21=>258|22=>259|23=>260|24=>261|25=>262|26=>263|27=>264|46=>282|47=>283|48=>284|49=>285|50=>286|57=>296|n=>n,fun|22=>179|24=>112|25=>131|3=>3|39=>261|0=>0|53=>302|55=>237|4=>4|46=>296|45=>295|50=>107|5=>5|9=>9|66=>320|70=>324|76=>339|77=>340|n=>n,fun|n=>n⟩
theorem Tryz.lays235:Go.Proofs.SlLaysF0.n6 prog Tryz.lays235_ren:={
  mixed:=ae
  f6:=⟨Tryz.f187.name,ah,Tryz.func187.trans (WD some ae)⟩
  f14:=⟨Tryz.f228.name,ah,Tryz.func228.trans (WD some ae)⟩
  f15:=Tryz.func229.trans (WD some ae)
  f20:=⟨Tryz.f257.name,ah,Tryz.func257.trans (WD some ae)⟩
  f21:=⟨Tryz.f258.name,ah,Tryz.func258.trans (WD some ae)⟩
  f22:=⟨Tryz.f259.name,ah,Tryz.func259.trans (WD some ae)⟩
  f23:=⟨Tryz.f260.name,ah,Tryz.func260.trans (WD some ae)⟩
  f24:=⟨Tryz.f261.name,ah,Tryz.func261.trans (WD some ae)⟩
  f25:=⟨Tryz.f262.name,ah,Tryz.func262.trans (WD some ae)⟩
  f26:=⟨Tryz.f263.name,ah,Tryz.func263.trans (WD some ae)⟩
  f27:=⟨Tryz.f264.name,ah,Tryz.func264.trans (WD some ae)⟩
  f28:=Tryz.func265.trans (WD some ae)
  f29:=Tryz.func250.trans (WD some ae)
  f46:=⟨Tryz.f282.name,ah,Tryz.func282.trans (WD some ae)⟩
  f47:=Tryz.func283.trans (WD some ae)
  f48:=Tryz.func284.trans (WD some ae)
  f49:=⟨Tryz.f285.name,ah,Tryz.func285.trans (WD some ae)⟩
  f50:=⟨Tryz.f286.name,ah,Tryz.func286.trans (WD some ae)⟩
  f57:=⟨Tryz.f296.name,ah,Tryz.func296.trans (WD some ae)⟩
  t0:=Tryz.underlying0
  a0:=Tryz.isAgg0
  z0:=Tryz.sizeOf0
  v0:=Tryz.zeroValue0
  t3:=Tryz.underlying3
  a3:=Tryz.isAgg3
  z3:=Tryz.sizeOf3
  v3:=Tryz.zeroValue3
  t4:=Tryz.underlying4
  a4:=Tryz.isAgg4
  z4:=Tryz.sizeOf4
  v4:=Tryz.zeroValue4
  t5:=Tryz.underlying5
  a5:=Tryz.isAgg5
  z5:=Tryz.sizeOf5
  v5:=Tryz.zeroValue5
  t9:=Tryz.underlying9
  a9:=Tryz.isAgg9
  z9:=Tryz.sizeOf9
  v9:=Tryz.zeroValue9
  t22:=Tryz.underlying179
  a22:=Tryz.isAgg179
  z22:=Tryz.sizeOf179
  v22:=Tryz.zeroValue179
  t25:=Tryz.underlying131
  a25:=Tryz.isAgg131
  z25:=Tryz.sizeOf131
  v25:=Tryz.zeroValue131
  t39:=Tryz.underlying261
  a39:=Tryz.isAgg261
  z39:=Tryz.sizeOf261
  v39:=Tryz.zeroValue261
  t45:=Tryz.underlying295
  a45:=Tryz.isAgg295
  z45:=Tryz.sizeOf295
  v45:=Tryz.zeroValue295
  t46:=Tryz.underlying296
  a46:=Tryz.isAgg296
  z46:=Tryz.sizeOf296
  v46:=Tryz.zeroValue296
  t50:=Tryz.underlying107
  a50:=Tryz.isAgg107
  z50:=Tryz.sizeOf107
  v50:=Tryz.zeroValue107
  t53:=Tryz.underlying302
  a53:=Tryz.isAgg302
  z53:=Tryz.sizeOf302
  v53:=Tryz.zeroValue302
  t55:=Tryz.underlying237
  a55:=Tryz.isAgg237
  z55:=Tryz.sizeOf237
  v55:=Tryz.zeroValue237
  t66:=Tryz.underlying320
  a66:=Tryz.isAgg320
  z66:=Tryz.sizeOf320
  v66:=Tryz.zeroValue320
  t70:=Tryz.underlying324
  a70:=Tryz.isAgg324
  z70:=Tryz.sizeOf324
  v70:=Tryz.zeroValue324
  t76:=Tryz.underlying339
  a76:=Tryz.isAgg339
  z76:=Tryz.sizeOf339
  v76:=Tryz.zeroValue339
  t77:=Tryz.underlying340
  a77:=Tryz.isAgg340
  z77:=Tryz.sizeOf340
  v77:=Tryz.zeroValue340 }
end Go.Proofs
end
section
namespace Go.Lens.Tb
open Go.Proofs Go.Lens.Un Go.Sort
theorem ordI_lt (a b:KI):ordI a b<0↔a.1+a.2<b.1+b.2\/(a.1+a.2=b.1+b.2/\b.1<a.1):=by
 unfold ordI cmp3
 by_cases h1:a.1+a.2<b.1+b.2
 ·simp[h1,qK]
 by_cases h2:b.1+b.2<a.1+a.2
 ·simp[h1,h2,qK];omega
 by_cases h3:b.1<a.1
 ·simp[h1,h2,h3,qK];omega
 by_cases h4:a.1<b.1
 ·simp[h1,h2,h3,h4,qK]
 simp[h1,h2,h3,h4,qK]
abbrev KSub:={ k:KI // KS k }
instance:Inhabited KSub:=⟨⟨(0,0),by unfold KS;decide⟩⟩
def encS (k:KSub):List Value:=[.int .i64 k.1.1,.int .i64 k.1.2]
def cfS (x y:KSub):Int:=ordI x.1 y.1
theorem cfS_swo:SWO (ltOf cfS):=by
 refine⟨fun x=>?_,fun x y z h1 h2=>?_,fun x y z h1 h2=>?_⟩
 ·simp only[ltOf,cfS,zG,ordI_lt];omega
 ·simp only[ltOf,cfS,zf,ordI_lt] at *;omega
 simp only[ltOf,cfS,zG,ordI_lt] at *;omega
theorem world_grown {w w':World} (h1:w'.os=w.os) (h2:w'.tape=w.tape) (h3:w'.output=w.output) (h4:w.drawn<=w'.drawn) (h5:w.heap.size<=w'.heap.size) (h6:∀ b,b<w.heap.size->w'.heap[b]? =w.heap[b]?) :
  ∃ q os',w'=grow (w.drewN q) os':=by
 refine⟨w'.drawn-w.drawn,w'.heap.extract w.heap.size w'.heap.size,?_⟩
 obtain⟨hp,tp,dr,os,out⟩:=w'
 simp only at h1 h2 h3 h4 h5 h6
 subst h1 h2 h3
 simp only[grow,World.drewN,World.mk.injEq,WC,WF]
 grind
theorem order_calls (x y:KSub) (W:World):Calls prog 79 #[.agg (encS x).toArray,.agg (encS y).toArray] W fun e w'=>e=.returned (.int .i64 (cfS x y))/\∃ q os',w'=grow (W.drewN q) os':=by
 letI:Lz:={ L:=fun _=>none,D:=true }
 have H:=w170 x.1 y.1 x.2 y.2
 let G:Gh:=⟨W.heap.size,⟨fun _ _=>none,fun _=>none⟩,fun _=>{},fun _=>none⟩
 have M:ZZ G (qr []) W:=⟨fun h o e=>cB,fun b h e=>cB,fun b h e=>cB,fun k o h e=>cB,fun b o v _ e=>cB,fun r es _ e=>cB,zB _,fun b o e=>cB⟩
 rcases H.call G W #[.agg (encS x).toArray,.agg (encS y).toArray] M (by
  simp only[qz,qt]
  exact⟨_,_,rfl,kk_rel,_,_,rfl,kk_rel,rfl⟩) with ⟨_,hc⟩|⟨r,w',hr,_⟩
 ·refine Calls.mono hc ?_
  rintro e w' ⟨r,rfl,G',S⟩
  have hv:=(qx S.hval).1
  refine⟨by rw[hv];rfl,world_grown S.later.os S.later.tape S.later.output (S.later.drawn Z) S.later.size fun b hb=>(S.later.cold b hb Z).1⟩
 rw[Tryz.call79] at hr;cases hr
theorem sorted_uniq:∀ (L M:List KI),L.Perm M->L.Pairwise (fun a b=>ordI a b<0)->M.Pairwise (fun a b=>¬ordI b a<0)->M=L
 | [],M,hp,_,_=>by simpa using hp.symm.eq_nil
 | a::L,[],hp,_,_=>by simp at hp
 | a::L,b::M,hp,hs,ht=>by
  rw[List.pairwise_cons] at hs ht
  have hab:a=b:=by
   by_cases e:a=b
   ·exact e
   exfalso
   have h1:b∈L:=by grind
   grind
  subst hab
  rw[sorted_uniq L M (List.Perm.cons_inv hp) hs.2 ht.2]
def valK (l:List KI):List Value:=(l.map fun k=>[Value.int .i64 k.1,.int .i64 k.2]).flatten
theorem ZW (k:KI) (l:List KI):valK (k::l)=.int .i64 k.1::.int .i64 k.2::valK l:=rfl
theorem valK_len (l:List KI):(valK l).length=l.length*2:=by
 induction l with
 | nil=>rfl
 | cons k l ih=>rw[ZW];simp[ih];omega
theorem Zm:∀ (l:List KI) (t:Nat),(valK l)[t]? =(l[t / 2]?).map fun k=>if t%2=0 then Value.int .i64 k.1 else .int .i64 k.2
 | [],t=>by simp[valK]
 | k::l,0=>by simp[ZW]
 | k::l,1=>by simp[ZW]
 | k::l,t+2=>by
  rw[ZW]
  simp only[QP,Zm l t]
  rw[show (t+2) / 2=t / 2+1 by omega,show (t+2)%2=t%2 by omega]
  simp
section
variable [Lz]
theorem rel_valK {R:Rd}:∀ {l:List KI} {vs:List Value},qw R (l.map eK).flatten vs↔vs=valK l
 | [],vs=>by simp[qw,valK]
 | k::l,vs=>by
  simp only[zy,XW,zQ,zU,qw,qI,ZW]
  constructor
  ·grind [rel_valK.1]
  rintro rfl;exact⟨_,_,rfl,⟨rfl,rfl⟩,_,_,rfl,⟨rfl,rfl⟩,rel_valK.2 rfl⟩
end
def subK (l:List KI) (hk:∀ k∈l,KS k):List KSub:=l.attach.map fun k=>⟨k.1,hk k.1 k.2⟩
theorem subK_val (l:List KI) (hk:∀ k∈l,KS k):(subK l hk).map (·.1)=l:=by
 simp only[subK,Kz,XQ]
 exact List.attach_map_subtype_val l
theorem flat_valK (d:Array KSub):(flatK encS 2 d).toList=valK (d.toList.map (·.1)):=by
 apply XU
 intro t
 rw[Zm]
 by_cases ht:t<d.size*2
 ·have h1:t<(flatK encS 2 d).size:=by rw[size_flatK];exact ht
  have h2:=get_flatK encS 2 d t ht
  have hd:t / 2<d.size:=aa
  rw[K2 _ t h1,K2 d (t / 2) hd] at h2
  rw[qe,Qz h1,h2]
  simp only[qb,qe,Qz hd,qc]
  rcases Qy t with e|e<;>simp[e,encS]
 rw[qe,Array.getElem?_eq_none (by rw[size_flatK];omega)]
 simp only[qb,qe,Array.getElem?_eq_none (show d.size<=t / 2 by omega),JN]
theorem take_eq_of {α:Type} {a b:List α} {n:Nat} (h:∀ t,t<n->a[t]? =b[t]?):a.take n=b.take n:=by
 apply XU
 grind
section
variable [Lz]
theorem w235c (l L:List KI) (n v:Nat) (d:DV) (hn:n<=l.length) (h62:l.length<4611686018427387904) (hd:d=.atrunc 901 v n\/(d=.aref 901 v/\n=l.length)) (hk:∀ k∈l.take n,KS k) (hp:L.Perm (l.take n)) (hs:L.Pairwise (fun a b=>ordI a b<0))
  {G:Gh} {w:World} {vs:Array Value} (M:ZZ G (qr [(901,.arr v 2 112 (l.map eK))]) w) (hv:qz G (G.rd w) [d,.pv (.fn (.func 79) [] [])] vs.toList) (ha:(G.ρ 901).addr≠none) :
  CallsAs prog 187 vs w fun r w'=>∃ G',Stepped G w (qr [(901,.arr v 2 112 (l.map eK))]) (.tup []) [(901,.arr v 2 112 ((L++l.drop n).map eK))] G' w' r:=by
 have hl1:qr [(901,MO.arr v 2 112 (l.map eK))] 901=some (.arr v 2 112 (l.map eK)):=by simp[qy]
 refine .inl ⟨Tryz.call187 _ _,?_⟩
 obtain⟨v1,v2,e,q1,q2⟩:=hv.two
 obtain⟨k1,k2,k3,k4,k5,k6,hA⟩:=M.ms 901 _ hl1
 have hfn:v2=.func (.func 79) #[] #[]:=by
  simp only[qt,qI,qw] at q2
  obtain⟨x,y,rfl,hx,hy⟩:=q2
  rw[show x= #[] by rw[<-Array.toArray_toList (xs:=x),hx],show y= #[] by rw[<-Array.toArray_toList (xs:=y),hy]]
 subst hfn
 rw[zI] at k4 k5
 rcases hA with ⟨ha',hc⟩|⟨b,c,e1,e2,e3,e4,e5,e6,e7⟩
 ·exact absurd ha' ha
 have hv1:v1=.slice (some ⟨b,0,none⟩) n (G.ρ 901).cap:=by
  rcases hd with rfl|⟨rfl,hnl⟩
  ·simp only[qt] at q1;rw[(q1.2 k2).2,e1]
  simp only[qt] at q1;rw[q1.2 k2,e1,k4,hnl]
 subst hv1;subst e
 rw[zI] at e6 e7
 have hc7:=rel_valK.1 e7
 have hbl:b<w.heap.size:=(zS.1 e3).1
 have hcs:l.length*2<=c.size:=by rw[e5];omega
 have hcget:∀ t,t<l.length*2->c[t]? =(valK l)[t]? :=by
  intro t ht
  rw[<-hc7,qj,WK ht,qe]
 obtain⟨D,hD⟩:∃ D:Array KSub,D=(subK (l.take n) hk).toArray:=⟨_,rfl⟩
 have hDl:D.toList.map (·.1)=l.take n:=by rw[hD];exact subK_val (l.take n) hk
 have hDs:D.size=n:=by rw[<-qf,<-zI (f:=fun x:KSub=>x.1),hDl];simp;omega
 have hfl:(flatK encS 2 D).toList=valK (l.take n):=by rw[flat_valK,hDl]
 have hval:∀ t,t<n*2->(valK (l.take n))[t]? =(valK l)[t]? :=by
  intro t ht
  rw[Zm,Zm,qj,WK aa]
 have hH:HoldsK encS 2 w b 0 D:=by
  intro t ht
  rw[size_flatK,hDs] at ht
  have h1:(flatK encS 2 D)[t]? =c[t]? :=by rw[<-qe,hfl,hval t ht,hcget t aa]
  have h2:t<(flatK encS 2 D).size:=by rw[size_flatK,hDs];exact ht
  have h3:t<c.size:=aa
  constructor
  ·simp only[World.cell?,e3,KT,XL,qk,qm,id]
   rw[<-h1,Qz h2,K2 _ t h2]
  simp[World.frozen?,e3]
 have key:=AnyQ.slices_SortFunc Tryz.lays235 2 Tryz.isAgg112 Tryz.sizeOf112 encS (fun _=>rfl) (fun x v hv=>by simp[encS] at hv;rcases hv with rfl|rfl<;>rfl) cfS cfS_swo 79 #[] b 0 (G.ρ 901).cap D w (Tryz.call79 ) (fun _ _ _ _ x y=>by rw[Array.append_empty];exact order_calls x y _) hH hbl (by rw[hDs];omega)
 rw[hDs] at key
 refine Calls.mono key ?_
 rintro e w' ⟨rfl,d',m,os,p1,p2,rfl⟩
 refine⟨_,rfl,?_⟩
 obtain⟨ps,_,pp⟩:=p1
 have hds:d'.size=n:=ps.trans hDs
 have hdl:d'.toList.map (·.1)=L:=by
  refine sorted_uniq L _ (hp.trans ?_) hs ?_
  ·have e1:(d'.extract 0 n).toList=d'.toList:=by rw[<-hds];simp
   have e2:(D.extract 0 n).toList=D.toList:=by rw[<-hDs];simp
   rw[e1,e2] at pp
   have:=pp.map (fun x:KSub=>x.1)
   rw[hDl] at this
   exact this.symm
  rw[XY,QG]
  intro i j hi hj hij
  have:=XM (show decide (ordI (d'[j]!).1 (d'[i]!).1<0)=false from p2 i j (zt _) hij (by rw[<-hds];simpa using hj))
  rw[K2 d' j an,K2 d' i ar] at this
  simpa using this
 have hfl':(flatK encS 2 d').toList=valK L:=by rw[flat_valK,hdl]
 have hLl:L.length=n:=by rw[hp.length_eq];simp;omega
 obtain⟨W1,hW1⟩:∃ W1,W1=grow (Sort.ahead w m) os:=⟨_,rfl⟩
 have hW:sortWorldK encS 2 w b 0 m d' os=putRowK encS 2 W1 b 0 d':=by rw[hW1,putRowK_grow _ _ _ _ _ _ _ (by exact hbl)];rfl
 have S1:Stepped G w (qr [(901,MO.arr v 2 112 (l.map eK))]) .dead [] G W1 undef:=by refine kT M.ctx (by rw[hW1];rfl) (by rw[hW1];rfl) (by rw[hW1];rfl) (by rw[hW1,size_grow];exact Jj _ _) (fun b' hb'=>by rw[hW1];exact heap_grow_old _ _ hb') aB rfl (fun _=>by rw[hW1];exact Jj _ _)
 have M1:=M.out S1
 have hu:upd [] (qr [(901,MO.arr v 2 112 (l.map eK))])=qr [(901,MO.arr v 2 112 (l.map eK))]:=by funext h;rfl
 rw[hu] at M1
 have hb1:W1.heap[b]? =some (.cells c 112 (0,0)):=by rw[hW1,heap_grow_old _ _ (by exact hbl)];exact e3
 have hw2:(putRowK encS 2 W1 b 0 d').heap=W1.heap.modify b (onCells (putCells id 0 (flatK encS 2 d'))):=rfl
 have hn2:(putRowK encS 2 W1 b 0 d').heap[b]? =some (.cells (putCells id 0 (flatK encS 2 d') c) 112 (0,0)):=by rw[hw2,Q0,WK rfl,hb1];rfl
 have S2:=q8 (m:=.arr v 2 112 ((L++l.drop n).map eK)) (val:=.tup []) (r:=.tuple #[]) M1.ctx (B:=G.ρ 901) (h:=901) hl1 aU
  (w':=putRowK encS 2 W1 b 0 d') Z Z Z (by rw[hw2,Array.size_modify]) (fun b' hb'=>by
   rw[hw2,Q0,WJ (fun e=>hb' (by rw[<-e];exact e2))]) cC (by
   rw[Gh.qT]
   have hlen:(L++l.drop n).length=l.length:=by simp[hLl];omega
   refine⟨k1,k2,k3,by rw[zI,hlen];exact k4,by rw[zI,hlen];exact k5,fun e he=>by obtain⟨k,_,rfl⟩:=zE.1 he;rfl,.inr ⟨b,_,e1,e2,hn2,e4,by simp[putCells,e5],?_,?_⟩⟩
   all_goals rw[zI,hlen]
   all_goals
    have hnew:(putCells id 0 (flatK encS 2 d') c).toList.take (l.length*2)=valK (L++l.drop n):=by
     have e0:valK (L++l.drop n)=(valK (L++l.drop n)).take (l.length*2):=by rw[zz];rw[valK_len,hlen];exact zB _
     rw[e0]
     refine take_eq_of fun t ht=>?_
     have htc:t<c.size:=aa
     rw[qe]
     simp only[putCells,Array.getElem?_mapIdx,Qz htc,qc,zt,WF,KT,KQ,size_flatK,hds,id]
     by_cases hq:t<n*2
     ·have h2:t<(flatK encS 2 d').size:=by rw[size_flatK,hds];exact hq
      rw[WK hq,K2 _ t h2,<-Array.getElem?_eq_getElem h2,<-qe,hfl',Zm,Zm,QC aa]
     rw[WJ hq,<-Array.getElem?_eq_getElem htc,hcget t ht,Zm,Zm,Qw aa,XB,hLl]
     congr 2;omega
   ·rw[hnew]
    intro x hx
    have:∀ l:List KI,∀ x∈valK l,x.oneCell'=true:=by
     intro l
     induction l with
     | nil=>intro x hx;cases hx
     | cons k l ih=>
      intro x hx
      rw[ZW] at hx
      rcases zF.1 hx with rfl|hx
      ·rfl
      rcases zF.1 hx with rfl|hx
      ·rfl
      exact ih x hx
    exact this _ x hx
   rw[hnew];exact rel_valK.2 Z) bc am
 rw[Gh.qT] at S2
 have S3:=S1.trans M (by rw[hu];exact S2)
 rw[hW]
 exact⟨G,by simpa [mrg] using S3⟩
end
theorem ck [Lz] [Fc] {n nb:Nat} {Q:Exit->St->Prop} {x:Code} {K:List Fr} {tm:List (Nat×DV)} {ms:Na} (h:TK prog n nb Q x K ⟨tm,ms⟩):CG n nb Q (.t x K tm ms):=h
section
variable [Lz] {P:Program} {Y:Tab} [qH P Y] {nb:Nat} {s:St} {dst:Option Tmp} {ty u:TypeId} {pos:String} {af:Array Edge} {gd:Option (Nat×Bool)} {t:TypeId} {x y z:Operand}
theorem B.slL {α:Type} {enc:α->List PV} {l:List α} {lo:Operand} {h v sz i:Nat} {k:IntKind} {n:Int} {e T:TypeId} (hx:ev1 s x=.aref h v) (hm:qr s.ms h=some (.arr v sz T (l.map enc))) (hlo:ev1 s lo=lit (.int k n)) (und:Y.underlying t=some (.slice e)) (hs:szT Y e=some sz)
  (hn:n=(i:Int)) (hi:i<l.length):Body P Y nb s ⟨dst,.slice t x (some lo) none none,ty,pos,af,gd⟩ (.awin h v i (l.length-i)) [] [h]:=by
 refine .inr (jS.of fun σ G a w hv hl I=>?_)
 have hX:=hv x aS
 have hY:=hv lo aS
 rw[hx] at hX;rw[hlo] at hY
 have hY':=(qx hY).1
 have hlk:qr σ.ms h=some (.arr v sz T (l.map enc)):=by rw[hl h (.inl ao)];exact hm
 obtain⟨k1,k2,k3,k4,k5,k6,hA⟩:=I.ms _ _ hlk
 rw[zI] at k4 k5
 rcases hA with ⟨_,hc⟩|⟨b,c,e1,_⟩
 ·rw[hc] at k5;omega
 simp only[qt] at hX
 have hX':=hX.2 k2
 rw[e1,k4] at hX'
 subst hn
 have hb:=jU (P:=P) (w:=w) (isS:=true) (len:=l.length) (cap:=(G.ρ h).cap) (lo:=some (.int k (i:Int))) (hi:=none) (l:=some (i:Int)) (h:=none) ⟨k,rfl⟩ trivial ao aF aF
 have hrun:(Instr.sliceAt t (.slice (some ⟨b,0,none⟩) l.length (G.ρ h).cap) (some (.int k (i:Int))) none none).run P w=.ok (.slice (some ⟨b,i*sz,none⟩) (l.length-i) ((G.ρ h).cap-i)) w:=by
  rw[Zk (by simp[und]) und]
  simp only[Instr.slice,qp,qF und,qo,hb,qX hs,qq,zO,Jo,zT]
  rw[WJ aa]
  simp[Addr.add]
  exact Eq.symm
 refine⟨_,w,G,.inl ?_,qD I.ctxS (r:=.slice (some ⟨b,i*sz,none⟩) (l.length-i) ((G.ρ h).cap-i)) ?_ (fun k hk=>?_)⟩
 ·simp only[execOp,JN,qc,hX',hY',qp,hrun,qo,qq]
 ·simp only[qt]
  exact⟨by rw[k2];exact zB _,fun _=>⟨by rw[k4];omega,b,0,e1,by rw[k3];simp⟩⟩
 simp only[DV.refs,zg] at hk;subst hk;exact⟨_,hlk⟩
theorem B.clrK {l:List KI} {h v o n:Nat} {i:TypeInfo} {zv:Value} (hx:ev1 s x=.awin h v o n) (hm:qr s.ms h=some (.arr v 2 112 (l.map eK))) (hn:0<n) (hon:o+n=l.length) (und:Y.underlying t=some (.slice 112)) (hi:Y.info? 112=some i) (hz:i.zero=some zv) (hzc:zv.cells.toList=[.int .i64 0,.int .i64 0]) :
  Body P Y nb s ⟨none,.call ⟨.builtin .clear,⟨[x]⟩,⟨[t]⟩⟩,ty,pos,af,gd⟩ (.tup []) [(h,.arr v 2 112 ((l.take o++replicate n (0,0)).map eK))] [h]:=by
 refine .inr (jS.of fun σ G a w hv hl I=>?_)
 have hX:=hv x (show x∈[x] by simp)
 rw[hx] at hX
 have hlk:qr σ.ms h=some (.arr v 2 112 (l.map eK)):=by rw[hl h (.inl ao)];exact hm
 obtain⟨k1,k2,k3,k4,k5,k6,hA⟩:=I.ms _ _ hlk
 rw[zI] at k4 k5
 rcases hA with ⟨_,hc⟩|⟨b,c,e1,e2,e3,e4,e5,e6,e7⟩
 ·rw[hc] at k5;omega
 rw[zI] at e6 e7
 have hc7:=rel_valK.1 e7
 simp only[qt] at hX
 obtain⟨_,b',off,g1,g2⟩:=hX.2 k2
 rw[e1] at g1
 simp only[zh,Addr.mk.injEq,WC] at g1
 obtain⟨rfl,rfl⟩:=g1
 rw[k3,KT] at g2
 have hcs:l.length*2<=c.size:=by rw[e5];omega
 have hzl:(Builtin.zeroCells zv.cells n).toList=valK (replicate n (0,0)):=by
  rw[zeroCells_list,hzc]
  unfold valK
  rw[XC]
 have hzr:(zeroValue 112).run P w=.ok zv w:=by simp[zeroValue,typeInfo,qH.inf P hi,hz]
 have hone:∀ l:List KI,∀ x∈valK l,x.oneCell'=true:=by
  intro l
  induction l with
  | nil=>intro x hx;cases hx
  | cons k l ih=>
   intro x hx
   rw[ZW] at hx
   rcases zF.1 hx with rfl|hx
   ·rfl
   rcases zF.1 hx with rfl|hx
   ·rfl
   exact ih x hx
 have hst:=run_storeCells_at P b (o*2) 112 (valK (replicate n (0,0))) 0 c w e3 (by rw[valK_len];simp;omega) (hone _)
 obtain⟨row,hrow⟩:∃ row,row=c.toList.take (o*2)++valK (replicate n (0,0))++c.toList.drop (o*2+n*2):=⟨_,rfl⟩
 have hst':(storeCells ⟨b,o*2,none⟩ (valK (replicate n (0,0))) 0).run P w=.ok () (w.setRow b row.toArray):=by rw[hst,hrow];simp[valK_len]
 have hnz:n≠0:=aa
 have hrun:(Builtin.clear_ #[t] ty #[.slice (some ⟨b,o*2,none⟩) n ((G.ρ h).cap-o)]).run P w=.ok (.tuple #[]) (w.setRow b row.toArray):=by
  obtain⟨m,rfl⟩:∃ m,n=m+1:=⟨n-1,aa⟩
  simp only[Builtin.clear_,Q6,QQ,qp,qF und,qo,hzr,hzl,hst',qq]
 have hblk:∀ b',G.γ b'≠some h->(w.setRow b row.toArray).heap[b']? =w.heap[b']? :=fun b' hb'=>setRow_other w b b' _ (fun e=>hb' az)
 have htk:row.take (l.length*2)=valK (l.take o++replicate n (0,0)):=by
  have h1:(c.toList.take (o*2))=valK (l.take o):=by
   have:c.toList.take (o*2)=(valK l).take (o*2):=by rw[<-hc7,J7,JK aa]
   rw[this]
   apply XU
   intro t
   rw[qj,Zm,Zm]
   by_cases ht:t<o*2
   ·rw[WK ht,qj,WK aa]
   rw[WJ ht,qj,WJ aa];rfl
  have h2:valK (l.take o++replicate n (0,0))=valK (l.take o)++valK (replicate n (0,0)):=by simp[valK]
  rw[hrow,h1,h2,JE]
  rw[za,valK_len,valK_len,zn,qa];omega
 have S:=q8 (m:=.arr v 2 112 ((l.take o++replicate n (0,0)).map eK)) (val:=.tup []) (r:=.tuple #[]) I.ctxS (B:=G.ρ h) hlk aU
  (w':=w.setRow b row.toArray) Z Z Z ao hblk cC (by
   rw[Gh.qT]
   have hlen:(l.take o++replicate n (0,0)).length=l.length:=by simp;omega
   refine⟨k1,k2,k3,by rw[zI,hlen];exact k4,by rw[zI,hlen];exact k5,fun e he=>by obtain⟨k,_,rfl⟩:=zE.1 he;rfl,.inr ⟨b,_,e1,e2,setRow_heap w b c _ 112 _ e3,e4,?_,?_,?_⟩⟩
   ·rw[hrow];simp[valK_len];omega
   ·rw[zI,hlen];show ∀ x∈row.take (l.length*2),_;rw[htk];exact hone _
   rw[zI,hlen];show qw _ _ (row.take (l.length*2));rw[htk];exact rel_valK.2 Z) bc am
 rw[Gh.qT] at S
 refine⟨_,_,G,.inl ?_,S⟩
 have lift:∀ {q:Sem Value} {r:Value} {w':World},q.run P w=.ok r w'->(do Pure.pure (Next.value (<-q)):Sem Next).run P w=.ok (.value r) w':=by
  intro q r w' h
  simp only[qp,h,qo,qq]
 exact lift (by simpa [g2] using hrun)
end
end Go.Lens.Tb
end
section
namespace Go.Lens.Tb
open Go.Proofs Go.Lens.Un
variable [Lz] [Dn]
attribute [local irreducible] TK PK T RG EfR Body CG
def zq (x:Qn):Bool:=decide (j8 x.q.num=0)
def pK (m:List (KI×Qn)) (k:KI):Bool:=match kN k m with|some x=>zq x|none=>true
def idxK (p:KI->Bool):List KI->Int->Int
 | [],_=> -1
 | a::l,i=>bif p a then i else idxK p l (i+1)
def kpK (m:List (KI×Qn)) (l:List KI):List KI:=l.filter fun k=>!pK m k
section
variable {m:List (KI×Qn)} {k:KI} {x:Qn} {l o:List KI} {p:KI->Bool} {i j q:Nat}
theorem pk_v (h:kN k m=some x):decide (j8 x.q.num=0)=pK m k:=by unfold pK;rw[h];rfl
theorem get_mem (h:k∈m.map (·.1)):∃ x,kN k m=some x:=by
 cases hg:kN k m with
 | some x=>exact⟨x,rfl⟩
 | none=>
  exfalso
  induction m with
  | nil=>cases h
  | cons a m ih=>
   grind [kN]
theorem ik_step {j:Nat} (hk:j<l.length) (h:p (l.getD j (0,0))=false):idxK p (l.drop j) j=idxK p (l.drop (j+1)) ((j+1:Nat):Int):=by rw[drop_at l j (0,0) hk,idxK,h];rfl
theorem ik_end {i:Int} {j:Nat} (h:i=idxK p (l.drop j) j) (hk:¬(j:Int)<(l.length:Int)): -1=i:=by rw[h,zV aa];rfl
theorem ik_at {i:Int} {j:Nat} (h:i=idxK p (l.drop j) j) (hk:j<l.length) (hp:p (l.getD j (0,0))=true):(j:Int)=i:=by rw[h,drop_at l j (0,0) hk,idxK,hp];rfl
theorem ik_all {i:Int} (h:∀ k∈l,p k=false):idxK p l i= -1:=by
 induction l generalizing i with
 | nil=>rfl
 | cons a l ih=>rw[idxK,h a ao];exact ih fun k hk=>h k (by simp[hk])
theorem ik_no (h:∀ k∈l,pK m k=false):idxK (pK m) l 0= -1:=ik_all h
theorem ik_find (i:Nat):(∀ k∈l,p k=false)\/∃ q,q<l.length/\idxK p l i=((i+q:Nat):Int)/\(∀ k∈l.take q,p k=false)/\p (l.getD q (0,0))=true:=by
 induction l generalizing i with
 | nil=>exact .inl fun k hk=>by cases hk
 | cons a l ih=>
  cases ha:p a with
  | true=>exact .inr ⟨0,by simp,by rw[idxK,ha];rfl,by simp,by simpa using ha⟩
  | false=>
   rcases ih (i+1) with h|⟨q,h1,h2,h3,h4⟩
   ·exact .inl fun k hk=>by
     rcases zF.1 hk with rfl|hk
     ·exact ha
     exact h k hk
   refine .inr ⟨q+1,by simpa using h1,?_,fun k hk=>?_,by simpa using h4⟩
   ·rw[idxK,ha]
    show idxK p l ((i:Int)+1)=_
    rw[show ((i:Int)+1)=((i+1:Nat):Int) from rfl,h2]
    omega
   rw[Xu] at hk
   rcases zF.1 hk with rfl|hk
   ·exact ha
   exact h3 k hk
theorem ik_q (h:idxK (pK m) l 0=q) (hl:q<l.length):(∀ k∈l.take q,pK m k=false)/\pK m (l.getD q (0,0))=true:=by
 rcases ik_find (l:=l) (p:=pK m) 0 with e|⟨q',h1,h2,h3,h4⟩
 ·rw[ik_all e] at h;omega
 rw[show ((0:Nat):Int)=0 from rfl] at h2
 rw[h2] at h
 have:q=q':=aa
 rw[this];exact⟨h3,h4⟩
def DeI (m:List (KI×Qn)) (l:List KI) (j i:Nat) (o:List KI):Prop:=j<=l.length/\i<j/\i=(kpK m (l.take j)).length/\o=kpK m (l.take j)++l.drop i
theorem de_0 (h:idxK (pK m) l 0=q) (hl:q<l.length):DeI m l (q+1) q l:=by
 obtain⟨h1,h2⟩:=ik_q h hl
 have e:kpK m (l.take (q+1))=l.take q:=by
  unfold kpK
  rw[Qf hl,List.filter_append,Xm.2 fun k hk=>by rw[h1 k hk];rfl]
  rw[ze,zm hl] at h2
  simp only[zO] at h2
  simp[h2]
 exact⟨aa,aa,by rw[e,zn];omega,by rw[e,Q8]⟩
theorem de_ol (h:DeI m l j i o):o.length=l.length:=by
 obtain⟨h1,h2,h3,rfl⟩:=h
 grind
theorem de_get (h:DeI m l j i o) (hj:j<l.length):o.getD j (0,0)=l.getD j (0,0):=by
 obtain⟨h1,h2,h3,rfl⟩:=h
 rw[ze,Qw aa,<-h3,XB,show i+(j-i)=j by omega,<-ze]
theorem gd_mem2 (h:DeI m l j i o) (hj:j<l.length):o.getD j (0,0)∈l:=by rw[de_get h hj];exact ki hj
theorem kp_snoc (hj:j<l.length):kpK m (l.take (j+1))=kpK m (l.take j)++(bif pK m (l.getD j (0,0)) then [] else [l.getD j (0,0)]):=by
 unfold kpK
 rw[Qf hj,List.filter_append,ze,zm hj]
 grind
theorem de_k (h:DeI m l j i o) (hj:j<l.length) (hp:(!pK m (o.getD j (0,0)))=true):DeI m l (j+1) (i+1) (o.set i (o.getD j (0,0))):=by
 rw[de_get h hj] at hp ⊢
 obtain⟨h1,h2,h3,rfl⟩:=h
 have hp':pK m (l.getD j (0,0))=false:=by grind
 have e:=kp_snoc (m:=m) hj
 rw[hp',Ww] at e
 refine⟨aa,aa,by rw[e,za,<-h3];rfl,?_⟩
 rw[e,List.set_append_right _ _ aa,<-h3,Nat.sub_self,drop_at l i (0,0) aa,XE,zZ];rfl
theorem de_d (h:DeI m l j i o) (hj:j<l.length) (hp:(!pK m (o.getD j (0,0)))=false):DeI m l (j+1) i o:=by
 rw[de_get h hj] at hp
 obtain⟨h1,h2,h3,rfl⟩:=h
 have hp':pK m (l.getD j (0,0))=true:=by grind
 have e:=kp_snoc (m:=m) hj
 rw[hp',Wy,zR] at e
 exact⟨aa,aa,by rw[e];exact h3,by rw[e]⟩
theorem de_len (h:DeI m l j i o) (hj:l.length<=j):i=(kpK m l).length:=by
 obtain⟨h1,h2,h3,_⟩:=h
 grind
theorem de_end (h:DeI m l j i o) (hj:l.length<=j):o.take i++replicate (o.length-i) ((0,0):KI)=kpK m l++replicate (l.length-(kpK m l).length) (0,0):=by
 have h1:=de_ol h
 have h2:=de_len h hj
 obtain⟨_,_,h3,h4⟩:=h
 grind
end
theorem in112:tab.info? 112=some ty112.info:=ae
theorem un179:tab.underlying 179=some (.slice 112):=ae
theorem w274:CKa 229 [WM ((0:Nat):Int)] (vI ((q9 0:Nat):Int)):=by
 exact cG qf229 Z (nB Z) Z (CF Z Z (C Z (w309 0 ah) Z Z Z (Rt Z (leaf Z Z))))
theorem w300:CKa 257 [vL eK [],vI 0,vI 0,.pv (.fn (.func 79) [] [])] (.tup []):=by
 refine cG qf257 Z (nB Z) Z (E Z (B.add Z Z bg) (l1 (fun (u:Nat)=>[(0,vL eK []),(1,vI 0),(2,vI 0),(3,.pv (.fn (.func 79) [] [])),(8,vI (0+1))]) (fun _=>[]) (fun u=>u=u) (fun u=>u) 0 Z ?_ (sb Z Z Z) ?_))
 · rfl
 intro u hI0
 exact CF Z Z (Rn Z (leafE Z Z))
theorem w273 (n:Int):CKa 228 [vL eK [],vI 0,vI 0,vI n,.pv (.fn (.func 79) [] [])] (.tup []):=by
 refine cG qf228 Z (nB Z) Z (l1 (fun (u:Nat)=>[(0,vL eK []),(1,vI 0),(2,vI 0),(3,vI n),(4,.pv (.fn (.func 79) [] [])),(10,vB true),(11,vB true)]) (fun _=>[]) (fun u=>u=u) (fun u=>u) 0 Z ?_ (sb Z Z Z) ?_)
 · rfl
 intro u hI0
 exact E Z (B.sub Z Z bg) (CT Z Z (C Z (w300) Z Z Z (Rt Z (leaf Z Z))))
theorem w235':CKa 187 [.nils,.pv (.fn (.func 79) [] [])] (.tup []):=by
 exact cG qf187 Z (nB Z) Z (E Z (B.run Z) (E Z (B.run Z) (E Z (B.run Z) (E Z (B.toUN Z un3 un261 Z Z) (C Z (w274) Z Z Z (E Z (B.call (qA.nz (w273 ((q9 0:Nat):Int)) Z) Z Z Z) (Rn Z (leafE Z Z))))))))
theorem w234' (m:List (KI×Qn)) (k:KI) (x:Qn) (hg:kN k m=some x) (hz:sz (Qn.q x)<=20000000):qA prog 186 [.pv (.agg [pI (fst k),pI (snd k)]),.bref 11 0] (qr [(1,(kO eP m)),(11,.box 101 [.mref 1])]) (vB (pK m k)) [(11,.box 101 [.mref 1]),(1,(kO eP m))]:=by
 exact cL 12 [(1,(kO eP m)),(11,.box 101 [.mref 1])] qf186 Z (nB Z) Z Z (kc (E Z (B.getK0 kty Z Z Z in99 Z zP_ok hg) (C Z (w145 x hz) Z Z Z (Rt Z (lL Z (by exact lb (pk_v hg)))))))
theorem w234 (m:List (KI×Qn)) (k:KI) (hk:k∈m.map (·.1)) (hz:∀ k x,kN k m=some x->sz (Qn.q x)<=20000000):qA prog 186 [.pv (kkP k),.bref 11 0] (qr [(1,kO eP m),(11,.box 101 [.mref 1])]) (vB (pK m k)) [(11,.box 101 [.mref 1]),(1,kO eP m)]:=by
 obtain⟨x,hx⟩:=get_mem hk
 exact w234' m k x hx (hz k x hx)
theorem w272 (m:List (KI×Qn)) (l:List KI) (v:Nat) (hl:l.length<=1000000) (hk:∀ k∈l,k∈m.map (·.1)) (hz:∀ k x,kN k m=some x->sz (Qn.q x)<=20000000):qA prog 227 [.aref 901 v,.clos (.func 186) [] [.bref 11 0]] (qr [(1,(kO eP m)),(11,.box 101 [.mref 1]),(901,.arr v 2 112 (List.map eK l))]) (vI (idxK (pK m) l 0)) [(901,.arr v 2 112 (List.map eK l)),(11,.box 101 [.mref 1]),(1,(kO eP m))]:=by
 refine cL 902 [(1,(kO eP m)),(11,.box 101 [.mref 1]),(901,.arr v 2 112 (List.map eK l))] qf227 Z (nB Z) Z Z (kc (E Z (B.lenA Z Z un179) (l1 (fun (k:Nat)=>[(0,.aref 901 v),(1,.clos (.func 186) [] [.bref 11 0]),(7,vI (l.length:Int)),(8,vI (k:Int))]) (fun _=>[(1,(kO eP m)),(11,.box 101 [.mref 1]),(901,.arr v 2 112 (List.map eK l))]) (fun k=>k<=l.length/\idxK (pK m) l 0=idxK (pK m) (drop k l) k) (fun k=>l.length-k) 0 Z ?_ (sb Z Z Z) ?_)))
 · exact⟨zt _,rfl⟩
 intro k hI0
 refine Cp Z Z (fun h1=>?_) (fun h1=>?_)
 ·refine E Z (B.idxE Z Z Z un179 sz112 Z aa) (E Z (B.loadEA (z0:=(0,0)) Z Z ag112 sz112 aa Z) (E Z (B.jx (w234 m (l.getD k (0,0)) (hk _ (ki aa)) hz) Z Z ⟨rfl,rfl,trivial⟩ rfl rfl) (Cb Z Z (fun h2=>?_) (fun h2=>?_))))
  ·exact Rt Z (lL Z cD)
  refine E Z (B.add Z Z bg) (pk Z (L1 (k+1) ?_ ?_ (sb Z Z Z)))
  · (exact⟨aa,by rw[hI0.2];exact ik_step aa ab⟩)
  · omega
 exact Rt Z (lL Z cD)
theorem w233a (m:List (KI×Qn)) (l:List KI) (v:Nat) (hl:l.length<=1000000) (hk:∀ k∈l,k∈m.map (·.1)) (hz:∀ k x,kN k m=some x->sz (Qn.q x)<=20000000) (hn:∀ k∈l,pK m k=false):qA prog 185 [.aref 901 v,.clos (.func 186) [] [.bref 11 0]] (qr [(1,(kO eP m)),(11,.box 101 [.mref 1]),(901,.arr v 2 112 (List.map eK l))]) (.aref 901 v) [(11,.box 101 [.mref 1]),(1,(kO eP m)),(901,.arr v 2 112 (List.map eK l))]:=by
 refine cL 902 [(1,(kO eP m)),(11,.box 101 [.mref 1]),(901,.arr v 2 112 (List.map eK l))] qf185 Z (nB Z) Z Z (kc (E Z (B.nilS (enc:=eK) Z) (E Z (B.jx (w272 m l v hl hk hz) Z Z ⟨rfl,rfl,rfl,trivial⟩ rfl rfl) (Cp Z Z (fun h1=>?_) (fun h1=>?_)))))
 ·exact Rt Z (lL Z bx)
 exact absurd (ik_no hn) h1
theorem w233b (m:List (KI×Qn)) (l:List KI) (v:Nat) (q:Nat) (hl:l.length<=1000000) (hk:∀ k∈l,k∈m.map (·.1)) (hz:∀ k x,kN k m=some x->sz (Qn.q x)<=20000000) (hq:idxK (pK m) l 0=q) (hql:q<l.length):qA prog 185 [.aref 901 v,.clos (.func 186) [] [.bref 11 0]] (qr [(1,(kO eP m)),(11,.box 101 [.mref 1]),(901,.arr v 2 112 (List.map eK l))]) (.atrunc 901 v ((kpK m l).length)) [(11,.box 101 [.mref 1]),(1,(kO eP m)),(901,.arr v 2 112 (List.map eK (kpK m l++replicate (l.length-(kpK m l).length) (0,0))))]:=by
 refine cL 902 [(1,(kO eP m)),(11,.box 101 [.mref 1]),(901,.arr v 2 112 (List.map eK l))] qf185 Z (nB Z) Z Z (kc (E Z (B.nilS (enc:=eK) Z) (E Z (B.jx (w272 m l v hl hk hz) Z Z ⟨rfl,rfl,rfl,trivial⟩ rfl rfl) (Cp Z Z (fun h1=>?_) (fun h1=>?_)))))
 ·exact absurd h1 aa
 refine tk 4 Z ?_
 refine tn ⟨[(0,.aref 901 v),(1,.clos (.func 186) [] [.bref 11 0]),(5,vI (idxK (pK m) l 0))],[(1,(kO eP m)),(11,.box 101 [.mref 1]),(901,.arr v 2 112 (List.map eK l))]⟩ rfl rfl Z ?_
 rw[hq]
 refine kc (E Z (B.add Z Z bg) (l3 (fun (j:Nat) (i:Nat) (o:List KI)=>[(0,.aref 901 v),(1,.clos (.func 186) [] [.bref 11 0]),(5,vI (i:Int)),(6,vI (j:Int))]) (fun _ _ o=>[(1,(kO eP m)),(11,.box 101 [.mref 1]),(901,.arr v 2 112 (List.map eK o))]) (fun j i o=>DeI m l j i o) (fun j _ _=>l.length-j) (q+1) q l Z ?_ (sb Z Z Z) ?_))
 · exact de_0 hq hql
 intro j i o hI0
 have hol:=de_ol hI0
 have hd1:=hI0.1
 have hd2:=hI0.2.1
 refine E Z (B.lenA Z Z un179) (Cp Z Z (fun h2=>?_) (fun h2=>?_))
 ·refine E Z (B.idxE Z Z Z un179 sz112 Z aa) (E Z (B.loadEA (z0:=(0,0)) Z Z ag112 sz112 aa Z) (E Z (B.jx (w234 m (o.getD j (0,0)) (hk _ (gd_mem2 hI0 aa)) hz) Z Z ⟨rfl,rfl,trivial⟩ rfl rfl) (Cb Z Z (fun h3=>?_) (fun h3=>?_))))
  ·refine E Z (B.idxE Z Z Z un179 sz112 Z aa) (E Z (B.setA (z0:=(o.getD j (0,0))) Z Z Z Z sz112 aa (fun _=>rfl)) (E Z (B.add Z Z bg) (E Z (B.add Z Z bg) (pk Z (L3 (j+1) (i+1) (List.set o i (o.getD j (0,0))) ?_ ?_ (sb Z Z Z))))))
   · first|exact de_k hI0 aa ab|exact de_d hI0 aa ab
   · omega
  refine E Z (B.add Z Z bg) (pk Z (L3 (j+1) i o ?_ ?_ (sb Z Z Z)))
  · first|exact de_k hI0 aa ab|exact de_d hI0 aa ab
  · omega
 refine E Z (B.slL Z Z Z un179 sz112 Z aa) (E Z (B.clrK Z Z aa aa un179 in112 Z Z) ?_)
 have hol2:(take i o++replicate (o.length-i) ((0,0):KI)).length=List.length o:=by grind
 exact E Z (B.slA Z Z Z un179 sz112 Z aa) (Rt Z (ZG (val0:=.atrunc 901 v i) (out0:=[(11,.box 101 [.mref 1]),(1,(kO eP m)),(901,.arr v 2 112 (List.map eK (take i o++replicate (o.length-i) (0,0))))]) (.inr Z) ae (by rw[de_len hI0 aa]) (by rw[de_end hI0 aa])))
end Go.Lens.Tb
end
section
namespace Go.Proofs
open Go.Shelf
def Tryz.lays178_ren:Go.Shelf.Ren:=⟨fun|5=>137|7=>198|n=>n,fun|23=>101|25=>112|3=>99|4=>4|20=>20|n=>n,fun|n=>n⟩
theorem Tryz.lays178:Go.Proofs.SlLaysW.n5 prog Tryz.lays178_ren:={
  mixed:=ae
  f5:=⟨Tryz.f137.name,ah,Tryz.func137.trans (WD some ae)⟩
  f7:=Tryz.func198.trans (WD some ae)
  t4:=Tryz.underlying4
  a4:=Tryz.isAgg4
  z4:=Tryz.sizeOf4
  v4:=Tryz.zeroValue4
  t20:=Tryz.underlying20
  a20:=Tryz.isAgg20
  z20:=Tryz.sizeOf20
  v20:=Tryz.zeroValue20
  t23:=Tryz.underlying101
  a23:=Tryz.isAgg101
  z23:=Tryz.sizeOf101
  v23:=Tryz.zeroValue101 }
end Go.Proofs
end
section
namespace Go.Lens.Un
theorem nd_len {β:Type} [DecidableEq β]:∀ {l r:List β},l.Nodup->(∀ x∈l,x∈r)->l.length<=r.length
 | [],_,_,_=>zt _
 | x::l,r,hn,h=>by
  rw[JD] at hn
  have hx:=h x ao
  have:=nd_len (l:=l) (r:=r.erase x) hn.2 fun y hy=>(List.mem_erase_of_ne (by rintro rfl;exact hn.1 hy)).2 (h y (by simp[hy]))
  grind
def visL {α:Type} (o:List α) (n:Array Nat):List α:=n.toList.filterMap fun i=>o[i]?
structure VI {α:Type} (o:List α) (n:Array Nat):Prop where
 nd:n.toList.Nodup
 lt:∀ i∈n.toList,i<o.length
theorem VI.nil {α:Type} (o:List α):VI o #[]:=⟨J5,fun _ h=>by cases h⟩
theorem visL_nil {α:Type} (o:List α):visL o #[]=[]:=rfl
section
variable {α:Type} {o:List α} {n:Array Nat} {i:Nat} {x:α}
theorem VI.push (h:VI o n) (hi:o[i]? =some x) (hn:i∉n):VI o (n.push i):=by
 refine⟨?_,fun j hj=>?_⟩
 ·rw[XO,List.nodup_append]
  refine⟨h.nd,by simp,fun a ha b hb=>?_⟩
  grind
 rw[XO] at hj
 rcases zH.1 hj with e|e
 ·exact h.lt j e
 grind
theorem kF (hi:o[i]? =some x):visL o (n.push i)=visL o n++[x]:=by
 unfold visL
 grind
theorem VI.size (h:VI o n):n.size<=o.length:=by
 have:=nd_len h.nd (r:=List.range o.length) fun j hj=>J4.2 (h.lt j hj)
 simpa using this
theorem VI.size_push (h:VI o n) (hi:o[i]? =some x) (hn:i∉n):n.size<o.length:=by
 have:=(h.push hi hn).size
 grind
theorem VI.meas (h:VI o n) (hi:o[i]? =some x) (hn:i∉n):o.length-(n.push i).size<o.length-n.size:=by
 have:=h.size_push hi hn
 rw[Array.size_push];omega
theorem vis_range (o:List α):(List.range o.length).filterMap (fun i=>o[i]?)=o:=by
 induction o with
 | nil=>rfl
 | cons a l ih=>
  rw[zb,List.range_succ_eq_map,List.filterMap_cons]
  simp only[QQ,List.filterMap_map]
  have:((fun i=>(a::l)[i]?) ∘ Nat.succ)=fun i=>l[i]? :=by funext i;simp
  rw[this,ih]
theorem VI.all (h:VI o n) (ha:∀ i,i<o.length->i∈n):(visL o n).Perm o:=by
 have hp:n.toList.Perm (List.range o.length):=by
  rw[Qx h.nd List.nodup_range]
  intro j
  rw[J4]
  exact⟨h.lt j,fun hj=>by simpa using ha j hj⟩
 have:=hp.filterMap (fun i=>o[i]?)
 rw[vis_range] at this
 exact this
theorem vis_len (o:List α) (n:Array Nat):(visL o n).length<=n.size:=by
 have:=List.length_filterMap_le (fun i=>o[i]?) n.toList
 rw[qf] at this
 exact this
theorem vis_mem (h:x∈visL o n):x∈o:=by grind [visL]
end
theorem szP_app (A B:PL):szP (A++B)+1=szP A+szP B:=by
 induction A with
 | nil=>show szP B+1=1+szP B;omega
 | cons p l ih=>obtain⟨a,c⟩:=p;show sz c+1+szP (l++B)+1=sz c+1+szP l+szP B;omega
theorem szP_le {A:PL} {N S:Nat} (hN:A.length<=N) (hS:∀ p∈A,sz p.2<=S):szP A<=N*(S+1)+1:=by
 induction A generalizing N with
 | nil=>show 1<=_;omega
 | cons p l ih=>
  obtain⟨a,c⟩:=p
  cases N with
  | zero=>simp at hN
  | succ N=>
   have h1:=ih (N:=N) (by simpa using hN) fun p hp=>hS p cE
   have h2:=hS (a,c) ao
   show sz c+1+szP l<=_
   grind
theorem szP_mem {A:PL} {p:KI×Rat} (h:p∈A):sz p.2<=szP A:=by
 induction A with
 | nil=>cases h
 | cons q l ih=>
  obtain⟨a,c⟩:=q
  rcases zF.1 h with e|e
  ·subst e;show sz c<=sz c+1+szP l;omega
  have:=ih e;show _<=sz c+1+szP l;omega
def scl (b:Rat) (R:PL):PL:=R.map fun p=>(p.1,p.2*b)
theorem cf_scl (b:Rat) (R:PL) (k:KI):cf (scl b R) k=cf R k*b:=by
 induction R with
 | nil=>simp[scl,cf_nil,K1]
 | cons p l ih=>
  obtain⟨a,c⟩:=p
  show cf ((a,c*b)::scl b l) k=_
  rw[jI,jI,ih]
  split<;>grind
theorem scl_keys (b:Rat) (R:PL):(scl b R).map (·.1)=R.map (·.1):=by simp[scl]
theorem Eqv.scl {R R':PL} (b:Rat) (h:Eqv R R'):Eqv (scl b R) (scl b R'):=fun k=>by rw[cf_scl,cf_scl,h k]
def kadd (a b:KI):KI:=(a.1+b.1,a.2+b.2)
def rowP (a:KI×Rat) (B:PL):PL:=B.map fun b=>(kadd a.1 b.1,a.2*b.2)
def qS (A B:PL):PL:=A.flatMap fun a=>rowP a B
theorem cf_row (a:KI×Rat) (B:PL) (k:KI):cf (rowP a B) k=a.2*lin (fun b=>if kadd a.1 b=k then 1 else 0) B:=by
 induction B with
 | nil=>simp[rowP,cf_nil,lin,KX]
 | cons b l ih=>
  obtain⟨b,d⟩:=b
  show cf ((kadd a.1 b,a.2*d)::rowP a l) k=_
  rw[jI,ih]
  simp only[lin]
  split<;>grind
theorem cf_prods (A B:PL) (k:KI):cf (qS A B) k=lin (fun a=>lin (fun b=>if kadd a b=k then 1 else 0) B) A:=by
 induction A with
 | nil=>rfl
 | cons a l ih=>
  obtain⟨a,c⟩:=a
  show cf (rowP (a,c) B++qS l B) k=_
  rw[cf_app,cf_row,ih]
  rfl
theorem Eqv.qS {A A' B B':PL} (h:Eqv A A') (g:Eqv B B'):Eqv (qS A B) (qS A' B'):=fun k=>by
 rw[cf_prods,cf_prods,h.lin]
 congr 1
 funext a
 exact g.lin _
theorem prods_keys {A B:PL} {k:KI}:k∈(qS A B).map (·.1)↔∃ a∈A.map (·.1),∃ b∈B.map (·.1),k=kadd a b:=by grind [qS,rowP]
theorem Qa (A B:PL):(qS A B).length=A.length*B.length:=by
 induction A with
 | nil=>simp[qS]
 | cons a l ih=>
  show (rowP a B++qS l B).length=_
  rw[za,ih,zb,KR]
  simp[rowP];omega
theorem KP.keysP {P:PL} {m:List (KI×Qn)} (h:KP P m):∀ k∈(plM m).map (·.1),k∈P.map (·.1):=by
 intro k hk
 exact h.mem k (by simpa [plM,Kz,XQ] using hk)
theorem KP.len {P:PL} {m:List (KI×Qn)} (h:KP P m):m.length<=P.length:=by
 have:=nd_len h.nd h.mem
 simpa using this
def kax (ax:Int) (k:KI):Int:=if ax=0 then k.1 else k.2
def kdec (ax:Int) (k:KI):KI:=if ax=0 then (k.1-1,k.2) else (k.1,k.2-1)
def derT (ax:Int) (p:KI×Rat):PL:=if 0<kax ax p.1 then [(kdec ax p.1,p.2*(kax ax p.1:Int))] else []
def jO (ax:Int) (A:PL):PL:=A.flatMap (derT ax)
theorem cf_der (ax:Int) (A:PL) (k:KI):cf (jO ax A) k=lin (fun a=>if 0<kax ax a/\kdec ax a=k then (kax ax a:Rat) else 0) A:=by
 induction A with
 | nil=>rfl
 | cons p l ih=>
  obtain⟨a,c⟩:=p
  show cf (derT ax (a,c)++jO ax l) k=_
  rw[cf_app,ih]
  simp only[lin]
  unfold derT
  by_cases h:0<kax ax a
  ·simp only[h,ql,WF,jI,cf_nil]
   split<;>grind
  simp only[h,qm,false_and,cf_nil]
  grind
theorem Eqv.der {A A':PL} (ax:Int) (h:Eqv A A'):Eqv (jO ax A) (jO ax A'):=fun k=>by rw[cf_der,cf_der,h.lin]
def turT (p:KI×Rat):KI×Rat:=((p.1.2,p.1.1),if p.1.2%2=1 then -p.2 else p.2)
def turP (A:PL):PL:=A.map turT
theorem cf_tur (A:PL) (k:KI):cf (turP A) k=lin (fun a=>if (a.2,a.1)=k then (if a.2%2=1 then -1 else 1) else 0) A:=by
 induction A with
 | nil=>rfl
 | cons p l ih=>
  obtain⟨a,c⟩:=p
  show cf (turT (a,c)::turP l) k=_
  unfold turT
  rw[jI,ih]
  simp only[lin]
  grind
theorem Eqv.tur {A A':PL} (h:Eqv A A'):Eqv (turP A) (turP A'):=fun k=>by rw[cf_tur,cf_tur,h.lin]
end Go.Lens.Un
end
section
namespace Go.Lens.Tb
open Go.Proofs Go.Lens.Un
variable [Lz] [Dn]
attribute [local irreducible] TK PK T RG EfR Body CG
theorem w178 (m:List (KI×Qn)) (x y:Nat) (hxy:x≠y):qA prog 137 [.mref x] (qr [(x,kO eP m)]) (.mref y) [(y,kO eP m)]:=by
 refine⟨fun k hk=>?_,fun G w vs M hv=>.inl ?_⟩
 ·simp[DV.qL,DV.refs] at hk;subst hk;exact⟨kO eP m,by simp[qy]⟩
 obtain⟨v,rfl,hv1⟩:=hv.one
 simp only[qt] at hv1
 obtain⟨_,rfl⟩:=hv1
 obtain⟨k1,es,e1,e2,e3,e4,e5,e6⟩:=kO_at (M.ms x _ (show qr [(x,kO eP m)] x=some (kO eP m) by simp[qy]))
 refine⟨Tryz.call137 _ _,Calls.mono (AnyW.maps_Clone Tryz.lays178 (G.ρ x).map es.toArray es.length w e2) ?_⟩
 rintro e w' ⟨rfl,rfl⟩
 have hln:qr [(x,kO eP m)] y=none:=by simp[qy,hxy];rfl
 refine⟨_,rfl,_,j2 (B:={ map:=w.heap.size }) M.fresh hln ?_ ?_ ak am⟩
 ·simp[qt,Gh.new]
 exact at_kO cw cw cz e3 e4 (qw.mono (later_new y _ _).rd _ _ e5)
def PlI (P:PL) (o:List (KI×Qn)) (b:Qn) (n:Array Nat) (q:List (KI×Qn)):Prop:=VI o n/\KP (P++scl b.q (plM (visL o n))) q
section
variable {P R:PL} {m o q:List (KI×Qn)} {b:Qn} {n:Array Nat} {i:Nat} {k:KI} {v:Qn}
theorem plM_app (a b:List (KI×Qn)):plM (a++b)=plM a++plM b:=z8
theorem scl_app (b:Rat) (A B:PL):scl b (A++B)=scl b A++scl b B:=z8
theorem pl_0 (hm:KP P m):PlI P o b #[] m:=⟨VI.nil _,by rw[visL_nil];simpa [plM,scl] using hm⟩
theorem pl_s (hI:PlI P o b n q) (hk:o[i]? =some (k,v)) (hi:i∉n):PlI P o b (n.push i) (addK k (Qn.mul v b) q):=by
 refine⟨hI.1.push hk hi,?_⟩
 rw[kF hk,plM_app,scl_app,<-zZ]
 have:=hI.2.add k (Qn.mul v b)
 rw[Qn.mul_q] at this
 exact this
theorem pl_m (hm:KP P m) (ho:KP R o) (hz:szP P+(R.length+1)*(szP R+sz (Qn.q b)+2)<=10000000) (hk:o[i]? =some (k,v)):sz (Qn.q v)+sz (Qn.q b)<=20000000:=by
 have h1:=ho.sz (Xe hk)
 grind
theorem pl_a (hm:KP P m) (ho:KP R o) (hz:szP P+(R.length+1)*(szP R+sz (Qn.q b)+2)<=10000000) (hI:PlI P o b n q) (hk:o[i]? =some (k,v)):∀ x,kN k q=some x->sz (Qn.q x)+sz (Qn.q (Qn.mul v b))<=20000000:=by
 intro x hx
 have h1:=ho.sz (Xe hk)
 have h2:=hI.2.szg hx
 have h3:=szP_app P (scl b.q (plM (visL o n)))
 have h4:szP (scl b.q (plM (visL o n)))<=R.length*(szP R+sz b.q+1)+1:=by
  refine szP_le ?_ fun p hp=>?_
  ·have:=vis_len o n
   have:=hI.1.size
   have:=ho.len
   simp[scl,plM];omega
  simp only[scl,plM,Kz,zE] at hp
  obtain⟨x,hx,rfl⟩:=hp
  have:=ho.sz (k:=x.1) (x:=x.2) (vis_mem hx)
  have h5:=jv x.2.q b.q
  grind
 have h5:=jv v.q b.q
 rw[Qn.mul_q]
 grind
theorem plM_perm {a b:List (KI×Qn)} (h:a.Perm b):(plM a).Perm (plM b):=h.map _
theorem pl_end (hm:KP P m) (ho:KP R o) (hI:PlI P o b n q) (ha:∀ i,i<o.length->i∈n):KP (P++scl b.q R) q:=by
 have hp:=plM_perm (hI.1.all ha)
 refine hI.2.congr (Eqv.rfl.app (Eqv.scl _ ((Eqv.perm hp).trans ho.eqv))) fun k hk=>?_
 simp only[z8,zH,scl_keys] at hk ⊢
 exact hk.imp id fun h=>ho.keysP k ((hp.map (·.1)).mem_iff.1 h)
def KB (P:PL):Prop:=∀ k∈P.map (·.1),0<=k.1/\0<=k.2/\k.1+k.2<=400
theorem ti_b (hm:KP P m) (hP:KB P) (hk:m[i]? =some (k,v)):0<=k.1/\0<=k.2/\k.1+k.2<=400:=hP k (hm.mem k (zE.2 ⟨_,Xe hk,rfl⟩))
def TiI (m o:List (KI×Qn)) (n:Array Nat) (q:List (KI×Qn)):Prop:=VI m n/\KP (qS (plM (visL m n)) (plM o)) q
def TjI (m o:List (KI×Qn)) (n:Array Nat) (a:KI×Qn) (n2:Array Nat) (q:List (KI×Qn)):Prop:=VI o n2/\KP (qS (plM (visL m n)) (plM o)++rowP (a.1,a.2.q) (plM (visL o n2))) q
variable {n2:Array Nat} {q2:List (KI×Qn)} {j:Nat} {k2:KI} {v2:Qn}
theorem ti_0:TiI m o #[] []:=⟨VI.nil _,by rw[visL_nil];exact KP.nil⟩
theorem tj_0 {a:KI×Qn} (h:TiI m o n q):TjI m o n a #[] q:=⟨VI.nil _,by rw[visL_nil];simpa [plM,rowP] using h.2⟩
theorem rowP_app (a:KI×Rat) (A B:PL):rowP a (A++B)=rowP a A++rowP a B:=z8
theorem tj_s {a:KI×Qn} (hI:TjI m o n a n2 q2) (hk:o[j]? =some (k2,v2)) (hi:j∉n2):TjI m o n a (n2.push j) (addK (a.1.1+k2.1,a.1.2+k2.2) (Qn.mul a.2 v2) q2):=by
 refine⟨hI.1.push hk hi,?_⟩
 rw[kF hk,plM_app,rowP_app,<-zZ]
 have:=hI.2.add (a.1.1+k2.1,a.1.2+k2.2) (Qn.mul a.2 v2)
 rw[Qn.mul_q] at this
 exact this
theorem prods_app (A B C:PL):qS (A++B) C=qS A C++qS B C:=List.flatMap_append
theorem ti_s (hI:TiI m o n q) (hJ:TjI m o n (k,v) n2 q2) (hk:m[i]? =some (k,v)) (hi:i∉n) (ha:∀ i,i<o.length->i∈n2):TiI m o (n.push i) q2:=by
 refine⟨hI.1.push hk hi,?_⟩
 have hp:=plM_perm (hJ.1.all ha)
 rw[kF hk,plM_app,prods_app]
 have e:qS (plM [(k,v)]) (plM o)=rowP (k,v.q) (plM o):=by simp[qS,plM]
 rw[e]
 have hr:(rowP (k,v.q) (plM (visL o n2))).Perm (rowP (k,v.q) (plM o)):=hp.map _
 exact hJ.2.congr (Eqv.rfl.app (Eqv.perm hr)) fun k hk=>by
  grind
theorem ti_end (hm:KP P m) (ho:KP R o) (hI:TiI m o n q) (ha:∀ i,i<m.length->i∈n):KP (qS P R) q:=by
 have hp:=plM_perm (hI.1.all ha)
 refine hI.2.congr (Eqv.qS ((Eqv.perm hp).trans hm.eqv) ho.eqv) fun k hk=>?_
 rw[prods_keys] at hk ⊢
 obtain⟨a,h1,b,h2,rfl⟩:=hk
 exact⟨a,hm.keysP a ((hp.map (·.1)).mem_iff.1 h1),b,ho.keysP b h2,rfl⟩
theorem ti_m (hm:KP P m) (ho:KP R o) (hz:(P.length*R.length+2)*(szP P+szP R+2)<=10000000) (hk:m[i]? =some (k,v)) (hk2:o[j]? =some (k2,v2)):sz (Qn.q v)+sz (Qn.q v2)<=20000000:=by
 have h1:=hm.sz (Xe hk)
 have h2:=ho.sz (Xe hk2)
 grind
theorem ti_a (hm:KP P m) (ho:KP R o) (hz:(P.length*R.length+2)*(szP P+szP R+2)<=10000000) (hI:TiI m o n q) (hJ:TjI m o n (k,v) n2 q2) (hk:m[i]? =some (k,v)) (hi:i∉n) (hk2:o[j]? =some (k2,v2)) {k3:KI} :
  ∀ x,kN k3 q2=some x->sz (Qn.q x)+sz (Qn.q (Qn.mul v v2))<=20000000:=by
 intro x hx
 have h1:=hm.sz (Xe hk)
 have h2:=ho.sz (Xe hk2)
 have h3:sz x.q<=szP (qS (plM (visL m n)) (plM o)++rowP (k,v.q) (plM (visL o n2))):=hJ.2.szg hx
 have h4:szP (qS (plM (visL m n)) (plM o)++rowP (k,v.q) (plM (visL o n2)))<=(P.length*R.length)*(szP P+szP R+1)+1:=by
  refine szP_le ?_ fun p hp=>?_
  ·rw[za,Qa]
   have a1:=vis_len m n
   have a2:=hI.1.size_push hk hi
   have a3:=hm.len
   have b1:=vis_len o n2
   have b2:=hJ.1.size
   have b3:=ho.len
   have e1:(plM (visL m n)).length=(visL m n).length:=by simp[plM]
   have e2:(plM o).length=o.length:=by simp[plM]
   have e3:(rowP (k,v.q) (plM (visL o n2))).length=(visL o n2).length:=by simp[plM,rowP]
   rw[e1,e2,e3]
   calc (visL m n).length*o.length+(visL o n2).length<=(visL m n).length*R.length+R.length:=J9 (Xw _ b3) aa
    _=((visL m n).length+1)*R.length:=by rw[KR]
    _<=P.length*R.length:=Xh _ aa
  rcases zH.1 hp with hp|hp
  ·simp only[qS,rowP,Jf,zE] at hp
   obtain⟨a,ha,b,hb,rfl⟩:=hp
   simp only[plM,zE] at ha hb
   obtain⟨a,ha,rfl⟩:=ha
   obtain⟨b,hb,rfl⟩:=hb
   have c1:=hm.sz (k:=a.1) (x:=a.2) (vis_mem ha)
   have c2:=ho.sz (k:=b.1) (x:=b.2) hb
   have:=jv a.2.q b.2.q
   simp only;omega
  simp only[rowP,plM,Kz,zE] at hp
  obtain⟨b,hb,rfl⟩:=hp
  have c2:=ho.sz (k:=b.1) (x:=b.2) (vis_mem hb)
  have:=jv v.q b.2.q
  grind
 have h5:=jv v.q v2.q
 rw[Qn.mul_q]
 grind
end
theorem w102' (m o:List (KI×Qn)) (P R:PL) (b:Qn) (hm:KP P m) (ho:KP R o) (hz:szP P+(R.length+1)*(szP R+sz (Qn.q b)+2)<=10000000):qA prog 76 [.mref 1,.mref 2,qV b] (qr [(1,(kO eP m)),(2,(kO eP o))]) (.mref 15) [(2,(kO eP o)),(1,(kO eP m)),(15,kR (P++scl (Qn.q b) R))]:=by
 refine cL 3 [(1,(kO eP m)),(2,(kO eP o))] qf76 Z (nB Z) Z Z (kc (E Z (B.jx (w178 m 1 15 ah) Z Z ⟨rfl,trivial⟩ rfl rfl) (E Z (B.rangeK kty Z Z Z Z) (l2 (fun (n:Array Nat) (q:List (KI×Qn))=>[(0,.mref 1),(1,.mref 2),(5,.bref 8 0),(7,.mref 15),(8,.clos (.func 58) [.mref 15] []),(16,.bref 19 0)]) (fun n q=>[(1,(kO eP m)),(2,(kO eP o)),(8,.box 99 (gF b)),(15,(kO eP q)),(19,.miter 2 (o.length) n)]) (fun n q=>PlI P o b n q) (fun n _=>o.length-Array.size n) (#[]) m Z ?_ (sb Z Z Z) ?_))))
 · exact pl_0 hm
 intro n q hI0
 refine tk 4 Z ?_
 refine TK.nextK (Y:=tab) Z Z Z Z Z (fun i1 k1 v1 hk1 hi1=>?_) (fun hall1=>?_)
 ·refine rc (CT Z Z (E Z (B.entryK Z Z Z hk1) (E Z (B.bZ Z Z) (C Z (w126 v1 b (pl_m hm ho hz hk1)) Z Z Z (E Z (B.jx (w119 q k1 (Qn.mul v1 b) 15 (pl_a hm ho hz hI0 hk1)) Z Z ⟨rfl,trivial⟩ rfl rfl) (Dr Z ae (pk Z (L2 (Array.push n i1) (addK k1 (Qn.mul v1 b) q) ?_ ?_ (sb Z Z Z)))))))))
  · exact pl_s hI0 hk1 hi1
  · exact hI0.1.meas hk1 hi1
 refine rc (CF Z Z ?_)
 refine tk 7 Z ?_
 refine TK.shutK (h:=15) (R':=fun kv=>∃ m,KP (P++scl (Qn.q b) R) m/\kv=kvO eP m) Z (fun kv e=>⟨_,pl_end hm ho hI0 hall1,e⟩) ?_
 exact kc (Rt Z (lL Z Z))
theorem w102 (m o:List (KI×Qn)) (P R:PL) (b:Qn) (x y z:Nat) (hxy:x≠y) (hxz:x≠z) (hyz:y≠z) (hm:KP P m) (ho:KP R o) (hz:szP P+(R.length+1)*(szP R+sz (Qn.q b)+2)<=10000000):qA prog 76 [.mref x,.mref y,.pv (eP b)] (qr [(x,kO eP m),(y,kO eP o)]) (.mref z) [(y,kO eP o),(x,kO eP m),(z,kR (P++scl (Qn.q b) R))]:=by
 have key:=w102' m o P R b hm ho hz
 simpa [renM,DV.renL,DV.ren,MO.ren,r3_1 (show 1≠2 by decide) (show 1≠15 by decide) hxy hxz,r3_2 (show 2≠15 by decide) hyz,r3_3] using key.r3 1 2 15 x y z
theorem w101' (m o:List (KI×Qn)) (P R:PL) (hm:KP P m) (ho:KP R o) (hP:KB P) (hR:KB R) (hz:(P.length*R.length+2)*(szP P+szP R+2)<=10000000):qA prog 70 [.mref 1,.mref 2] (qr [(1,(kO eP m)),(2,(kO eP o))]) (.mref 14) [(2,(kO eP o)),(1,(kO eP m)),(14,kR (qS P R))]:=by
 refine cL 3 [(1,(kO eP m)),(2,(kO eP o))] qf70 Z (nB Z) Z Z (kc (E Z (B.newK (enc:=eP) Z Z) (E Z (B.rangeK kty Z Z Z Z) (l2 (fun (n:Array Nat) (q:List (KI×Qn))=>[(0,.mref 1),(1,.mref 2),(5,.mref 14),(6,.clos (.func 58) [.mref 14] []),(15,.bref 18 0)]) (fun n q=>[(1,(kO eP m)),(2,(kO eP o)),(14,(kO eP q)),(18,.miter 1 (m.length) n)]) (fun n q=>TiI m o n q) (fun n _=>m.length-Array.size n) (#[]) [] Z ?_ (sb Z Z Z) ?_))))
 · exact ti_0
 intro n q hI0
 refine tk 4 Z ?_
 refine TK.nextK (Y:=tab) Z Z Z Z Z (fun i1 k1 v1 hk1 hi1=>?_) (fun hall1=>?_)
 ·refine rc (CT Z Z (E Z (B.entryK Z Z Z hk1) (E Z (B.bZ Z Z) (E Z (B.rangeK kty Z Z Z Z) (l2 (fun (n2:Array Nat) (q2:List (KI×Qn))=>[(0,.mref 1),(1,.mref 2),(5,.mref 14),(6,.clos (.func 58) [.mref 14] []),(7,.bref 10 0),(8,.bref 11 0),(15,.bref 18 0),(22,.bref 25 0)]) (fun n2 q2=>[(1,(kO eP m)),(2,(kO eP o)),(10,.box 112 [vI (fst k1),vI (snd k1)]),(11,.box 99 (gF v1)),(14,(kO eP q2)),(18,.miter 1 (m.length) (Array.push n i1)),(25,.miter 2 (o.length) n2)]) (fun n2 q2=>TjI m o n (k1,v1) n2 q2) (fun n2 _=>o.length-Array.size n2) (#[]) q Z ?_ (sb Z Z Z) ?_)))))
  · exact tj_0 hI0
  intro n2 q2 hI1
  refine tk 7 Z ?_
  refine TK.nextK (Y:=tab) Z Z Z Z Z (fun i2 k2 v2 hk2 hi2=>?_) (fun hall2=>?_)
  ·refine rc (CT Z Z (E Z (B.entryK Z Z Z hk2) (E Z (B.bZ Z Z) (E Z (B.run Z) (E Z (B.run Z) (E Z (B.add Z Z cF) (E Z (B.run Z) (E Z (B.run Z) (E Z (B.add Z Z cF) (E Z (B.run (val:=.pv (.agg [pI ((fst k1)+(fst k2)),pI ((snd k1)+(snd k2))])) (m:=[]) (rd:=[]) ae) (C Z (w126 v1 v2 (ti_m hm ho hz hk1 hk2)) Z Z Z (E Z (B.jx (w119 q2 (((fst k1)+(fst k2)),((snd k1)+(snd k2))) (Qn.mul v1 v2) 14 (ti_a hm ho hz hI0 hI1 hk1 hi1 hk2)) Z Z ⟨rfl,trivial⟩ rfl rfl) (Dr Z ae (pk Z (L2 (Array.push n2 i2) (addK (((fst k1)+(fst k2)),((snd k1)+(snd k2))) (Qn.mul v1 v2) q2) ?_ ?_ (sb Z Z Z))))))))))))))))
   · exact tj_s hI1 hk2 hi2
   · exact hI1.1.meas hk2 hi2
  refine rc (CF Z Z (pk Z (L2 (Array.push n i1) q2 ?_ ?_ (sb Z Z Z))))
  · exact ti_s hI0 hI1 hk1 hi1 hall2
  · exact hI0.1.meas hk1 hi1
 refine rc (CF Z Z ?_)
 refine tk 10 Z ?_
 refine TK.shutK (h:=14) (R':=fun kv=>∃ m,KP (qS P R) m/\kv=kvO eP m) Z (fun kv e=>⟨_,ti_end hm ho hI0 hall1,e⟩) ?_
 exact kc (Rt Z (lL Z Z))
theorem w101 (m o:List (KI×Qn)) (P R:PL) (x y z:Nat) (hxy:x≠y) (hxz:x≠z) (hyz:y≠z) (hm:KP P m) (ho:KP R o) (hP:KB P) (hR:KB R) (hz:(P.length*R.length+2)*(szP P+szP R+2)<=10000000):qA prog 70 [.mref x,.mref y] (qr [(x,kO eP m),(y,kO eP o)]) (.mref z) [(y,kO eP o),(x,kO eP m),(z,kR (qS P R))]:=by
 have key:=w101' m o P R hm ho hP hR hz
 simpa [renM,DV.renL,DV.ren,MO.ren,r3_1 (show 1≠2 by decide) (show 1≠14 by decide) hxy hxz,r3_2 (show 2≠14 by decide) hyz,r3_3] using key.r3 1 2 14 x y z
noncomputable def rf270:Array Tmp×Code×Code:=(rfOf (fn225.body.getD .skip)).getD (#[],.skip,.skip)
noncomputable def ps270:Array Tmp:=rf270.1
noncomputable def as270:Code:=rf270.2.1
noncomputable def bo270:Code:=rf270.2.2
abbrev rZ (st:LoopState) (pe:Bool):MO:=.lrec st pe
abbrev dsZ:List DV:=[.dead,.dead,.bref 23 0,.dead,.dead,.dead,.dead,.dead,.dead,.dead,.dead,.dead,.dead]
def KeysOf (m:List (KI×Qn)) (es:List (List PV)):Prop:=∃ ks:List KI,ks.Perm (m.map (·.1))/\es=ks.map eK
def KyI (m:List (KI×Qn)) (n:Array Nat) (d:List KI):Prop:=VI m n/\d=(visL m n).map (·.1)
section
variable {m:List (KI×Qn)} {n:Array Nat} {d:List KI} {i:Nat} {k:KI} {v:Qn}
theorem ky_0:KyI m #[] []:=⟨VI.nil _,rfl⟩
theorem ky_s (h:KyI m n d) (hk:m[i]? =some (k,v)) (hi:i∉n):KyI m (n.push i) (d++[k]):=⟨h.1.push hk hi,by rw[kF hk,z8,<-h.2];rfl⟩
theorem ky_l (h:KyI m n d):d.length<=m.length:=by
 have h1:=vis_len m n
 have h2:=h.1.size
 rw[h.2,zI];omega
theorem ky_e (h:KyI m n d) (ha:∀ i,i<m.length->i∈n):d.Perm (m.map (·.1))/\d.length=m.length:=by
 have hp:=h.1.all ha
 exact⟨by rw[h.2];exact hp.map _,by rw[h.2,zI,hp.length_eq]⟩
end
theorem by112:ty112.info.bytes=16:=ae
theorem sz179:szT tab 179=some 1:=ae
theorem asgZ [Fc] (v:Nat) (l:List KI) (k:KI):TK prog 13 2001 (fun e' s'=>e'=.normal/\Wk 2001 s' ⟨[(2,.bref 23 0),(5,.bref 2006 0)],[(23,.box 179 [.aref 901 v]),(901,.arr v 2 112 (List.map eK l)),(950,(rZ .ready false)),(2006,.box 112 [vI (fst k),vI (snd k)])]⟩) as270 [] ⟨[(2,.bref 23 0),(7,.pv (.agg [pI (fst k),pI (snd k)]))],[(23,.box 179 [.aref 901 v]),(901,.arr v 2 112 (List.map eK l)),(950,(rZ .ready false))]⟩:=by
 exact kc (Rn Z ⟨rfl,Sub.wk (sb Z Z Z)⟩)
theorem bodZ [Fc] (v:Nat) (l:List KI) (k:KI) (hl:l.length<=1000000):TK prog 13 2001 (fun e' s'=>e'=.normal/\Wk 2001 s' ⟨[],(950,rZ .busy false)::[(23,.box 179 [.aref 901 (v+1)]),(901,.arr (v+1) 2 112 (List.map eK (l++[k])))]⟩) bo270 [] ⟨[(2,.bref 23 0),(5,.bref 2006 0)],[(23,.box 179 [.aref 901 v]),(901,.arr v 2 112 (List.map eK l)),(950,(rZ .busy false)),(2006,.box 112 [vI (fst k),vI (snd k)])]⟩:=by
 exact kc (E Z (B.runZ (val:=.pv (.slice (List.map eK [k]))) (m0:=[(2011,.arr 0 2 112 [[pI (fst k),pI (snd k)]])]) (rd:=[]) ae (fun l=>Frz.arr l _ _ _ _ _) Z) (E Z (B.append Z Z Z un179 in112 Z (fun _=>rfl) by112 (by simp only[z6];omega)) (E Z (B.storeR Z Z Z Z sz179 Z Z) (Rn Z ⟨rfl,Sub.wk (sb Z Z Z)⟩))))
theorem ylZ (v:Nat) (l:List KI) (k:KI) (hl:l.length<=1000000):YldOk prog 950 ps270 as270 bo270 dsZ [.pv (kkP k)] (qr ((950,rZ .ready false)::[(23,.box 179 [.aref 901 v]),(901,.arr v 2 112 (List.map eK l))])) (lit (.bool true)) ((950,rZ .ready false)::[(23,.box 179 [.aref 901 (v+1)]),(901,.arr (v+1) 2 112 (List.map eK (l++[k])))]):=
 YldOk.of (n:=13) (nb:=2001) (tm1:=[(2,.bref 23 0),(5,.bref 2006 0)]) (l1:=[(23,.box 179 [.aref 901 v]),(901,.arr v 2 112 (List.map eK l)),(950,(rZ .ready false)),(2006,.box 112 [vI (fst k),vI (snd k)])]) (ps:=ps270) (assign:=as270) (body:=bo270) true Z Z ah (allLt Z) Z rfl
  (fun r=>letI ic:Fc:=⟨some r⟩;TK.start (TK.norm ⟨[(2,.bref 23 0),(7,.pv (.agg [pI (fst k),pI (snd k)]))],[(23,.box 179 [.aref 901 v]),(901,.arr v 2 112 (List.map eK l)),(950,(rZ .ready false))]⟩ (sb Z Z Z) (asgZ v l k))) rfl
  (fun r=>letI ic:Fc:=⟨some r⟩;TK.start (TK.norm ⟨[(2,.bref 23 0),(5,.bref 2006 0)],[(23,.box 179 [.aref 901 v]),(901,.arr v 2 112 (List.map eK l)),(950,(rZ .busy false)),(2006,.box 112 [vI (fst k),vI (snd k)])]⟩ (sb Z Z Z) (bodZ v l k hl))) (allNe Z) (ndM_ok Z) Z rfl
theorem w271 (m:List (KI×Qn)) (hn:m.length<=1000000):qA prog 226 [.yld 950 ps270 as270 bo270 dsZ,.bref 20 0] (qr ((950,rZ .ready false)::[(1,(kO eP m)),(20,.box 101 [.mref 1]),(23,.box 179 [.aref 901 0]),(901,.arr 0 2 112 (List.map eK []))])) (.tup []) (List.reverse ((950,rZ .ready false)::[(1,(kO eP m)),(20,.box 101 [.mref 1]),(23,.box 179 [.aref 901 (m.length)]),(901,.arrK (m.length) 2 112 (KeysOf m))])):=by
 refine cL 1001 ((950,rZ .ready false)::[(1,(kO eP m)),(20,.box 101 [.mref 1]),(23,.box 179 [.aref 901 0]),(901,.arr 0 2 112 (List.map eK []))]) qf226 Z (nB Z) Z Z (kc (E Z (B.rangeK kty Z Z Z Z) (l3 (fun (n:Array Nat) (d:List KI) (c:Nat)=>[(0,.yld 950 ps270 as270 bo270 dsZ),(1,.bref 20 0),(5,.bref 1006 0)]) (fun n d c=>[(1,(kO eP m)),(20,.box 101 [.mref 1]),(23,.box 179 [.aref 901 c]),(901,.arr c 2 112 (List.map eK d)),(950,(rZ .ready false)),(1006,.miter 1 (m.length) n)]) (fun n d c=>KyI m n d/\c=d.length) (fun n _ _=>m.length-Array.size n) (#[]) [] 0 Z ?_ (sb Z Z Z) ?_)))
 · exact⟨ky_0,rfl⟩
 intro n d c hI0
 have hdl:d.length<=List.length m:=ky_l hI0.1
 refine tk 1 Z ?_
 refine TK.nextK (Y:=tab) Z Z Z Z Z (fun i1 k1 v1 hk1 hi1=>?_) (fun hall1=>?_)
 ·refine rc (CT Z Z (E Z (B.entryK Z Z Z hk1) (E Z (B.yieldS (ylZ c d k1 aa) Z Z ⟨rfl,rfl,rfl,trivial⟩ rfl rfl) (Cb Z Z (fun h1=>?_) (fun h1=>?_)))))
  ·exact absurd h1 ah
  refine pk Z (L3 (Array.push n i1) (d++[k1]) (c+1) ?_ ?_ (sb Z Z Z))
  · (exact⟨ky_s hI0.1 hk1 hi1,by rw[hI0.2,za];rfl⟩)
  · exact hI0.1.1.meas hk1 hi1
 refine rc (CF Z Z ?_)
 obtain⟨hke1,hke2⟩:=ky_e hI0.1 hall1
 rw[show c=List.length m by rw[hI0.2,hke2]]
 refine ck ?_
 refine TK.shutA (h:=901) (R:=KeysOf m) Z ⟨d,hke1,rfl⟩ ?_
 refine kc ?_
 refine Rn Z ?_
 exact ZG (val0:=.tup []) (out0:=[(901,(.arrK (m.length) 2 112 (KeysOf m))),(23,.box 179 [.aref 901 (m.length)]),(20,.box 101 [.mref 1]),(1,(kO eP m)),(950,(rZ .ready false))]) (.inl Z) ae Z rfl
end Go.Lens.Tb
end
section
namespace Go.Lens.Tb
open Go.Proofs Go.Lens.Un
variable [Lz] [Dn]
def rowK (n:Nat):List KI:=(List.range (n+1)).map fun i=>(((n-i:Nat):Int),(i:Int))
def keys32:List KI:=(List.range 33).flatMap rowK
def jd (P:PL):List KI:=keys32.filter fun k=>decide (cf P k≠0)
theorem mem_rowK {n:Nat} {k:KI}:k∈rowK n↔0<=k.1/\0<=k.2/\k.1+k.2=n:=by
 obtain⟨a,b⟩:=k
 simp only[rowK,zE,J4,zx]
 constructor
 ·rintro⟨i,hi,rfl,rfl⟩;omega
 rintro⟨h1,h2,h3⟩;exact⟨b.toNat,aa,aa,aa⟩
theorem mem_keys32 {k:KI}:k∈keys32↔0<=k.1/\0<=k.2/\k.1+k.2<=32:=by
 simp only[keys32,Jf,J4,mem_rowK]
 constructor
 ·rintro⟨n,hn,h1,h2,h3⟩;omega
 rintro⟨h1,h2,h3⟩;exact⟨(k.1+k.2).toNat,aa,h1,h2,aa⟩
theorem keys32_pw:keys32.Pairwise (fun a b=>ordI a b<0):=by
 unfold keys32
 rw[List.pairwise_flatMap]
 refine⟨fun n _=>?_,?_⟩
 ·unfold rowK
  rw[XY]
  refine List.pairwise_lt_range.imp_of_mem ?_
  intro i j hi hj hij
  rw[J4] at hi hj
  rw[ordI_lt];simp only;omega
 refine List.pairwise_lt_range.imp ?_
 intro i j hij x hx y hy
 rw[mem_rowK] at hx hy
 rw[ordI_lt];omega
theorem ordP_pw {P:PL}:(jd P).Pairwise (fun a b=>ordI a b<0):=keys32_pw.filter _
theorem pw_nd {l:List KI} (h:l.Pairwise (fun a b=>ordI a b<0)):l.Nodup:=h.imp fun {a b} hab e=>by
 subst e;rw[ordI_lt] at hab;omega
theorem kJ {P:PL} {k:KI}:k∈jd P↔(0<=k.1/\0<=k.2/\k.1+k.2<=32)/\cf P k≠0:=by
 unfold jd;rw[JC,mem_keys32];simp
section
variable {P:PL} {m:List (KI×Qn)} {ks:List KI} {k:KI} {x:Qn}
theorem zq_iff:zq x=true↔x.q=0:=by
 unfold zq
 rw[zf,sgn_0,JT]
theorem or_m (h:ks.Perm (m.map (·.1))):∀ k∈ks,k∈m.map (·.1):=fun k hk=>h.mem_iff.1 hk
theorem or_l (h:ks.Perm (m.map (·.1))) (hn:m.length<=1000000):ks.length<=1000000:=by rw[h.length_eq,zI];exact hn
theorem or_c (m:List (KI×Qn)) (ks:List KI):(∀ k∈ks,pK m k=false)\/∃ q:Nat,idxK (pK m) ks 0=q/\q<ks.length:=by
 rcases ik_find (l:=ks) (p:=pK m) 0 with e|⟨q,h1,h2,_⟩
 ·exact .inl e
 exact .inr ⟨q,by rw[<-show (((0:Nat)+q:Nat):Int)=q by omega,<-h2];rfl,h1⟩
theorem pk_cf (hm:KP P m) (hk:k∈m.map (·.1)):pK m k=false↔cf P k≠0:=by
 obtain⟨x,hx⟩:=get_mem hk
 have:=hm.q k
 unfold cfM at this
 rw[hx] at this
 simp only at this
 unfold pK
 rw[hx,<-this]
 simp only
 cases e:zq x
 ·simp only[true_iff]
  intro q;rw[zq_iff.2 q] at e;cases e
 simp only[Bool.true_eq_false,false_iff];exact fun h=>h (zq_iff.1 e)
theorem or_p (hm:KP P m) (h32:∀ k∈m.map (·.1),0<=k.1/\0<=k.2/\k.1+k.2<=32) (hks:ks.Perm (m.map (·.1))):(jd P).Perm (kpK m ks):=by
 have hnd:(kpK m ks).Nodup:=(hks.nodup_iff.2 hm.nd).filter _
 rw[Qx (pw_nd ordP_pw) hnd]
 intro k
 unfold kpK
 rw[kJ,JC,hks.mem_iff]
 constructor
 ·rintro⟨_,h2⟩
  have hk:k∈m.map (·.1):=by
   have:=hm.q k
   unfold cfM at this
   cases hg:kN k m with
   | none=>rw[hg] at this;exact absurd this.symm h2
   | some x=>exact zE.2 ⟨_,ZO hg,rfl⟩
  exact⟨hk,by rw[(pk_cf hm hk).2 h2];rfl⟩
 rintro⟨hk,h2⟩
 exact⟨h32 k hk,(pk_cf hm hk).1 (by simpa using h2)⟩
theorem or_ks (h32:∀ k∈m.map (·.1),0<=k.1/\0<=k.2/\k.1+k.2<=32) (hks:ks.Perm (m.map (·.1))):∀ k∈ks,KS k:=fun k hk=>by
 have:=h32 k (hks.mem_iff.1 hk)
 unfold KS;omega
theorem kp_all (hno:∀ k∈ks,pK m k=false):kpK m ks=ks:=by
 unfold kpK
 rw[Xm]
 intro k hk;rw[hno k hk];rfl
theorem or_a (hm:KP P m) (h32:∀ k∈m.map (·.1),0<=k.1/\0<=k.2/\k.1+k.2<=32) (hks:ks.Perm (m.map (·.1))) (hl:ks.length<=1000000) (hno:∀ k∈ks,pK m k=false) :
  ks.length<=ks.length/\ks.length<4611686018427387904/\(∀ k∈ks.take ks.length,KS k)/\(jd P).Perm (ks.take ks.length):=by
 rw[Jg]
 exact⟨zB _,aa,or_ks h32 hks,by have:=or_p hm h32 hks;rwa [kp_all hno] at this⟩
theorem kp_le:(kpK m ks).length<=ks.length:=Q7 _ _
theorem or_b (hm:KP P m) (h32:∀ k∈m.map (·.1),0<=k.1/\0<=k.2/\k.1+k.2<=32) (hks:ks.Perm (m.map (·.1))) (hl:ks.length<=1000000) :
  (kpK m ks).length<=(kpK m ks++replicate (ks.length-(kpK m ks).length) ((0,0):KI)).length/\(kpK m ks++replicate (ks.length-(kpK m ks).length) ((0,0):KI)).length<4611686018427387904/\
  (∀ k∈(kpK m ks++replicate (ks.length-(kpK m ks).length) ((0,0):KI)).take (kpK m ks).length,KS k)/\(jd P).Perm ((kpK m ks++replicate (ks.length-(kpK m ks).length) ((0,0):KI)).take (kpK m ks).length):=by
 have h:=kp_le (m:=m) (ks:=ks)
 rw[JE,za,qa]
 ·exact⟨aa,aa,fun k hk=>or_ks h32 hks k (JC.1 hk).1,or_p hm h32 hks⟩
 rfl
theorem or_v1:jd P++drop ks.length ks=jd P:=by rw[Ja,zR]
theorem or_v2 {l:List KI} (h:(jd P).Perm (kpK m ks)):take (kpK m ks).length (jd P++l)=jd P:=by rw[<-h.length_eq,JE];rfl
end
theorem TK.frzT [Fc] {P:Program} {n nb:Nat} {Q:Exit->St->Prop} {K:List Fr} {c:Code} {s:St} {α:Type} {enc:α->List PV} {l:List α} {t h v k sz:Nat} {T0:TypeId} (ht:jJ s.tm t=.atrunc h v k) (hm:qr s.ms h=some (.arr v sz T0 (l.map enc)))
 (H:TK P n nb Q c K ⟨(t,.pv (.slice ((l.take k).map enc)))::s.tm,(h,.farr v (l.map enc))::s.ms⟩):TK P n nb Q c K s:=
 T.weak (wk_frz ht ao aR (by simp[pvOf,qy,Ki])) H
end Go.Lens.Tb
end
section
namespace Go.Lens.Tb
open Go.Proofs Go.Lens.Un
variable [Lz] [Dn]
attribute [local irreducible] TK PK T RG EfR Body CG
theorem w235 (l L:List KI) (n v:Nat) (d:DV) (hn:n<=l.length) (h62:l.length<4611686018427387904) (hd:d=.atrunc 901 v n\/(d=.aref 901 v/\n=l.length)) (hk:∀ k∈l.take n,KS k) (hp:L.Perm (l.take n)) (hs:L.Pairwise (fun a b=>ordI a b<0)) :
  qA prog 187 [d,.pv (.fn (.func 79) [] [])] (qr [(901,.arr v 2 112 (l.map eK))]) (.tup []) [(901,.arr v 2 112 ((L++l.drop n).map eK))]:=by
 refine⟨fun h hh=>?_,fun G w vs M hv=>?_⟩
 ·rcases hd with rfl|⟨rfl,_⟩<;>(simp[DV.qL,DV.refs] at hh;subst hh;exact⟨.arr v 2 112 (l.map eK),by simp[qy]⟩)
 by_cases ha0:(G.ρ 901).addr≠none
 ·exact w235c l L n v d hn h62 hd hk hp hs M hv ha0
 have ha:=zi.1 ha0
 have hl0:l=[]:=by
  obtain⟨k1,k2,k3,k4,k5,k6,hA⟩:=M.ms 901 _ (show qr [(901,MO.arr v 2 112 (l.map eK))] 901=some (.arr v 2 112 (l.map eK)) by simp[qy])
  rcases hA with ⟨_,hc⟩|⟨b,c,e1,_⟩
  ·rw[hc,zI] at k5;exact zK aa
  rw[ha] at e1;cases e1
 subst hl0
 have hn0:n=0:=by simpa using hn
 subst hn0
 have hL:L=[]:=by simpa using hp
 subst hL
 have hl1:qr [(901,MO.arr v 2 112 ([].map eK))] 901=some (.arr v 2 112 ([].map eK)):=by simp[qy]
 obtain⟨k1,k2,k3,k4,k5,k6,hA⟩:=M.ms 901 _ hl1
 rcases hA with ⟨_,hc⟩|hA
 ·obtain⟨v1,v2,e,q1,q2⟩:=hv.two
  have hv1:v1=.slice none 0 0:=by
   rcases hd with rfl|⟨rfl,_⟩
   ·simp only[qt] at q1;rw[(q1.2 k2).2,ha,hc]
   simp only[qt] at q1;rw[q1.2 k2,ha,hc,k4];rfl
  have H:qA prog 187 [.nils,.pv (.fn (.func 79) [] [])] (qr [(901,MO.arr v 2 112 ([].map eK))]) (.tup []) []:=w235'.frame (fun h o e=>by cases e) (fun k o h e=>by cases e) (fun h hh=>by cases hh)
  refine (H.call G w vs M (by rw[e,hv1];simp only[qz,qt];exact⟨_,_,rfl,rfl,_,_,rfl,by simpa only[qt] using q2,rfl⟩)).mono ?_
  rintro r w' ⟨G',S⟩
  have M1:=M.out S
  have hu:upd [] (qr [(901,MO.arr v 2 112 ([].map eK))])=qr [(901,MO.arr v 2 112 ([].map eK))]:=by funext h;rfl
  rw[hu] at M1
  have S2:=q8 (m:=.arr v 2 112 ([].map eK)) (val:=.tup []) (r:=r) M1.ctx (B:=G'.ρ 901) (h:=901) hl1 aU (w':=w') Z Z Z Z (fun _ _=>rfl) (by rw[Gh.qT];exact S.hval) (by rw[Gh.qT];exact M1.ms 901 _ hl1) bc am
  rw[Gh.qT] at S2
  have S3:=S.trans M (by rw[hu];exact S2)
  exact⟨G',by simpa [mrg] using S3⟩
 obtain⟨b,c,e1,_⟩:=hA;rw[ha] at e1;cases e1
theorem w270 (m:List (KI×Qn)) (hn:m.length<=1000000):qA prog 225 [.nils,.clos (.func 226) [] [.bref 20 0]] (qr [(1,(kO eP m)),(20,.box 101 [.mref 1])]) (.aref 901 (m.length)) [(20,.box 101 [.mref 1]),(1,(kO eP m)),(901,.arrK (m.length) 2 112 (KeysOf m))]:=by
 refine cL 21 [(1,(kO eP m)),(20,.box 101 [.mref 1])] qf225 Z (nB Z) Z Z (kc (E Z (B.run Z) (E Z (B.nilS (enc:=eK) Z) ?_)))
 refine tk 1 Z ?_
 refine TK.adoptC 23 0 901 2 112 Z Z Z Z ?_
 refine TK.norm ⟨[(1,.clos (.func 226) [] [.bref 20 0]),(2,.bref 23 0),(4,vL eK [])],[(1,(kO eP m)),(20,.box 101 [.mref 1]),(23,.box 179 [.aref 901 0]),(901,.arr 0 2 112 (List.map eK []))]⟩ (sb Z Z Z) ?_
 refine kc ?_
 refine tk 9999 Z ?_
 refine TK.norm ⟨[(1,.clos (.func 226) [] [.bref 20 0]),(2,.bref 23 0),(4,vL eK []),(6,.clos (.func 226) [] [.bref 20 0])],[(1,(kO eP m)),(20,.box 101 [.mref 1]),(23,.box 179 [.aref 901 0]),(901,.arr 0 2 112 (List.map eK []))]⟩ (sb Z Z Z) ?_
 refine TK.range (hl:=950) (st:=.ready) false (fun a w=>Tryz.call226 a w) Z Z Z (fun i _=>agD0 (tm:=[(1,.clos (.func 226) [] [.bref 20 0]),(2,.bref 23 0),(4,vL eK []),(6,.clos (.func 226) [] [.bref 20 0])]) (ds:=dsZ) ⟨rfl,trivial⟩ i) ((w271 m hn).rev) ah (allNe Z) ?_
 exact pc (Rt Z (lL Z Z))
theorem w231 (m:List (KI×Qn)) (hn:m.length<=1000000):qA prog 183 [.clos (.func 226) [] [.bref 20 0]] (qr [(1,(kO eP m)),(20,.box 101 [.mref 1])]) (.aref 901 (m.length)) [(20,.box 101 [.mref 1]),(1,(kO eP m)),(901,.arrK (m.length) 2 112 (KeysOf m))]:=by
 exact cL 21 [(1,(kO eP m)),(20,.box 101 [.mref 1])] qf183 Z (nB Z) Z Z (kc (E Z (B.nilS (enc:=eK) Z) (E Z (B.jx (w270 m hn) Z Z ⟨rfl,rfl,trivial⟩ rfl rfl) (Rt Z (lL Z Z)))))
theorem w232 (m:List (KI×Qn)):qA prog 184 [.mref 1] (qr [(1,(kO eP m))]) (.clos (.func 226) [] [.bref 20 0]) [(1,(kO eP m)),(20,.box 101 [.mref 1])]:=by
 exact cL 19 [(1,(kO eP m))] qf184 Z (nB Z) Z Z (kc (Rt Z (lL Z Z)))
theorem w180' (m:List (KI×Qn)) (P:PL) (hm:KP P m) (h32:∀ k∈m.map (·.1),0<=k.1/\0<=k.2/\k.1+k.2<=32) (hn:m.length<=1000000) (hz:∀ k x,kN k m=some x->sz (Qn.q x)<=20000000):qA prog 118 [.mref 1] (qr [(1,(kO eP m))]) (vL eK (jd P)) [(1,(kO eP m))]:=by
 refine cL 10 [(1,(kO eP m))] qf118 Z (nB Z) Z Z (kc (E Z (B.nilS (enc:=eK) Z) (E Z (B.jx (w232 m) Z Z ⟨rfl,trivial⟩ rfl rfl) (E Z (B.jx (w231 m hn) Z Z ⟨rfl,rfl,trivial⟩ rfl rfl) ?_))))
 refine tk 2 Z ?_
 refine tn ⟨[(0,.mref 1),(1,.bref 11 0),(3,.aref 901 (m.length))],[(1,(kO eP m)),(11,.box 101 [.mref 1]),(901,(.arrK (m.length) 2 112 (KeysOf m)))]⟩ rfl rfl Z ?_
 refine TK.openA (h:=901) Z (fun es hes=>?_)
 obtain⟨ks,hks,rfl⟩:=hes
 have hkm:=or_m hks
 have hkl:=or_l hks hn
 rcases or_c m ks with hno|⟨q,hq,hql⟩
 ·refine kc (E Z (B.jx (w233a m ks (m.length) hkl hkm hz hno) Z Z ⟨rfl,rfl,rfl,trivial⟩ rfl rfl) (E Z (B.jx (w235 ks (jd P) (ks.length) (m.length) _ (or_a hm h32 hks hkl hno).1 (or_a hm h32 hks hkl hno).2.1 (.inr ⟨rfl,rfl⟩) (or_a hm h32 hks hkl hno).2.2.1 (or_a hm h32 hks hkl hno).2.2.2 ordP_pw) Z Z ⟨rfl,trivial⟩ rfl rfl) ?_))
  refine tk 4 Z ?_
  refine TK.frz (t:=3) Z Z ?_
  exact kc (Rt Z (lL Z cH))
 refine kc (E Z (B.jx (w233b m ks (m.length) q hkl hkm hz hq hql) Z Z ⟨rfl,rfl,rfl,trivial⟩ rfl rfl) (E Z (B.jx (w235 (kpK m ks++replicate (ks.length-(kpK m ks).length) (0,0)) (jd P) ((kpK m ks).length) (m.length) _ (or_b hm h32 hks hkl).1 (or_b hm h32 hks hkl).2.1 (.inl Z) (or_b hm h32 hks hkl).2.2.1 (or_b hm h32 hks hkl).2.2.2 ordP_pw) Z Z ⟨rfl,trivial⟩ rfl rfl) ?_))
 refine tk 4 Z ?_
 refine TK.frzT (t:=3) Z Z ?_
 exact kc (Rt Z (lL Z cH))
theorem w180 (m:List (KI×Qn)) (P:PL) (a:Nat) (hm:KP P m) (h32:∀ k∈m.map (·.1),0<=k.1/\0<=k.2/\k.1+k.2<=32) (hn:m.length<=1000000) (hz:∀ k x,kN k m=some x->sz (Qn.q x)<=20000000):qA prog 118 [.mref a] (qr [(a,(kO eP m))]) (vL eK (jd P)) [(a,(kO eP m))]:=by
 simpa [renM,DV.renL,DV.ren,MO.ren,r1_1] using (w180' m P hm h32 hn hz).r1 1 a
def Zj (t:Trm):KI:=(t.i,t.j)
abbrev cE0 (t:Trm):Int:=qK [jr t.c,j5 (decide (t.c=[48])) 6,ja t.i 0 16,ja t.j 0 16]
def cE1 (t:Trm):Int:=if cE0 t=0 then ja (t.i+t.j) 0 16 else cE0 t
def chkA (f:List Trm) (k:Nat):Int:=if cE1 (f.getD k trZ)=0/\0<(k:Int)/\0<=ordI ((f.getD (k-1) trZ).i,(f.getD (k-1) trZ).j) ((f.getD k trZ).i,(f.getD k trZ).j) then 11 else cE1 (f.getD k trZ)
def qZ (f:List Trm):Int:=qK ((List.range f.length).map (chkA f))
def ji (f g:List Trm):Int:=qK [qZ f,qZ g]
theorem wi_0 {n a b:Int}:ja n a b=0↔a<=n/\n<=b:=by
 unfold ja j5 outF
 grind
theorem wh_0 {b:Bool} {e:Int} (he:e≠0):j5 b e=0↔b=false:=by cases b<;>simp[j5,he]
theorem ff_0 {a:Int} {l:List Int}:qK (a::l)=0↔a=0/\qK l=0:=by rw[qK];split<;>simp_all
theorem cE0_0 {t:Trm}:cE0 t=0↔jr t.c=0/\t.c≠[48]/\(0<=t.i/\t.i<=16)/\(0<=t.j/\t.j<=16):=by
 unfold cE0
 grind [ff_0,wh_0,wi_0,decide_eq_false_iff_not,qK]
theorem cE1_0 {t:Trm}:cE1 t=0↔jr t.c=0/\t.c≠[48]/\0<=t.i/\0<=t.j/\t.i+t.j<=16:=by
 unfold cE1
 by_cases h:cE0 t=0
 ·rw[WK h,wi_0]
  have:=cE0_0.1 h
  grind
 rw[WJ h]
 constructor
 ·intro g;exact absurd g h
 intro g
 exact absurd (cE0_0.2 ⟨g.1,g.2.1,⟨g.2.2.1,aa⟩,g.2.2.2.1,aa⟩) h
section
variable {f g:List Trm} {k:Nat} {t:Trm} {p q r:Prop} [Decidable p] [Decidable q] [Decidable r]
theorem cg_1 (h:(bif decide p then decide q else false)=true):p:=by by_cases hp:p<;>simp_all
theorem cg_2 (h:(bif decide p then decide q else false)=true):q:=by by_cases hp:p<;>simp_all
theorem cg_4 (h:(bif decide p then decide q else false)=false):¬(p/\q):=by grind
theorem ca_0 (h:chkA f k=0):cE1 (f.getD k trZ)=0/\(0<k->ordI (Zj (f.getD (k-1) trZ)) (Zj (f.getD k trZ))<0):=by
 unfold chkA at h
 split at h
 ·cases h
 rename_i hn
 refine⟨h,fun hk=>?_⟩
 by_cases ho:ordI (Zj (f.getD (k-1) trZ)) (Zj (f.getD k trZ))<0
 ·exact ho
 exact absurd ⟨h,aa,by unfold Zj at ho;omega⟩ hn
theorem ks_e (h:cE1 t=0):KS (t.i,t.j):=by
 have:=cE1_0.1 h
 unfold KS;simp only;omega
theorem ca_kp (h:∀ j,j<k->chkA f j=0) (hk:0<(k:Int)):KS ((f.getD (k-1) trZ).i,(f.getD (k-1) trZ).j):=ks_e (ca_0 (h (k-1) aa)).1
theorem ca_kc (h0:cE0 t=0) (h1:ja (t.i+t.j) 0 16=0):KS (t.i,t.j):=ks_e (by unfold cE1;rw[WK h0];exact h1)
theorem ca_bd (h0:cE0 t=0):0<=t.i/\t.i<=16/\0<=t.j/\t.j<=16:=by have:=cE0_0.1 h0;omega
theorem ca_1 (h0:cE0 (f.getD k trZ)=0) (hb:(bif decide (ja ((f.getD k trZ).i+(f.getD k trZ).j) 0 16=0) then decide (0<(k:Int)) else false)=true) (ho:0<=ordI ((f.getD (k-1) trZ).i,(f.getD (k-1) trZ).j) ((f.getD k trZ).i,(f.getD k trZ).j)):11=chkA f k:=by
 unfold chkA cE1
 grind
theorem ca_2v (h0:cE0 (f.getD k trZ)=0) (hb:(bif decide (ja ((f.getD k trZ).i+(f.getD k trZ).j) 0 16=0) then decide (0<(k:Int)) else false)=true) (ho:¬0<=ordI ((f.getD (k-1) trZ).i,(f.getD (k-1) trZ).j) ((f.getD k trZ).i,(f.getD k trZ).j)):ja ((f.getD k trZ).i+(f.getD k trZ).j) 0 16=chkA f k:=by
 unfold chkA cE1
 omega
theorem ca_2w (h0:cE0 (f.getD k trZ)=0) (hb:(bif decide (ja ((f.getD k trZ).i+(f.getD k trZ).j) 0 16=0) then decide (0<(k:Int)) else false)=false):ja ((f.getD k trZ).i+(f.getD k trZ).j) 0 16=chkA f k:=by
 unfold chkA cE1
 grind
theorem ca_2 (h0:cE0 (f.getD k trZ)=0) (hb:(bif decide (ja ((f.getD k trZ).i+(f.getD k trZ).j) 0 16=0) then decide (0<(k:Int)) else false)=true) (ho:¬0<=ordI ((f.getD (k-1) trZ).i,(f.getD (k-1) trZ).j) ((f.getD k trZ).i,(f.getD k trZ).j)) (h:ja ((f.getD k trZ).i+(f.getD k trZ).j) 0 16=0):chkA f k=0:=by rw[<-ca_2v h0 hb ho,h]
theorem ca_2f (h0:cE0 (f.getD k trZ)=0) (hb:(bif decide (ja ((f.getD k trZ).i+(f.getD k trZ).j) 0 16=0) then decide (0<(k:Int)) else false)=false) (h:ja ((f.getD k trZ).i+(f.getD k trZ).j) 0 16=0):chkA f k=0:=by rw[<-ca_2w h0 hb,h]
theorem ca_3 {a:Int} (h0:¬a=0) (hb:(bif decide (a=0) then decide q else false)=true):False:=h0 (cg_1 hb)
theorem ca_4 (h0:¬cE0 (f.getD k trZ)=0):cE0 (f.getD k trZ)=chkA f k:=by
 unfold chkA cE1
 omega
theorem ca_nx (h:∀ j,j<k->chkA f j=0) (hk:chkA f k=0):∀ j,j<k+1->chkA f j=0:=fun j hj=>by
 grind
theorem ff_pre {α:Type} {F:α->Int}:∀ {l m:List α},(∀ a∈l,F a=0)->qK ((l++m).map F)=qK (m.map F)
 | [],_,_=>rfl
 | a::l,m,h=>by
  rw[zQ,zy,qK,WK (h a ao)]
  exact ff_pre fun b hb=>h b (by simp[hb])
theorem po_at (h:∀ j,j<k->chkA f j=0) (hk:k<=f.length):qZ f=qK ((List.range' k (f.length-k)).map (chkA f)):=by
 unfold qZ
 have:List.range f.length=List.range k++List.range' k (f.length-k):=by
  have e:= @List.range'_append_1 0 k (f.length-k)
  rw[KT,show k+(f.length-k)=f.length by omega] at e
  rw[List.range_eq_range',List.range_eq_range',e]
 rw[this,ff_pre fun a ha=>h a (J4.1 ha)]
theorem cr {v:Int} (h:∀ j,j<k->chkA f j=0) (hk:k<f.length) (e:v=chkA f k) (hv:v≠0):v=qZ f:=by rw[po_at h aa,show f.length-k=(f.length-k-1)+1 by omega,List.range'_succ,zy,qK,WJ (by rw[<-e];exact hv),e]
theorem ce (h:∀ j,j<k->chkA f j=0) (hk:f.length<=k):0=qZ f:=by
 unfold qZ
 have:=ff_pre (F:=chkA f) (l:=List.range f.length) (m:=[]) fun a ha=>h a (by have:=J4.1 ha;omega)
 rw[zR] at this
 rw[this];rfl
theorem po_0 (h:qZ f=0):∀ k,k<f.length->chkA f k=0:=by
 have key:∀ l:List Nat,qK (l.map (chkA f))=0->∀ k∈l,chkA f k=0:=by
  intro l
  induction l with
  | nil=>intro _ k hk;cases hk
  | cons a l ih=>
   grind [ff_0]
 exact fun k hk=>key _ h k (J4.2 hk)
theorem po_t (h:qZ f=0) (ht:t∈f):jr t.c=0/\t.c≠[48]/\0<=t.i/\0<=t.j/\t.i+t.j<=16:=by
 obtain⟨k,hk,rfl⟩:=Xq ht
 have:=(ca_0 (po_0 h k hk)).1
 rw[ze,zm hk] at this
 exact cE1_0.1 this
theorem ord_tr {a b c:KI} (h:ordI a b<0) (g:ordI b c<0):ordI a c<0:=by rw[ordI_lt] at *;omega
theorem po_pw (h:qZ f=0):(f.map Zj).Pairwise (fun a b=>ordI a b<0):=by
 rw[XY,QG]
 intro i j hi hj hij
 have key:∀ d i,i+d+1<f.length->ordI (Zj (f.getD i trZ)) (Zj (f.getD (i+d+1) trZ))<0:=by
  intro d
  induction d with
  | zero=>intro i hi;have:=(ca_0 (po_0 h (i+1) hi)).2 aa;rwa [XF] at this
  | succ d ih=>
   intro i hi
   have h1:=ih i aa
   have h2:=(ca_0 (po_0 h (i+(d+1)+1) hi)).2 aa
   rw[XF] at h2
   exact ord_tr h1 h2
 have:=key (j-i-1) i aa
 rw[show i+(j-i-1)+1=j by omega,ze,zm hi,ze,zm hj] at this
 exact this
def plF (f:List Trm):PL:=f.map fun t=>(Zj t,(qU t.c).q)
theorem sum_map (hn:(f.map Zj).Nodup):sumM f=f.map fun t=>(Zj t,qU t.c):=by
 have key:∀ (l:List Trm) (m:List (KI×Qn)),((m.map (·.1))++l.map Zj).Nodup->l.foldl (fun m t=>Qc (t.i,t.j) (qU t.c) m) m=m++l.map fun t=>(Zj t,qU t.c):=by
  intro l
  induction l with
  | nil=>intro m _;simp
  | cons t l ih=>
   intro m h
   have hno:Zj t∉m.map (·.1):=by grind
   have hset:∀ m:List (KI×Qn),Zj t∉m.map (·.1)->Qc (Zj t) (qU t.c) m=m++[(Zj t,qU t.c)]:=by
    intro m
    induction m with
    | nil=>intro _;rfl
    | cons a m ihm=>
     intro h
     obtain⟨a,x⟩:=a
     simp only[zy,zF,not_or] at h
     simp only[Qc,WJ h.1,ihm h.2,zQ]
   rw[JA]
   show l.foldl _ (Qc (Zj t) (qU t.c) m)=_
   grind
 exact key f [] (by simpa using hn)
theorem kp_sum (h:qZ f=0):KP (plF f) (sumM f):=by
 have hn:=pw_nd (po_pw h)
 rw[sum_map hn]
 refine⟨by simpa [Kz,XQ] using hn,fun k=>?_,fun k hk=>by simpa [plF,Kz,XQ] using hk⟩
 rw[<-cf_plM (by simpa [Kz,XQ] using hn)]
 simp[plM,plF,Kz,XQ]
theorem kb_f (h:qZ f=0):∀ k∈(plF f).map (·.1),0<=k.1/\0<=k.2/\k.1+k.2<=16:=by
 intro k hk
 simp only[plF,Kz,zE,XQ] at hk
 obtain⟨t,ht,rfl⟩:=hk
 have:=po_t h ht
 exact this.2.2
def degF (f:List Trm):Int:=if f=[] then 0 else (f.getD (f.length-1) trZ).i+(f.getD (f.length-1) trZ).j
theorem de_ks (hv:∀ t∈f,KS (Zj t)) (h:¬(f.length:Int)=0):KS (Zj (f.getD (f.length-1) trZ)):=hv _ (ki aa)
theorem dg_1 (h:(f.length:Int)=0):0=degF f:=by
 have:f=[]:=zK aa
 unfold degF;rw[WK this]
theorem dg_2 (h:(f.length:Int)=0):false=!(decide (f=[])):=by
 have:f=[]:=zK aa
 rw[this];rfl
theorem dg_3 (h:¬(f.length:Int)=0):(f.getD (f.length-1) trZ).i+(f.getD (f.length-1) trZ).j=degF f:=by grind [degF]
theorem dg_4 (h:¬(f.length:Int)=0):true=!(decide (f=[])):=by grind
def Qn.ofI (n:Int):Qn:=if h: -9223372036854775808<=n/\n<=9223372036854775807 then Qn.ofZ n bg else frZ
theorem ofI_q {n:Int} (h:R64 n):(Qn.ofI n).q=(n:Rat):=by unfold Qn.ofI;rw[WI (by unfold R64 at h;omega),Qn.ofZ_q]
theorem w100i (n:Int) (h: -1000000<=n/\n<=1000000):CKa 69 [vI n] (qV (Qn.ofI n)):=by
 unfold Qn.ofI
 rw[WI aa]
 exact w100 _ _
end
def dblF:Nat->Int->Qn->Qn
 | 0,_,r=>r
 | n+1,k,r=>if 1<k then dblF n (k-2) (Qn.mul r (Qn.ofI k)) else r
def Qb (k:Int):Qn:=dblF 40 k (Qn.ofZ 1 bg)
def DbI (k j:Int) (r:Qn):Prop:= -1<=j/\(j<=64/\j<=k)/\(∃ n,Qb k=dblF n j r/\j<2*(n:Int)+1/\sz r.q<=1+(40-n)*7/\n<=40)
theorem ofI_sz {j:Int} (h: -1<=j/\j<=64):sz (Qn.ofI j).q<=7:=by
 rw[ofI_q bg]
 refine qd (sz_int j) ?_
 have:q9 j.natAbs<=7:=jj aa
 omega
theorem db_0 {k:Int} (hk: -1<=k/\k<=64):DbI k k (Qn.ofZ 1 bg):=by
 refine⟨hk.1,⟨hk.2,K3 _⟩,40,rfl,aa,?_,zB _⟩
 rw[Qn.ofZ_q]
 exact qd (sz_int 1) ah
theorem db_s {k j:Int} {r:Qn} (h:DbI k j r) (_: -1<=k/\k<=64):sz r.q+sz (Qn.ofI j).q<=20000000:=by
 obtain⟨h1,⟨h2,_⟩,n,_,_,h3,_⟩:=h
 have:=ofI_sz ⟨h1,h2⟩
 omega
theorem db_n {k j:Int} {r:Qn} (h:DbI k j r) (hj:1<j):DbI k (j-2) (Qn.mul r (Qn.ofI j)):=by
 obtain⟨h1,⟨h2,h5⟩,n,h6,h7,h3,h4⟩:=h
 have hs:=ofI_sz ⟨h1,h2⟩
 cases n with
 | zero=>omega
 | succ n=>
  refine⟨aa,⟨aa,aa⟩,n,?_,aa,?_,aa⟩
  ·rw[h6,dblF,WK hj]
  rw[Qn.mul_q]
  have:=jv r.q (Qn.ofI j).q
  omega
theorem db_e {k j:Int} {r:Qn} (h:DbI k j r) (hj:¬1<j):r=Qb k:=by
 obtain⟨_,_,n,h6,_⟩:=h
 rw[h6]
 cases n with
 | zero=>rfl
 | succ n=>rw[dblF,WJ hj]
theorem w81 (f:List Trm) (hl:f.length<=1000000) (hs:∀ t∈f,(Trm.c t).length<=1000000000):CKa 25 [vL eY f] (vI (qZ f)):=by
 refine cG qf25 Z (nB Z) Z (E Z (B.ju Z un32) (l1 (fun (k:Nat)=>[(0,vL eY f),(6,vL eY f),(7,vI (f.length:Int)),(8,vI (k:Int))]) (fun _=>[]) (fun k=>k<=f.length/\∀ j,j<k->chkA f j=0) (fun k=>f.length-k) 0 Z ?_ (sb Z Z Z) ?_))
 · exact⟨zt _,fun j hj=>aa⟩
 intro k hI0
 refine Cp Z Z (fun h1=>?_) (fun h1=>?_)
 ·refine E Z (B.idx (z:=trZ) Z Z un32 sz74 (fun _=>rfl) Z aa) (C Z (w112 (Trm.c (f.getD k trZ)) (hs _ (ki aa))) Z Z Z (E Z (B.seqB Z Z) (C Z (w99 (decide ((Trm.c (f.getD k trZ))=[48])) 6) Z Z Z (C Z (w97 (Trm.i (f.getD k trZ)) 0 16) Z Z Z (C Z (w97 (Trm.j (f.getD k trZ)) 0 16) Z Z Z (E Z (B.zA (es:=List.map eI [(jr (Trm.c (f.getD k trZ))),(j5 (decide ((Trm.c (f.getD k trZ))=[48])) 6),(ja (Trm.i (f.getD k trZ)) 0 16),(ja (Trm.j (f.getD k trZ)) 0 16)]) Z) (C Z (w98 [(jr (Trm.c (f.getD k trZ))),(j5 (decide ((Trm.c (f.getD k trZ))=[48])) 6),(ja (Trm.i (f.getD k trZ)) 0 16),(ja (Trm.j (f.getD k trZ)) 0 16)] (nB Z)) Z Z Z (Dr Z ae (Cp Z Z (fun h2=>?_) (fun h2=>?_))))))))))
  ·refine E Z (B.add Z Z cI) (C Z (w97 ((Trm.i (f.getD k trZ))+(Trm.j (f.getD k trZ))) 0 16) Z Z Z ?_)
   refine Em Z Z Z Z ?_
   refine Eg Z Z (fun hc=>B.gtr (qu Z hc) Z) Z (E Z (B.pA Z Z Z Z Z) ?_)
   refine ek Z ?_
   cases h3:(bif (decide ((ja ((Trm.i (f.getD k trZ))+(Trm.j (f.getD k trZ))) 0 16)=0)) then (decide (0<(k:Int))) else false)
   ·refine Ef' Z Z (Ef' Z Z (Ef' Z Z (Ef' Z Z (Ef' Z Z (Ef' Z Z (Ef' Z Z (Ef' Z Z (Ef' Z Z (Ef' Z Z (Ef' Z Z (Ef' Z Z (Ef' Z Z (Ef' Z Z ?_)))))))))))))
    refine Ef' Z Z (Ef' Z Z (Ef' Z Z (Ef' Z Z (Ef' Z Z (Ef' Z Z (E Z (B.pkF Z Z Z Z Z) (Dr Z ae (CF Z Z (Cp Z Z (fun h4=>?_) (fun h4=>?_))))))))))
    ·exact Rt Z (lF Z (li cJ))
    refine E Z (B.add Z Z cI) (pk Z (L1 (k+1) ?_ ?_ (sb Z Z Z)))
    · exact⟨aa,ca_nx hI0.2 cK⟩
    · omega
   refine Et Z Z (B.move Z) (Et Z Z (B.move Z) (Et Z Z (B.sub Z Z cI) (Et Z Z (B.idx (z:=trZ) (i:=(k-1)) Z Z un32 sz74 (fun _=>rfl) cM aa) (Et Z Z (B.fadP Z fa74_1 Z) (Et Z Z (B.loadP Z ag3 sz3) (Et Z Z (B.move Z) (Et Z Z (B.move Z) (Et Z Z (B.sub Z Z cI) (Et Z Z (B.idx (z:=trZ) (i:=(k-1)) Z Z un32 sz74 (fun _=>rfl) cM aa) (Et Z Z (B.fadP Z fa74_2 Z) (Et Z Z (B.loadP Z ag3 sz3) (Et Z Z (B.run Z) (Et Z Z (B.fadB Z fa74_1 Z) ?_)))))))))))))
   refine Et Z Z (B.loadB Z Z Z ag3 sz3 Z) (Et Z Z (B.fadB Z fa74_2 Z) (Et Z Z (B.loadB Z Z Z ag3 sz3 Z) (Et Z Z (B.run Z) (Et Z Z (B.call (w170 ((Trm.i (f.getD (k-1) trZ)),(Trm.j (f.getD (k-1) trZ))) ((Trm.i (f.getD k trZ)),(Trm.j (f.getD k trZ))) (ca_kp hI0.2 (cg_2 h3)) (by first|exact ca_kc ab (cg_1 h3)|exact absurd (cg_1 h3) ab)) Z Z Z) (Et Z Z (B.geq Z Z) (E Z (B.pkT Z Z Z Z Z) (Dr Z ae (Cp Z Z (fun h5=>?_) (fun h5=>?_)))))))))
   ·exact CT Z Z (Rt Z (lF Z (li cJ)))
   refine Cp Z Z (fun h6=>?_) (fun h6=>?_)
   ·grind
   refine E Z (B.add Z Z cI) (pk Z (L1 (k+1) ?_ ?_ (sb Z Z Z)))
   · exact⟨aa,ca_nx hI0.2 cK⟩
   · omega
  refine Em Z Z Z Z ?_
  refine Eg Z Z (fun hc=>B.gtr (qu Z hc) Z) Z (E Z (B.pA Z Z Z Z Z) ?_)
  refine ek Z ?_
  cases h7:(bif (decide ((qK [(jr (Trm.c (f.getD k trZ))),(j5 (decide ((Trm.c (f.getD k trZ))=[48])) 6),(ja (Trm.i (f.getD k trZ)) 0 16),(ja (Trm.j (f.getD k trZ)) 0 16)])=0)) then (decide (0<(k:Int))) else false)
  ·refine Ef' Z Z (Ef' Z Z (Ef' Z Z (Ef' Z Z (Ef' Z Z (Ef' Z Z (Ef' Z Z (Ef' Z Z (Ef' Z Z (Ef' Z Z (Ef' Z Z (Ef' Z Z (Ef' Z Z (Ef' Z Z ?_)))))))))))))
   refine Ef' Z Z (Ef' Z Z (Ef' Z Z (Ef' Z Z (Ef' Z Z (Ef' Z Z (E Z (B.pkF Z Z Z Z Z) (Dr Z ae (CF Z Z (Cp Z Z (fun h8=>?_) (fun h8=>?_))))))))))
   ·exact Rt Z (lF Z (li cJ))
   omega
  grind
 exact Rt Z (lF Z (li cJ))
theorem w124 (f g:List Trm) (hlf:f.length<=1000000) (hsf:∀ t∈f,(Trm.c t).length<=1000000000) (hlg:g.length<=1000000) (hsg:∀ t∈g,(Trm.c t).length<=1000000000):CKa 68 [vL eY f,vL eY g] (vI (ji f g)):=by
 exact cG qf68 Z (nB Z) Z (C Z (w81 f hlf hsf) Z Z Z (C Z (w81 g hlg hsg) Z Z Z (E Z (B.zA (es:=List.map eI [(qZ f),(qZ g)]) Z) (C Z (w98 [(qZ f),(qZ g)] (nB Z)) Z Z Z (Rt Z (lF Z (li bx)))))))
theorem w127 (k:Int) (hk: -1<=k/\k<=64):CKa 73 [vI k] (qV (Qb k)):=by
 refine cG qf73 Z (nB Z) Z (E Z (B.bZ Z Z) (C Z (w100 1 bg) Z Z Z (E Z (B.bZ Z Z) (l2 (fun (j:Int) (r:Qn)=>[(0,vI j),(2,.bref 3 0),(3,.bref 4 0)]) (fun _ r=>[(3,.box 99 [vI 0,.pv (nilP),vI 0,.pv (nilP)]),(4,.box 99 (gF r))]) (fun j r=>DbI k j r) (fun j _=>toNat (j+1)) k (Qn.ofZ 1 bg) Z ?_ (sb Z Z Z) ?_))))
 · exact db_0 hk
 intro j r hI0
 have hb1:=hI0.1
 have hb2:=hI0.2.1
 refine Cp Z Z (fun h1=>?_) (fun h1=>?_)
 ·refine C Z (w100i j aa) Z Z Z (C Z (w126 r (Qn.ofI j) (db_s hI0 hk)) Z Z Z (Dr Z ae (E Z (B.sub Z Z (by have:=hI0.2.1;unfold R64;omega)) (pk Z (L2 (j-2) (Qn.mul r (Qn.ofI j)) ?_ ?_ (sb Z Z Z))))))
  · exact db_n hI0 ab
  · omega
 exact Rt Z (lF Z (by rw[db_e hI0 ab]))
end Go.Lens.Tb
end
