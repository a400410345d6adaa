/- A part of the proof of PupilMomentsCardSaid, without conditions. -/
import Derived.Test.YtljafcmealiifaaGreatDoorP4
import Derived.Test.YtljafcmealiifaaGreatDoorP3
import Derived.Shelf.Strings.SlTrimAscii
import Derived.Test.YtljafcmealiifaaGreatDoorProg
import Derived.Lib.SlTrimSet
import Derived.Lib.Bytealg
set_option linter.unusedVariables false
set_option linter.unusedSimpArgs false
set_option linter.unusedSectionVars false
set_option maxRecDepth 100000
set_option maxHeartbeats 4000000
section
namespace Go.Lens.Tb
open Go.Proofs Go.Lens.Un
variable [Lz]
section
variable {P:Program} {Y:Tab} [qL P Y] {nb:Nat} {s:St} {dst:Option Tmp} {ty u:TypeId} {pos:String} {af:Array Edge} {gd:Option (Nat×Bool)} {t:TypeId} {x y:Operand}
theorem B.nwN {N:NI} {e:TypeId} (hx:ev1 s x=.pv (nW N)) (hy:ev1 s y=.nils) (hN:okI N) (und:Y.underlying t=some (.slice e)):Body P Y nb s ⟨dst,.binOp .eql t x y u,ty,pos,af,gd⟩ (lit (.bool (!N.2))) [] []:=by
 refine B.pure (lo:=0) (nm:=0) (kz P) ?_ ?_
 ·intro z hz
  have:z=x\/z=y:=by simpa [Op.operands] using hz
  rcases this with rfl|rfl
  ·rw[hx];rfl
  rw[hy];rfl
 have h3:isNilS (qx []) (.pv (nW N))=some (!N.2):=by
  obtain⟨z,b⟩:=N
  cases b
  ·rfl
  obtain⟨d,ds,hd⟩:=jv (z:=z) hN
  rw[nW_b hd];rfl
 show binF Y .eql t (qx []) (isNilC y) (evU (tmpsOf [x,y]) s x) (evU (tmpsOf [x,y]) s y)=_
 rw[qT ao,qT ao,hx,hy,binF_eq]
 show qE (sliceNilQ Y .eql t (qx []) (.pv (nW N)))=_
 unfold sliceNilQ
 rw[und,h3];rfl
end
attribute [local irreducible] TK PK T RG EfR Body CG
def Qn.ofZ (z:Int) (h:R64 z):Qn:=Qn.whole (ofI z) (Zk ch)
theorem Qn.ofZ_q {z:Int} (h:R64 z):(Qn.ofZ z h).q=(z:Rat):=Qn.whole_q _
def frZ:Qn:=Qn.ofZ 0 bg
theorem fi_ok {z:Int} (h:R64 z): -9223372036854775808<=z/\z<=9223372036854775807:=by unfold R64 at h;omega
def cmpQ2 (p q:Rat):Int:=if p<q then -1 else if p=q then 0 else 1
section
variable {x y X Y:NI}
theorem mk_f0 (hx:okI x) (hy:okI y) (hxl:(dig B64 x.1.natAbs).length<=400000) (hyl:(dig B64 y.1.natAbs).length<=400000) (h0:y.1≠0):∃ X Y,X=mkX x y/\Y=mkY y/\okI X/\okI Y/\(dig B64 X.1.natAbs).length<=400000/\(dig B64 Y.1.natAbs).length<=400000/\Y.1≠0:=by
 refine⟨_,_,rfl,rfl,?_,?_,?_,?_,?_⟩
 ·unfold mkX;split;exact ZF hx;exact hx
 ·unfold mkY;split;exact ZF hy;exact hy
 ·grind [mkX,kZ,Int.natAbs_neg]
 ·grind [mkY,kZ,Int.natAbs_neg]
 grind [mkY,kZ]
theorem mk_x1 (hX:X=mkX x y) (hY:Y=mkY y) (h:j7 y.1<0):X=negI x/\Y=negI y:=by subst hX hY;unfold mkX mkY;rw[if_pos (ZG.1 h),if_pos (ZG.1 h)];exact⟨rfl,rfl⟩
theorem mk_x2 (hX:X=mkX x y) (hY:Y=mkY y) (h:¬j7 y.1<0):X=x/\Y=y:=by subst hX hY;unfold mkX mkY;rw[if_neg (fun g=>h (ZG.2 g)),if_neg (fun g=>h (ZG.2 g))];exact⟨rfl,rfl⟩
theorem mk_gl (h:(dig B64 Y.1.natAbs).length<=400000) (h0:Y.1≠0):(dig B64 (mkG X Y).1.natAbs).length<=400000:=by
 show (dig B64 ((Nat.gcd X.1.natAbs Y.1.natAbs:Nat):Int).natAbs).length<=400000
 rw[Int.natAbs_natCast]
 exact qh (dv_len (Nat.le_of_dvd aa (Nat.gcd_dvd_right ..))) h
theorem mk_g0 (h0:Y.1≠0):(mkG X Y).1≠0:=by
 show ((Nat.gcd X.1.natAbs Y.1.natAbs:Nat):Int)≠0
 have:=Nat.gcd_pos_of_pos_right X.1.natAbs (show 0<Y.1.natAbs by omega)
 omega
theorem one_nH {y:NI}:(bif (!(y.2)) then decide (nH y=1) else false)=one1 y:=by
 obtain⟨z,b⟩:=y
 cases b<;>rfl
theorem mk_l1 {hx:okI x} {hy:okI y} {h0:y.1≠0} (hX:X=mkX x y) (hY:Y=mkY y) (h:(bif (!(Y.2)) then decide (nH Y=1) else false)=true):(DV.pv (.agg [pI (nH X),nW X,pI (nH Y),nW Y]))=.pv (.agg [pI (nH (Qn.make x y hx hy h0).n),nW (Qn.make x y hx hy h0).n,pI (nH (Qn.make x y hx hy h0).d),nW (Qn.make x y hx hy h0).d]):=by
 rw[one_nH] at h
 subst hX hY
 have e1:(Qn.make x y hx hy h0).n=mkX x y:=by show mkNum x y=_;unfold mkNum;rw[h];rfl
 have e2:(Qn.make x y hx hy h0).d=mkY y:=by show mkDen x y=_;unfold mkDen;rw[h];rfl
 rw[e1,e2]
theorem mk_l2 {hx:okI x} {hy:okI y} {h0:y.1≠0} (hX:X=mkX x y) (hY:Y=mkY y) (h:(bif (!(Y.2)) then decide (nH Y=1) else false)=false):(DV.pv (.agg [pI (nH (quoI X (mkG X Y))),nW (quoI X (mkG X Y)),pI (nH (quoI Y (mkG X Y))),nW (quoI Y (mkG X Y))]))=.pv (.agg [pI (nH (Qn.make x y hx hy h0).n),nW (Qn.make x y hx hy h0).n,pI (nH (Qn.make x y hx hy h0).d),nW (Qn.make x y hx hy h0).d]):=by
 rw[one_nH] at h
 subst hX hY
 have e1:(Qn.make x y hx hy h0).n=quoI (mkX x y) (mkG (mkX x y) (mkY y)):=by show mkNum x y=_;unfold mkNum;rw[h];rfl
 have e2:(Qn.make x y hx hy h0).d=quoI (mkY y) (mkG (mkX x y) (mkY y)):=by show mkDen x y=_;unfold mkDen;rw[h];rfl
 rw[e1,e2]
end
section
variable {x y:Qn}
theorem f_nl (hs:sz x.q<=20000000):(dig B64 x.n.1.natAbs).length<=400000:=ln_of (by have:=x.bn;omega)
theorem f_dl (hs:sz x.q<=20000000):(dig B64 x.d.1.natAbs).length<=400000:=ln_of (by have:=x.bd;omega)
theorem f_one:vB (bif (!(x.d.2)) then decide (nH x.d=1) else false)=vB (one1 x.d):=by rw[one_nH]
theorem f_lnx (hs:sz x.q+sz y.q<=20000000):(dig B64 x.n.1.natAbs).length<=400000:=f_nl aa
theorem f_ldx (hs:sz x.q+sz y.q<=20000000):(dig B64 x.d.1.natAbs).length<=400000:=f_dl aa
theorem f_lny (hs:sz x.q+sz y.q<=20000000):(dig B64 y.n.1.natAbs).length<=400000:=f_nl aa
theorem f_ldy (hs:sz x.q+sz y.q<=20000000):(dig B64 y.d.1.natAbs).length<=400000:=f_dl aa
theorem f_b {a b:NI} {A B:Nat} (ha:jb a.1.natAbs<=A) (hb:jb b.1.natAbs<=B):jb (kL a b).1.natAbs<=A+B:=by
 rw[mulI_1,Int.natAbs_mul]
 exact qh (bl_mul _ _) (Nat.add_le_add ha hb)
theorem f_m1 (hs:sz x.q+sz y.q<=20000000):(dig B64 (kL x.n y.d).1.natAbs).length<=400000:=ln_of (qh (f_b x.bn y.bd) aa)
theorem f_m2 (hs:sz x.q+sz y.q<=20000000):(dig B64 (kL y.n x.d).1.natAbs).length<=400000:=ln_of (qh (f_b y.bn x.bd) aa)
theorem f_m3 (hs:sz x.q+sz y.q<=20000000):(dig B64 (kL x.d y.d).1.natAbs).length<=400000:=ln_of (qh (f_b x.bd y.bd) aa)
theorem f_m5 (hs:sz x.q+sz y.q<=20000000):(dig B64 (kL x.n y.n).1.natAbs).length<=400000:=ln_of (qh (f_b x.bn y.bn) aa)
theorem f_m4 (hs:sz x.q+sz y.q<=20000000):(dig B64 (addI (kL x.n y.d) (kL y.n x.d)).1.natAbs).length<=400000:=by
 refine ln_of ?_
 rw[addI_1]
 refine qh (bl_mono (Int.natAbs_add_le _ _)) (qh (bl_add (f_b x.bn y.bd) ?_) aa)
 have:=f_b y.bn x.bd
 omega
theorem f_a1 (h:(bif (one1 x.d) then (one1 y.d) else false)=true):(DV.pv (.agg [pI (nH (Qn.whole (addI x.n y.n) (kW _ _)).n),nW (Qn.whole (addI x.n y.n) (kW _ _)).n,pI (nH (Qn.whole (addI x.n y.n) (kW _ _)).d),nW (Qn.whole (addI x.n y.n) (kW _ _)).d]))=.pv (.agg [pI (nH (x.add y).n),nW (x.add y).n,pI (nH (x.add y).d),nW (x.add y).d]):=by
 have h:(one1 x.d&&one1 y.d)=true:=by rw[<-h];cases one1 x.d<;>rfl
 grind [Qn.add]
theorem f_a2 {hp:(kL x.d y.d).1≠0} (h:(bif (one1 x.d) then (one1 y.d) else false)=false):(DV.pv (.agg [pI (nH (Qn.make (addI (kL x.n y.d) (kL y.n x.d)) (kL x.d y.d) (kW _ _) (kq _ _) hp).n),nW (Qn.make (addI (kL x.n y.d) (kL y.n x.d)) (kL x.d y.d) (kW _ _) (kq _ _) hp).n,pI (nH (Qn.make (addI (kL x.n y.d) (kL y.n x.d)) (kL x.d y.d) (kW _ _) (kq _ _) hp).d),nW (Qn.make (addI (kL x.n y.d) (kL y.n x.d)) (kL x.d y.d) (kW _ _) (kq _ _) hp).d]))=.pv (.agg [pI (nH (x.add y).n),nW (x.add y).n,pI (nH (x.add y).d),nW (x.add y).d]):=by
 have h:¬(one1 x.d&&one1 y.d)=true:=by grind
 grind [Qn.add]
theorem f_iv (h:y.q≠0) (hs:sz x.q+sz y.q<=20000000):sz x.q+sz (y.inv h).q<=20000000:=by
 rw[Qn.inv_q]
 have:=sz_inv y.q
 omega
theorem f_cmp:vI (j7 ((kL x.n y.d).1-(kL y.n x.d).1))=vI (cmpQ2 x.q y.q):=by
 have e1:(x.q<y.q)↔x.n.1*y.d.1<y.n.1*x.d.1:=by rw[Rat.lt_iff,Qn.q_num,Qn.q_num,Qn.q_den,Qn.q_den]
 have e2:(x.q=y.q)↔x.n.1*y.d.1=y.n.1*x.d.1:=by
  have h1:=x.d_ne
  have h2:=y.d_ne
  rw[Qn.q_div,Qn.q_div,<-Rat.intCast_inj,Rat.intCast_mul,Rat.intCast_mul]
  grind
 unfold cmpQ2 j7
 rw[mulI_1,mulI_1]
 by_cases g:x.q<y.q
 ·rw[if_pos g,if_pos (by have:=e1.1 g;omega)]
 rw[if_neg g,if_neg (fun k=>g (e1.2 aa))]
 by_cases k:x.q=y.q
 ·rw[if_pos k,if_pos (by have:=e2.1 k;omega)]
 rw[if_neg k,if_neg (fun l=>k (e2.2 aa))]
end
theorem ag83:aggT tab 83=some true:=ae
theorem fa83_1:fadQ tab 83 1=some 2:=ae
theorem sz83:szT tab 83=some 4:=ae
theorem w179 (x y:NI) (hx:okI x) (hy:okI y) (hxl:(dig B64 (Int.natAbs x.1)).length<=400000) (hyl:(dig B64 (Int.natAbs y.1)).length<=400000) (h0:y.1≠0):CKa 103 [nV x,nV y] (qV (Qn.make x y hx hy h0)):=by
 refine cG qf103 Z (nB Z) Z (E Z (B.bZ Z Z) ?_)
 obtain⟨X,Y,heX,heY,hX,hY,hXl,hYl,hY0⟩:=mk_f0 hx hy hxl hyl h0
 refine C Z (w212 y hy aa) Z Z Z (Cj [(2,.bref 3 0),(3,.bref 4 0),(4,.bref 5 0)] [(3,.box 81 (bI X)),(4,.box 81 (bI Y)),(5,.box 83 [vI 0,.pv (ZP),vI 0,.pv (ZP)])] Z Z Z (fun h1=>?_) (fun h1=>?_) ?_)
 ·replace h1:=of_decide_eq_true h1
  refine C Z (w192 x hx hxl) Z Z Z (C Z (w192 y hy hyl) Z Z Z (Dr Z ae (pk Z ?_)))
  show Sub _ _ _
  first|(rw[(mk_x1 heX heY ab).1,(mk_x1 heX heY ab).2])|(rw[(mk_x2 heX heY ab).1,(mk_x2 heX heY ab).2])
  exact sb Z Z rfl
 ·replace h1:=of_decide_eq_false h1
  refine pk Z ?_
  show Sub _ _ _
  first|(rw[(mk_x1 heX heY ab).1,(mk_x1 heX heY ab).2])|(rw[(mk_x2 heX heY ab).1,(mk_x2 heX heY ab).2])
  exact sb Z Z rfl
 refine E Z (B.nwN Z Z ab jk) (Eg Z Z (fun hc=>B.fadB Z fa81_0 Z) Z (Eg Z Z (fun hc=>B.loadB (qz Z hc) Z Z ag3 sz3 Z) Z (Eg Z Z (fun hc=>B.eql (qz Z hc) Z) Z (E Z (B.pA Z Z Z Z Z) (Cb Z Z (fun h2=>?_) (fun h2=>?_))))))
 ·exact E Z (B.run (val:=.pv (.agg [pI (nH X),(nW X),pI (nH Y),(nW Y)])) (m:=[]) (rd:=[]) ae) (Rt Z (lF Z ci))
 have hGl:=mk_gl (X:=X) hYl hY0
 have hG0:=mk_g0 (X:=X) hY0
 exact C Z (w188 X Y hX hY hXl hYl) Z Z Z (E Z (B.bZ Z Z) (C Z (w230 X (mkG X Y) hX (jL _) hXl hGl hG0) Z Z Z (C Z (w230 Y (mkG X Y) hY (jL _) hYl hGl hG0) Z Z Z (E Z (B.run (val:=.pv (.agg [pI (nH (quoI X (mkG X Y))),(nW (quoI X (mkG X Y))),pI (nH (quoI Y (mkG X Y))),(nW (quoI Y (mkG X Y)))])) (m:=[]) (rd:=[]) ae) (Dr Z ae (Rt Z (lF Z ci)))))))
theorem w176 (n:NI) (h:okI n):CKa 82 [nV n] (qV (Qn.whole n h)):=by
 exact cG qf82 Z (nB Z) Z (E Z (B.bZ Z Z) (C Z (w177 1) Z Z Z (E Z (B.run (val:=.pv (.agg [pI (nH n),(nW n),pI (nH (ofI 1)),(nW (ofI 1))])) (m:=[]) (rd:=[]) ae) (Dr Z ae (Rt Z (lF Z bz))))))
theorem w100 (z:Int) (h:R64 z):CKa 35 [vI z] (qV (Qn.ofZ z h)):=by
 exact cG qf35 Z (nB Z) Z (E Z (B.bZ Z Z) (C Z (w177 z) Z Z Z (C Z (w176 (ofI z) (Zk (fi_ok h))) Z Z Z (Rt Z (lF Z bz)))))
theorem w145 (x:Qn) (hs:sz (Qn.q x)<=20000000):CKa 68 [qV x] (vI (j7 x.q.num)):=by
 exact cG qf68 Z (nB Z) Z (C Z (w212 (Qn.n x) x.hn (qh (f_nl hs) ah)) Z Z Z (Rt Z (lF Z bz)))
theorem w197 (x:Qn):CKa 115 [qV x] (vB (one1 (Qn.d x))):=by
 exact cG qf115 Z (nB Z) Z (E Z (B.nwN Z Z x.hd jk) (Eg Z Z (fun hc=>B.fadB Z fa83_1 Z) Z (Eg Z Z (fun hc=>B.fadB (qz Z hc) fa81_0 Z) Z (Eg Z Z (fun hc=>B.loadB (qz Z hc) Z Z ag3 sz3 Z) Z (Eg Z Z (fun hc=>B.eql (qz Z hc) Z) Z (E Z (B.pA Z Z Z Z Z) (Rt Z (lF Z (by exact f_one)))))))))
theorem w118 (x:Qn) (hs:sz (Qn.q x)<=20000000):CKa 62 [qV x] (qV (Qn.neg x)):=by
 exact cG qf62 Z (nB Z) Z (E Z (B.bZ Z Z) (C Z (w192 (Qn.n x) x.hn (f_nl hs)) Z Z Z (E Z (B.run (val:=.pv (.agg [pI (nH (negI (Qn.n x))),(nW (negI (Qn.n x))),pI (nH (Qn.d x)),(nW (Qn.d x))])) (m:=[]) (rd:=[]) ae) (Dr Z ae (Rt Z (lF Z bz))))))
theorem w125 (x y:Qn) (hs:sz (Qn.q x)+sz (Qn.q y)<=20000000):CKa 58 [qV x,qV y] (qV (Qn.add x y)):=by
 refine cG qf58 Z (nB Z) Z (E Z (B.bZ Z Z) (C Z (w197 x) Z Z Z (Eg Z Z (fun hc=>B.loadBA Z Z Z ag83 sz83 Z Z) Z (Eg Z Z (fun hc=>B.call (w197 y) Z (ds1 (qz Z hc)) Z) Z (E Z (B.pA Z Z Z Z Z) (Cb Z Z (fun h1=>?_) (fun h1=>?_)))))))
 ·exact C Z (w198 (Qn.n x) (Qn.n y) x.hn y.hn (f_lnx hs) (f_lny hs)) Z Z Z (C Z (w176 (addI (Qn.n x) (Qn.n y)) (kW _ _)) Z Z Z (Rt Z (lF Z cj)))
 exact C Z (w199 (Qn.n x) (Qn.d y) x.hn y.hd (f_lnx hs) (f_ldy hs)) Z Z Z (C Z (w199 (Qn.n y) (Qn.d x) y.hn x.hd (f_lny hs) (f_ldx hs)) Z Z Z (C Z (w198 (kL (Qn.n x) (Qn.d y)) (kL (Qn.n y) (Qn.d x)) (kq _ _) (kq _ _) (f_m1 hs) (f_m2 hs)) Z Z Z (C Z (w199 (Qn.d x) (Qn.d y) x.hd y.hd (f_ldx hs) (f_ldy hs)) Z Z Z (C Z (w179 (addI (kL (Qn.n x) (Qn.d y)) (kL (Qn.n y) (Qn.d x))) (kL (Qn.d x) (Qn.d y)) (kW _ _) (kq _ _) (f_m4 hs) (f_m3 hs) (Int.ne_of_gt (Int.mul_pos x.pos y.pos))) Z Z Z (Dr Z ae (Rt Z (lF Z cj)))))))
theorem w126 (x y:Qn) (hs:sz (Qn.q x)+sz (Qn.q y)<=20000000):CKa 59 [qV x,qV y] (qV (Qn.mul x y)):=by
 exact cG qf59 Z (nB Z) Z (E Z (B.bZ Z Z) (C Z (w199 (Qn.n x) (Qn.n y) x.hn y.hn (f_lnx hs) (f_lny hs)) Z Z Z (C Z (w199 (Qn.d x) (Qn.d y) x.hd y.hd (f_ldx hs) (f_ldy hs)) Z Z Z (C Z (w179 (kL (Qn.n x) (Qn.n y)) (kL (Qn.d x) (Qn.d y)) (kq _ _) (kq _ _) (f_m5 hs) (f_m3 hs) (Int.ne_of_gt (Int.mul_pos x.pos y.pos))) Z Z Z (Dr Z ae (Rt Z (lF Z bz)))))))
theorem w200 (x:Qn) (hs:sz (Qn.q x)<=20000000) (h:x.q≠0):CKa 81 [qV x] (qV (Qn.inv x h)):=by
 exact cG qf81 Z (nB Z) Z (E Z (B.bZ Z Z) (C Z (w179 (Qn.d x) (Qn.n x) x.hd x.hn (f_dl hs) (f_nl hs) (Qn.n_ne h)) Z Z Z (Rt Z (lF Z bz))))
theorem w128 (x y:Qn) (hs:sz (Qn.q x)+sz (Qn.q y)<=20000000) (h:y.q≠0):CKa 34 [qV x,qV y] (qV (Qn.div x y h)):=by
 exact cG qf34 Z (nB Z) Z (E Z (B.bZ Z Z) (C Z (w200 y aa h) Z Z Z (C Z (w126 x (Qn.inv y h) (f_iv h hs)) Z Z Z (Dr Z ae (Rt Z (lF Z bz))))))
theorem w166 (x y:Qn) (hs:sz (Qn.q x)+sz (Qn.q y)<=20000000):CKa 97 [qV x,qV y] (vI (cmpQ2 x.q y.q)):=by
 exact cG qf97 Z (nB Z) Z (C Z (w199 (Qn.n x) (Qn.d y) x.hn y.hd (f_lnx hs) (f_ldy hs)) Z Z Z (C Z (w199 (Qn.n y) (Qn.d x) y.hn x.hd (f_lny hs) (f_ldx hs)) Z Z Z (C Z (w190 (kL (Qn.n x) (Qn.d y)) (kL (Qn.n y) (Qn.d x)) (kq _ _) (kq _ _) (f_m1 hs) (f_m2 hs)) Z Z Z (Dr Z ae (Rt Z (lF Z (by exact f_cmp)))))))
theorem w210 (x y:Qn) (hs:sz (Qn.q x)+sz (Qn.q y)<=20000000):CKa 75 [qV x,qV y] (qV (Qn.sub x y)):=by
 exact cG qf75 Z (nB Z) Z (E Z (B.bZ Z Z) (C Z (w118 y aa) Z Z Z (C Z (w125 x (Qn.neg y) (by rw[Qn.neg_q,sz_neg];exact hs)) Z Z Z (Dr Z ae (Rt Z (lF Z bz))))))
end Go.Lens.Tb
end
section
namespace Go.Lens.Tb
open Go.Proofs Go.Lens.Un
variable [Lz]
attribute [local irreducible] TK PK T RG EfR Body CG
def txt (q:Rat):Nb:=Lib.itoa q.num++(if q.den=1 then [] else 47::Lib.decDigits q.den)
def longN (n:Nat):Bool:=decide (600<(Lib.decDigits n).length)
def jl (q:Rat):Bool:=longN q.num.natAbs||longN q.den
theorem dec_bl (n:Nat):(Lib.decDigits n).length<=jb n+1:=dec_len aa (Nat.lt_of_lt_of_le (kI n) (qh (Nat.pow_le_pow_left (show 2<=10 by decide) _) (Nat.pow_le_pow_right ah aa)))
theorem it_bl (z:Int):(Lib.itoa z).length<=jb z.natAbs+2:=by
 unfold Lib.itoa
 split
 ·have:=dec_bl z.natAbs
  rw[zb];omega
 rw[show z.toNat=z.natAbs by omega]
 have:=dec_bl z.natAbs
 omega
section
variable {x:Qn} {k:Nat}
theorem pw_a {n s:Nat} (hb:jb n<=s) (h:(k+1)*(s+64)<=20000000):(dig B64 n).length<=400000/\k*(dig B64 n).length<=399999:=by
 have h1:s+64<=20000000:=qh (Nat.le_mul_of_pos_left _ aa) h
 have h2:64*(dig B64 n).length<=jb n+64:=by
  rcases Nat.eq_zero_or_pos n with e|e
  ·subst e;rw[jN];decide
  have hl:=dv_bl e
  have h3:=bt_s (m:=n) (n:=(dig B64 n).length-1) aa
  omega
 refine⟨ln_of aa,?_⟩
 have h4:k*(64*(dig B64 n).length)<=(k+1)*(s+64):=Nat.mul_le_mul aa aa
 rw[Nat.mul_left_comm] at h4
 omega
theorem pw_n (h:(k+1)*(sz x.q+64)<=20000000):(dig B64 x.n.1.natAbs).length<=400000:=(pw_a x.bn h).1
theorem pw_d (h:(k+1)*(sz x.q+64)<=20000000):(dig B64 x.d.1.natAbs).length<=400000:=(pw_a x.bd h).1
theorem pw_nl (h:(k+1)*(sz x.q+64)<=20000000):k*(dig B64 x.n.1.natAbs).length<=399999:=(pw_a x.bn h).2
theorem pw_dl (h:(k+1)*(sz x.q+64)<=20000000):k*(dig B64 x.d.1.natAbs).length<=399999:=(pw_a x.bd h).2
def qnP (x:Qn) (k:Nat):Qn:=⟨js (x.n.1 ^ k),js (x.d.1 ^ k),jL _,jL _,by rw[Zp];exact Int.pow_pos x.pos,by rw[Zp,Zp,Int.natAbs_pow,Int.natAbs_pow];exact Nat.Coprime.pow _ _ x.cop⟩
theorem qnP_q (x:Qn) (k:Nat):(qnP x k).q=x.q ^ k:=by
 rw[Rat.pow_def]
 refine Rat.ext Z ?_
 show (js (x.d.1 ^ k)).1.natAbs=x.d.1.natAbs ^ k
 rw[Zp,Int.natAbs_pow]
theorem it_n (h:sz x.q<=20000000):(Lib.itoa x.n.1).length<=20000002:=by
 have:=it_bl x.n.1
 have:=x.bn
 omega
theorem it_d (h:sz x.q<=20000000):(Lib.itoa x.d.1).length<=20000002:=by
 have:=it_bl x.d.1
 have:=x.bd
 omega
theorem tx_1 (h:one1 x.d=true):vS (bsO (Lib.itoa (Prod.fst x.n)))=vS (bsO (txt x.q)):=by
 unfold txt
 rw[if_pos (Qn.q_one.1 h),zR];rfl
theorem tx_2 (h:one1 x.d=false):vS (bsO ((Lib.itoa (Prod.fst x.n)++[47])++Lib.itoa (Prod.fst x.d)))=vS (bsO (txt x.q)):=by
 unfold txt
 have hp:=x.pos
 rw[if_neg (fun e=>by rw[Qn.q_one.2 e] at h;cases h)]
 have e1:Lib.itoa (Prod.fst x.d)=Lib.decDigits x.q.den:=by
  unfold Lib.itoa
  rw[if_neg aa]
  congr 1
  have:=x.q_den
  omega
 rw[e1,z7];rfl
theorem it_l {x:NI} (h:(dig B64 x.1.natAbs).length<=400000):(Lib.itoa x.1).length<=1000000000:=by
 have:=it_bl x.1
 have:=blen_dig x.1.natAbs
 omega
theorem trim_it (z:Int):qI (Lib.itoa z) [45]=Lib.decDigits z.natAbs:=by
 unfold Lib.itoa
 by_cases h:z<0
 ·rw[if_pos h]
  unfold qI ko
  simp
 rw[if_neg h,show z.toNat=z.natAbs by omega]
 have hh:ko (Lib.decDigits z.natAbs) [45]=false:=by
  unfold ko
  cases e:Lib.decDigits z.natAbs with
  | nil=>rfl
  | cons c l=>
   have hc:=j2 z.natAbs c (by rw[e];exact ql ..)
   have:¬c=45:=by
    intro e2
    subst e2
    exact absurd hc.1 ah
   simp[this]
 unfold qI
 rw[hh];rfl
theorem p8k (k:Nat):2 ^ (3*k)<=10 ^ k:=by rw[Nat.pow_mul];exact Nat.pow_le_pow_left ah _
theorem lg_1 {x:NI}:vB (bif (decide ((1800:Int)<(((jb (Int.natAbs x.1)):Nat):Int))) then (decide ((600:Int)<(((qI (Lib.itoa (Prod.fst x)) [45]).length:Nat):Int))) else false)=vB (longN (Int.natAbs x.1)):=by
 rw[trim_it]
 unfold longN
 by_cases h:(1800:Int)<(((jb (Int.natAbs x.1)):Nat):Int)
 ·rw[zl h]
  congr 4
  exact decide_eq_decide.2 aa
 rw[zk h]
 have h1:x.1.natAbs<10 ^ 600:=by
  refine Nat.lt_of_lt_of_le (kI _) (qh (Nat.pow_le_pow_right ah (show jb x.1.natAbs<=3*600 by omega)) ?_)
  exact p8k 600
 have:=dec_len ah h1
 rw[show decide (600<(Lib.decDigits x.1.natAbs).length)=false from zk aa];rfl
theorem lg_2:vB (bif (longN (Int.natAbs (Qn.n x).1)) then true else (longN (Int.natAbs (Qn.d x).1)))=vB (jl x.q):=by
 unfold jl
 show vB (bif longN x.n.1.natAbs then true else longN x.d.1.natAbs)=vB (longN x.n.1.natAbs||longN x.d.1.natAbs)
 cases longN x.n.1.natAbs<;>rfl
end
theorem w191 (x:Qn) (k:Nat) (hs:(k+1)*(sz x.q+64)<=20000000) (hk:k<9223372036854775808):CKa 114 [qV x,vI (k:Int)] (qV (qnP x k)):=by
 exact cG qf114 Z (nB Z) Z (E Z (B.bZ Z Z) (C Z (w245 (Qn.n x) k x.hn (pw_n hs) (pw_nl hs) hk) Z Z Z (C Z (w245 (Qn.d x) k x.hd (pw_d hs) (pw_dl hs) hk) Z Z Z (E Z (B.run (val:=.pv (.agg [pI (nH (js ((Qn.n x).1 ^ k))),(nW (js ((Qn.n x).1 ^ k))),pI (nH (js ((Qn.d x).1 ^ k))),(nW (js ((Qn.d x).1 ^ k)))])) (m:=[]) (rd:=[]) ae) (Dr Z ae (Rt Z (lF Z bz)))))))
theorem w162 (hp:qW) (x:Qn) (hs:sz x.q<=20000000):CKa 79 [qV x] (vS (bsO (txt x.q))):=by
 refine cG qf79 Z (nB Z) Z (C Z (w197 x) Z Z Z (Cb Z Z (fun h1=>?_) (fun h1=>?_)))
 ·exact C Z (w222 (Qn.n x) x.hn (f_nl hs) hp) Z Z Z (Rt Z (lF Z cl))
 exact C Z (w222 (Qn.n x) x.hn (f_nl hs) hp) Z Z Z (E Z (B.catB Z Z cm) (C Z (w222 (Qn.d x) x.hd (f_dl hs) hp) Z Z Z (E Z (B.catB Z Z cm) (Dr Z ae (Rt Z (lF Z cl))))))
theorem w236 (hp:qW) (x:NI) (hx:okI x) (hxl:(dig B64 (Int.natAbs x.1)).length<=400000):CKa 125 [nV x] (vB (longN (Int.natAbs x.1))):=by
 exact cG qf125 Z (nB Z) Z (C Z (w275 x hx hxl) Z Z Z (Eg Z Z (fun hc=>B.loadBA Z Z Z ag81 sz81 Z Z) Z (Eg Z Z (fun hc=>B.call (w222 x hx hxl hp) Z (ds1 (qz Z hc)) Z) Z (Eg Z Z (fun hc=>B.call (w243 (Lib.itoa (Prod.fst x)) [45] (it_l hxl) ah) Z (ds2 (qz Z hc) Z) Z) Z (Eg Z Z (fun hc=>B.ZU (qz Z hc) un9) Z (Eg Z Z (fun hc=>B.gtr (qz Z hc) Z) Z (E Z (B.pA Z Z Z Z Z) (Rt Z (lF Z (by exact lg_1))))))))))
theorem w181 (hp:qW) (x:Qn) (hs:sz x.q<=20000000):CKa 77 [qV x] (vB (jl x.q)):=by
 exact cG qf77 Z (nB Z) Z (C Z (w236 hp (Qn.n x) x.hn (f_nl hs)) Z Z Z (Eg Z Z (fun hc=>B.fadB Z fa83_1 Z) Z (Eg Z Z (fun hc=>B.loadBA (qz Z hc) Z Z ag81 sz81 Z Z) Z (Eg Z Z (fun hc=>B.call (w236 hp (Qn.d x) x.hd (f_dl hs)) Z (ds1 (qz Z hc)) Z) Z (E Z (B.pO Z Z Z Z Z) (Rt Z (lF Z (by exact lg_2))))))))
end Go.Lens.Tb
end
section
namespace Go.Proofs
open Go.Shelf
def Tryz.lays160_ren:Go.Shelf.Ren:=⟨fun|160=>150|232=>194|231=>193|227=>195|234=>197|233=>196|236=>199|235=>198|228=>234|271=>237|151=>236|197=>235|120=>260|152=>259|260=>258|137=>270|119=>271|224=>232|225=>231|217=>230|266=>256|n=>n,fun|9=>9|4=>4|3=>3|5=>5|117=>246|116=>245|0=>0|124=>249|21=>21|105=>276|46=>240|119=>315|139=>318|138=>317|n=>n,fun|3=>7|4=>8|n=>n⟩
theorem Tryz.lays160:Go.Proofs.Lays.n160 Tryz.prog Tryz.lays160_ren:={
  mixed:=ae
  f119:=Tryz.func271.trans (congrArg some ae)
  f120:=Tryz.func260.trans (congrArg some ae)
  f137:=Tryz.func270.trans (congrArg some ae)
  f151:=Tryz.func236.trans (congrArg some ae)
  f152:=Tryz.func259.trans (congrArg some ae)
  f160:=Tryz.func150.trans (congrArg some ae)
  f197:=Tryz.func235.trans (congrArg some ae)
  f217:=Tryz.func230.trans (congrArg some ae)
  f224:=Tryz.func232.trans (congrArg some ae)
  f225:=Tryz.func231.trans (congrArg some ae)
  f227:=Tryz.func195.trans (congrArg some ae)
  f228:=Tryz.func234.trans (congrArg some ae)
  f231:=Tryz.func193.trans (congrArg some ae)
  f232:=Tryz.func194.trans (congrArg some ae)
  f233:=Tryz.func196.trans (congrArg some ae)
  f234:=Tryz.func197.trans (congrArg some ae)
  f235:=Tryz.func198.trans (congrArg some ae)
  f236:=Tryz.func199.trans (congrArg some ae)
  f260:=Tryz.func258.trans (congrArg some ae)
  f266:=Tryz.func256.trans (congrArg some ae)
  f271:=Tryz.func237.trans (congrArg some ae)
  t0:=Tryz.underlying0
  a0:=Tryz.isAgg0
  z0:=Tryz.sizeOf0
  v0:=Tryz.zeroValue0
  t3:=Tryz.underlying3
  a3:=Tryz.isAgg3
  z3:=Tryz.sizeOf3
  v3:=Tryz.zeroValue3
  t4:=Tryz.underlying4
  a4:=Tryz.isAgg4
  z4:=Tryz.sizeOf4
  v4:=Tryz.zeroValue4
  t5:=Tryz.underlying5
  a5:=Tryz.isAgg5
  z5:=Tryz.sizeOf5
  v5:=Tryz.zeroValue5
  t9:=Tryz.underlying9
  a9:=Tryz.isAgg9
  z9:=Tryz.sizeOf9
  v9:=Tryz.zeroValue9
  t21:=Tryz.underlying21
  a21:=Tryz.isAgg21
  z21:=Tryz.sizeOf21
  v21:=Tryz.zeroValue21
  t46:=Tryz.underlying240
  a46:=Tryz.isAgg240
  z46:=Tryz.sizeOf240
  v46:=Tryz.zeroValue240
  t105:=Tryz.underlying276
  a105:=Tryz.isAgg276
  z105:=Tryz.sizeOf276
  v105:=Tryz.zeroValue276
  t116:=Tryz.underlying245
  a116:=Tryz.isAgg245
  z116:=Tryz.sizeOf245
  t117:=Tryz.underlying246
  a117:=Tryz.isAgg246
  z117:=Tryz.sizeOf246
  v117:=Tryz.zeroValue246
  t119:=Tryz.underlying315
  a119:=Tryz.isAgg315
  z119:=Tryz.sizeOf315
  t124:=Tryz.underlying249
  a124:=Tryz.isAgg249
  z124:=Tryz.sizeOf249
  v124:=Tryz.zeroValue249
  t138:=Tryz.underlying317
  a138:=Tryz.isAgg317
  z138:=Tryz.sizeOf317
  v138:=Tryz.zeroValue317
  t139:=Tryz.underlying318
  a139:=Tryz.isAgg318
  z139:=Tryz.sizeOf318
  v139:=Tryz.zeroValue318
  g3:=ae
  g4:=by kernel_rfl }
theorem Tryz.strings_Trim (s cutset:ByteArray) (w:World) (hs:s.size<=9223372036854775807) (hcs:cutset.size<4294967281) (hascii:∀ (j:Nat) b,cutset.data.toList[j]? =some b->b.toNat<128) :
    Calls Tryz.prog 150 #[.string s,.string cutset] w fun e w'=>e=.returned (.string ⟨(Lib.trimS s.data.toList cutset.data.toList).toArray⟩)/\Go.RowKit.Below w.heap.size w w':=Any.strings_Trim_laid Tryz.lays160 ae s cutset w hs hcs hascii
end Go.Proofs
end
section
namespace Go.Lens.Un
def Zl:Nb:=[48,49,50,51,52,53,54,55,56,57]
theorem digs_mem {c:UInt8}:Zl.contains c=true↔48<=c.toNat/\c.toNat<=57:=by
 have key:∀ n:Fin 256,Zl.contains (UInt8.ofNat n.val)=decide (48<=n.val/\n.val<=57):=by decide +kernel
 have h:=key ⟨c.toNat,UInt8.toNat_lt c⟩
 rw[UInt8.ofNat_toNat] at h
 rw[h,zf]
theorem dwn {p:UInt8->Bool}:∀ {l:Nb},l.dropWhile p=[]↔∀ x∈l,p x=true:=by
 intro l
 induction l with
 | nil=>simp
 | cons a l ih=>
  rw[List.dropWhile_cons]
  grind
theorem trim_nil {s:Nb}:Lib.trimS s Zl=[]↔Dgs s:=by
 unfold Lib.trimS Lib.trimLeftS Lib.trimRightS
 constructor
 ·intro h
  have h1:∀ x∈(s.reverse.dropWhile (Zl.contains ·)).reverse,Zl.contains x=true:=by
   intro x hx
   have:=dwn.1 h x hx
   exact this
  have h2:s.reverse.dropWhile (Zl.contains ·)=[]:=by
   cases e:s.reverse.dropWhile (Zl.contains ·) with
   | nil=>rfl
   | cons a l=>
    exfalso
    have h3:=h1 a (by rw[e];simp)
    have h4:=List.head?_dropWhile_not (Zl.contains ·) s.reverse
    grind
  intro c hc
  exact digs_mem.1 (dwn.1 h2 c (List.mem_reverse.2 hc))
 intro h
 have h2:s.reverse.dropWhile (Zl.contains ·)=[]:=dwn.2 fun c hc=>digs_mem.2 (h c (List.mem_reverse.1 hc))
 rw[h2];rfl
def kA (s:Nb):Bool:=decide (s≠[])&&decide (Lib.trimS s Zl=[])&&(decide (s.head?≠some 48)||decide (s=[48]))
theorem canoB_iff {s:Nb}:kA s=true↔Cano s:=by
 unfold kA Cano
 simp only[zj,Bool.or_eq_true,zf,trim_nil]
 constructor
 ·grind
 rintro⟨h1,h2,h3⟩
 refine⟨⟨h2,h1⟩,?_⟩
 by_cases e:s.head? =some 48
 ·right
  cases s with
  | nil=>exact absurd Z h2
  | cons c l=>
   grind
 exact .inl e
def q8 (s:Nb):Nb×Nb×Bool:=if 0<=Lib.indexByte s 47 then (s.take (Lib.indexByte s 47).toNat,s.drop ((Lib.indexByte s 47).toNat+1),true) else (s,[],false)
theorem idx_le:∀ (s:Nb) (c:UInt8),Lib.indexByte s c<s.length:=by
 intro s c
 induction s with
 | nil=>show (-1:Int)<0;decide
 | cons a s ih=>
  grind [Lib.indexByte,List.length_cons]
theorem idx_no {s:Nb} {c:UInt8} (h:∀ x∈s,x≠c):Lib.indexByte s c= -1:=by
 induction s with
 | nil=>rfl
 | cons a s ih=>
  unfold Lib.indexByte
  grind
theorem idx_at {s t:Nb} {c:UInt8} (h:∀ x∈s,x≠c):Lib.indexByte (s++c::t) c=s.length:=by
 induction s with
 | nil=>
  grind [Lib.indexByte]
 | cons a s ih=>
  have h1:=ih fun x hx=>h x (zN _ hx)
  have h2:=h a (ql ..)
  show Lib.indexByte (a::(s++c::t)) c=_
  unfold Lib.indexByte
  grind
theorem cut_no {s:Nb} (h:∀ x∈s,x≠47):q8 s=(s,[],false):=by grind [q8,idx_no]
theorem cut_at {s t:Nb} (h:∀ x∈s,x≠47):q8 (s++47::t)=(s,t,true):=by
 unfold q8
 rw[idx_at h,if_pos aa,zT,List.take_left]
 simp
theorem cut_join {s:Nb} (h:(q8 s).2.2=true):s=(q8 s).1++47::(q8 s).2.1:=by
 unfold q8 at h ⊢
 split at h
 ·rename_i h0
  rw[if_pos h0]
  simp only
  have h1:=idx_le s 47
  obtain⟨k,hk⟩:∃ k:Nat,Lib.indexByte s 47=k:=⟨(Lib.indexByte s 47).toNat,aa⟩
  rw[hk,zT]
  rw[hk] at h1
  have key:∀ (s:Nb) (k:Nat),Lib.indexByte s 47=k->s[k]? =some 47:=by
   intro s
   induction s with
   | nil=>intro k h;exact absurd h (by show ¬((-1:Int)=k);omega)
   | cons a s ih=>
    intro k h
    unfold Lib.indexByte at h
    grind
  have h2:=key s k hk
  have h3:k<s.length:=aa
  grind [List.take_append_drop,List.drop_eq_getElem_cons]
 cases h
end Go.Lens.Un
end
section
namespace Go.Lens.Tb
open Go.Proofs Go.Lens.Un
variable [Lz] [Dn]
attribute [local irreducible] TK PK T RG EfR Body CG
theorem w335 (s:Nb):CKa 256 [vS (bsO s),.pv (.lit (.int .u8 47))] (vI (Lib.indexByte s 47)):=by
 have he:∀ vs w,(callFunc 256 vs).run Tryz.prog w=((Extern.BytealgIndexByte.indexByte vs).run Tryz.prog w).andThen fun v w'=>.ok (.value v) w':=fun vs w=>run_callFunc_extern Tryz.func256 ae ae ae ae vs w
 refine⟨fun k hk=>by simp[DV.qO,DV.refs] at hk,fun G w vs M hv=>.inr ?_⟩
 obtain⟨v,v',rfl,hv,hv'⟩:=hv.two
 obtain⟨rfl,_⟩:=qB hv
 obtain⟨rfl,_⟩:=qB hv'
 exact⟨_,w,by rw[he,Lib.run_indexByteString];rfl,G,qH M.ctx (qK Z) ak⟩
theorem w239 (s:Nb) (hs:s.length<=1000000000):CKa 150 [vS (bsO s),vS (bsO [48,49,50,51,52,53,54,55,56,57])] (vS (bsO (Lib.trimS s Zl))):=by
 refine⟨fun k hk=>by simp[DV.qO,DV.refs] at hk,fun G w vs M hv=>.inl ?_⟩
 obtain⟨v,v2,rfl,h1,h2⟩:=hv.two
 obtain⟨rfl,_⟩:=qB h1
 obtain⟨rfl,_⟩:=qB h2
 refine⟨Tryz.call150 _ _,Calls.mono (Tryz.strings_Trim (bsO s) (bsO Zl) w (by show s.length<=_;omega) (by show Zl.length<_;decide) (ascii_of_all ah)) ?_⟩
 rintro e w' ⟨rfl,hB⟩
 exact⟨_,rfl,G,Za M.ctx hB.os hB.tape hB.output hB.size (fun k hk=>hB.block k hk) (qK Z) ak Dn.no⟩
section
variable {s:Nb}
theorem ix_0 (h:(bif false then true else decide ([47]=s))=true):0=Lib.indexByte s 47:=by
 have:[47]=s:=of_decide_eq_true h
 subst this;rfl
theorem ct_1 (h:0<=Lib.indexByte s 47):List.take (Int.toNat (Lib.indexByte s 47)) s=(q8 s).1:=by unfold q8;rw[if_pos h]
theorem ct_2 (h:0<=Lib.indexByte s 47):List.drop (Int.toNat (Lib.indexByte s 47+1)) s=(q8 s).2.1:=by
 unfold q8;rw[if_pos h,show (Lib.indexByte s 47+1).toNat=(Lib.indexByte s 47).toNat+1 by omega]
theorem ct_3 (h:0<=Lib.indexByte s 47):true=(q8 s).2.2:=by unfold q8;rw[if_pos h]
theorem ct_4 (h:¬0<=Lib.indexByte s 47):s=(q8 s).1:=by unfold q8;rw[if_neg h]
theorem ct_5 (h:¬0<=Lib.indexByte s 47):[]=(q8 s).2.1:=by unfold q8;rw[if_neg h]
theorem ct_6 (h:¬0<=Lib.indexByte s 47):false=(q8 s).2.2:=by unfold q8;rw[if_neg h]
theorem cn_l {b:Bool} (h:(bif decide (s≠[]) then b else false)=true):0<s.length:=by
 cases s with
 | nil=>cases h
 | cons a l=>simp
theorem cn_1:(bif (bif decide (s≠[]) then decide (Lib.trimS s Zl=[]) else false) then (bif decide (((byteAt (bsO s) 0):Int)≠48) then true else decide (s=[48])) else false)=kA s:=by
 unfold kA
 cases s with
 | nil=>rfl
 | cons c l=>
  have e:decide (((byteAt (bsO (c::l)) 0):Int)≠48)=decide ((c::l).head?≠some 48):=by
   refine decide_eq_decide.2 ?_
   show (c.toNat:Int)≠48↔some c≠some 48
   constructor
   ·intro h e
    have e:=Option.some.inj e
    subst e;exact h rfl
   intro h e
   refine h (congrArg some (UInt8.toNat_inj.1 ?_))
   have:(48:UInt8).toNat=48:=rfl
   omega
  rw[e]
  cases decide ((c::l)≠[])<;>cases decide (Lib.trimS (c::l) Zl=[])<;>cases decide ((c::l).head?≠some 48)<;>rfl
end
theorem sz26:szT tab 26=some 1:=ae
theorem un158:tab.underlying 158=some (.slice 26):=ae
theorem w99 (b:Bool) (e:Int):CKa 47 [vB b,vI e] (vI (ju b e)):=by
 refine cG qf47 Z (nB Z) Z (Cb Z Z (fun h1=>?_) (fun h1=>?_))
 ·exact Rt Z (lF Z (li co))
 exact Rt Z (lF Z (li co))
theorem w187 (b:Bool) (e:Int):CKa 110 [vB b,vI e] (vI (ju b e)):=by
 refine cG qf110 Z (nB Z) Z (Cb Z Z (fun h1=>?_) (fun h1=>?_))
 ·exact Rt Z (lF Z (li co))
 exact Rt Z (lF Z (li co))
theorem w97 (n low high:Int):CKa 45 [vI n,vI low,vI high] (vI (qU n low high)):=by
 refine cG qf45 Z (nB Z) Z ?_
 refine Em Z Z Z Z ?_
 refine Em Z Z Z Z ?_
 exact Eg Z Z (fun hc=>B.gtr (qz Z hc) (qz Z hc)) Z (E Z (B.pO Z Z Z Z Z) (C Z (w99 (bif (decide (n<low)) then true else (decide (high<n))) 3) Z Z Z (Rt Z (lF Z (li (by simp only[qU,outF,bif_or]))))))
theorem w98 (l:List Int) (hl:l.length<=1000000000000000):CKa 46 [vL eI l] (vI (qM l)):=by
 refine cG qf46 Z (nB Z) Z (E Z (B.jp Z un158) (l1 (fun (k:Nat)=>[(5,vL eI l),(6,vI (l.length:Int)),(7,vI (k:Int))]) (fun _=>[]) (fun k=>k<=l.length/\qM l=qM (List.drop k l)) (fun k=>l.length-k) 0 Z ?_ (sb Z Z Z) ?_))
 · exact⟨zt _,rfl⟩
 intro k hI0
 refine Cp Z Z (fun h1=>?_) (fun h1=>?_)
 ·refine E Z (B.idx (z:=0) Z Z un158 sz26 (fun _=>rfl) Z aa) (Cp Z Z (fun h2=>?_) (fun h2=>?_))
  ·exact Rt Z (lF Z (li cp))
  refine E Z (B.add Z Z bg) (pk Z (L1 (k+1) ?_ ?_ (sb Z Z Z)))
  · (refine⟨aa,?_⟩;rw[hI0.2,drop_at l k 0 aa,qM,if_pos aa])
  · omega
 exact Rt Z (lF Z (li cp))
theorem w186 (l:List Int) (hl:l.length<=1000000000000000):CKa 109 [vL eI l] (vI (qM l)):=by
 refine cG qf109 Z (nB Z) Z (E Z (B.jp Z un158) (l1 (fun (k:Nat)=>[(5,vL eI l),(6,vI (l.length:Int)),(7,vI (k:Int))]) (fun _=>[]) (fun k=>k<=l.length/\qM l=qM (List.drop k l)) (fun k=>l.length-k) 0 Z ?_ (sb Z Z Z) ?_))
 · exact⟨zt _,rfl⟩
 intro k hI0
 refine Cp Z Z (fun h1=>?_) (fun h1=>?_)
 ·refine E Z (B.idx (z:=0) Z Z un158 sz26 (fun _=>rfl) Z aa) (Cp Z Z (fun h2=>?_) (fun h2=>?_))
  ·exact Rt Z (lF Z (li cp))
  refine E Z (B.add Z Z bg) (pk Z (L1 (k+1) ?_ ?_ (sb Z Z Z)))
  · (refine⟨aa,?_⟩;rw[hI0.2,drop_at l k 0 aa,qM,if_pos aa])
  · omega
 exact Rt Z (lF Z (li cp))
theorem w310 (s:Nb):CKa 230 [vS (bsO s),.pv (.lit (.int .u8 47))] (vI (Lib.indexByte s 47)):=by
 exact cG qf230 Z (nB Z) Z (C Z (w335 s) Z Z Z (Rt Z (leaf Z Z)))
theorem w277 (s:Nb):CKa 192 [vS (bsO s),vS (bsO [47])] (vI (Lib.indexByte s 47)):=by
 refine cG qf192 Z (nB Z) Z (E Z (B.lenB1 Z un9) ?_)
 refine Em Z Z Z Z ?_
 refine Em Z Z Z Z ?_
 refine Eg Z Z (fun hc=>B.seqB (qz Z hc) (qz Z hc)) Z (E Z (B.pO Z Z Z Z Z) (Cb Z Z (fun h1=>?_) (fun h1=>?_)))
 ·exact Rt Z (lF Z (li (by first|rfl|exact ix_0 ab)))
 exact CT Z Z (E Z (B.sidx Z Z un9 Z (show 0<List.length [47] from ah)) (C Z (w310 s) Z Z Z (Rt Z (leaf Z Z))))
theorem w238 (s:Nb) (hs:s.length<=1000000000):CKa 149 [vS (bsO s),vS (bsO [47])] (.tup [vS (bsO (Prod.fst (q8 s))),vS (bsO (Prod.fst (Prod.snd (q8 s)))),vB (Prod.snd (Prod.snd (q8 s)))]):=by
 refine cG qf149 Z (nB Z) Z ?_
 have hix:=idx_le s 47
 refine C Z (w277 s) Z Z Z (Cp Z Z (fun h1=>?_) (fun h1=>?_))
 ·exact E Z (B.slHB Z Z un9 (Int.toNat_of_nonneg aa).symm aa) (E Z (B.lenB1 Z un9) (E Z (B.add Z Z bg) (E Z (B.slLB Z Z un9 (Int.toNat_of_nonneg aa).symm aa) (Dr Z ae (Rt Z (lF Z (tup3 (ls cq) (ls cq) (lb cq))))))))
 exact Rt Z (lF Z (tup3 (ls cq) (ls cq) (lb cq)))
theorem w184 (s:Nb) (hs:s.length<=1000000000):CKa 107 [vS (bsO s),vS (bsO [47])] (.tup [vS (bsO (Prod.fst (q8 s))),vS (bsO (Prod.fst (Prod.snd (q8 s)))),vB (Prod.snd (Prod.snd (q8 s)))]):=by
 exact cG qf107 Z (nB Z) Z (C Z (w238 s hs) Z Z Z (Rt Z (leaf Z Z)))
theorem w185 (s:Nb) (hs:s.length<=1000000000):CKa 108 [vS (bsO s)] (vB (kA s)):=by
 refine cG qf108 Z (nB Z) Z (E Z (B.sneB Z Z) ?_)
 refine Em Z Z Z Z ?_
 refine Eg Z Z (fun hc=>B.call (w239 s hs) Z (ds2 (qz Z hc) Z) Z) Z (Eg Z Z (fun hc=>B.seqB (qz Z hc) Z) Z (E Z (B.pA Z Z Z Z Z) ?_))
 refine Em Z Z Z Z ?_
 refine Eg Z Z (fun hc=>B.sidx (qz Z hc) Z un9 Z (show 0<List.length s from (by first|omega|exact cn_l (eq_of_beq hc)))) Z (Eg Z Z (fun hc=>B.neq (qz Z hc) Z) Z (Eg Z Z (fun hc=>B.move (qz Z hc)) Z ?_))
 refine Em Z Z Z Z ?_
 exact Eg Z Z (fun hc=>B.seqB (qz Z hc) Z) Z (Eg Z Z (fun hc=>B.pick (qz Z hc) Z Z Z (gdB Z) (pick_or2 hc)) Z (E Z (B.pA Z Z Z Z Z) (Rt Z (lF Z (lb (by exact cn_1))))))
def ke (s:Nb):Bool:=(kA (q8 (qI s [45])).1&&(!(ko s [45])||decide ((q8 (qI s [45])).1≠[48])))&&(!(q8 (qI s [45])).2.2||(kA (q8 (qI s [45])).2.1&&decide ((q8 (qI s [45])).2.1≠[48])&&decide ((q8 (qI s [45])).2.1≠[49])))
def ZQ (s:Nb):Bool:=decide (600<(((q8 (qI s [45])).1.length:Nat):Int))||decide (600<(((q8 (qI s [45])).2.1.length:Nat):Int))
def jA (s:Nb):Int:=if ke s=false then 1 else if ZQ s=true then 4 else if ((q8 (qI s [45])).2.2&&decide (Nat.gcd (jw (q8 (qI s [45])).1) (jw (q8 (qI s [45])).2.1)≠1))=true then 1 else 0
section
variable {s:Nb}
theorem trimP_len (s p:Nb):(qI s p).length<=s.length:=by
 unfold qI
 grind
theorem cutB_len (s:Nb):(q8 s).1.length<=s.length/\(q8 s).2.1.length<=s.length:=by grind [q8,List.length_take,List.length_drop]
theorem ZL {s:Nb}:okI (jM s):=by
 unfold jM
 cases ko s [45]
 ·exact jL _
 exact ZF (jL _)
theorem ck_f1 (h:(q8 (qI s [45])).2.2=true):ke s=(bif (bif (bif (bif kA (q8 (qI s [45])).1 then (bif (!(ko s [45])) then true else decide ((q8 (qI s [45])).1≠[48])) else false) then kA (q8 (qI s [45])).2.1 else false) then decide ((q8 (qI s [45])).2.1≠[48]) else false) then decide ((q8 (qI s [45])).2.1≠[49]) else false):=by grind [ke]
theorem ck_f2 (h:(q8 (qI s [45])).2.2=false):ke s=(bif kA (q8 (qI s [45])).1 then (bif (!(ko s [45])) then true else decide ((q8 (qI s [45])).1≠[48])) else false):=by grind [ke]
theorem firstF_2 (a b:Bool):qM [ju a 1,ju b 4]=if a=true then 1 else if b=true then 4 else 0:=by cases a<;>cases b<;>rfl
theorem bif_or2 (a b:Bool):(bif a then true else b)=(a||b):=by cases a<;>rfl
theorem ck_0 (h:¬qM [ju (!(ke s)) 1,ju (bif (decide (600<(((q8 (qI s [45])).1.length:Nat):Int))) then true else (decide (600<(((q8 (qI s [45])).2.1.length:Nat):Int)))) 4]≠0):ke s=true/\ZQ s=false:=by
 rw[bif_or2,firstF_2] at h
 have h:=zi.1 h
 change (if (!ke s)=true then (1:Int) else if ZQ s=true then 4 else 0)=0 at h
 cases h1:ke s with
 | false=>rw[h1] at h;exact absurd (show (1:Int)=0 from h) ah
 | true=>
  grind
theorem ck_7 (h:qM [ju (!(ke s)) 1,ju (bif (decide (600<(((q8 (qI s [45])).1.length:Nat):Int))) then true else (decide (600<(((q8 (qI s [45])).2.1.length:Nat):Int)))) 4]≠0):qM [ju (!(ke s)) 1,ju (bif (decide (600<(((q8 (qI s [45])).1.length:Nat):Int))) then true else (decide (600<(((q8 (qI s [45])).2.1.length:Nat):Int)))) 4]=jA s:=by
 rw[bif_or2,firstF_2] at h ⊢
 change (if (!ke s)=true then (1:Int) else if ZQ s=true then 4 else 0)≠0 at h
 change (if (!ke s)=true then (1:Int) else if ZQ s=true then 4 else 0)=_
 unfold jA
 grind
theorem ck_num (h:ke s=true/\ZQ s=false):Cano (q8 (qI s [45])).1/\(q8 (qI s [45])).1.length<=600/\(ko s [45]=true->(q8 (qI s [45])).1≠[48]):=by
 obtain⟨h1,h2⟩:=h
 unfold ke at h1
 unfold ZQ at h2
 simp only[zj,Bool.or_eq_true,zf,Bool.not_eq_true'] at h1
 simp only[qb,zG] at h2
 refine⟨canoB_iff.1 h1.1.1,aa,fun hn=>?_⟩
 grind
theorem ck_den (h:ke s=true/\ZQ s=false) (hb:(q8 (qI s [45])).2.2=true):Cano (q8 (qI s [45])).2.1/\(q8 (qI s [45])).2.1.length<=600/\(q8 (qI s [45])).2.1≠[48]/\(q8 (qI s [45])).2.1≠[49]:=by
 obtain⟨h1,h2⟩:=h
 unfold ke at h1
 unfold ZQ at h2
 rw[hb] at h1
 simp only[zj,Bool.or_eq_true,zf,Bool.not_eq_true'] at h1
 simp only[qb,zG] at h2
 rcases h1.2 with g|g
 ·cases g
 exact⟨canoB_iff.1 g.1.1,aa,g.1.2,g.2⟩
theorem dg_hasP {l:Nb} (h:Dgs l):ko l [45]=false:=by
 unfold ko
 cases l with
 | nil=>rfl
 | cons c l=>
  have hc:=h c (ql ..)
  have:¬c=45:=by
   intro e2
   subst e2
   exact absurd hc.1 ah
  simp[this]
theorem dg_trimP {l:Nb} (h:Dgs l):qI l [45]=l:=by unfold qI;rw[dg_hasP h];rfl
theorem dg_rd {l:Nb} (h:Dgs l) (hn:l≠[]):RdOk l:=by grind [RdOk,dg_trimP]
theorem dg_readI {l:Nb} (h:Dgs l):jM l=js ((jw l:Nat):Int):=by unfold jM;rw[dg_hasP h,dg_trimP h];rfl
theorem ck_1 (h:ke s=true/\ZQ s=false) (_:(q8 (qI s [45])).2.2=true):RdOk (q8 (qI s [45])).1/\(q8 (qI s [45])).1.length<=2000:=by
 have:=ck_num h
 exact⟨dg_rd this.1.1 this.1.2.1,aa⟩
theorem ck_2 (h:ke s=true/\ZQ s=false) (hb:(q8 (qI s [45])).2.2=true):RdOk (q8 (qI s [45])).2.1/\(q8 (qI s [45])).2.1.length<=2000:=by
 have:=ck_den h hb
 exact⟨dg_rd this.1.1 this.1.2.1,aa⟩
theorem dl_decV {l:Nb} (h:Dgs l) (hl:l.length<=600):(dig B64 (jM l).1.natAbs).length<=400000:=by
 rw[dg_readI h,Zp,Int.natAbs_natCast]
 exact qh (dl_lt (kK h)) aa
theorem ck_3 (h:ke s=true/\ZQ s=false) (_:(q8 (qI s [45])).2.2=true):(dig B64 (jM (q8 (qI s [45])).1).1.natAbs).length<=400000:=dl_decV (ck_num h).1.1 (ck_num h).2.1
theorem ck_4 (h:ke s=true/\ZQ s=false) (hb:(q8 (qI s [45])).2.2=true):(dig B64 (jM (q8 (qI s [45])).2.1).1.natAbs).length<=400000:=dl_decV (ck_den h hb).1.1 (ck_den h hb).2.1
theorem decV_0 {l:Nb} (h:Cano l):jw l=0↔l=[48]:=by
 constructor
 ·intro e
  have:=dec_of _ Z h
  rw[e,Lib.decDigits,dif_pos ah] at this
  exact this.symm
 intro e;subst e;rfl
theorem ck_5 (h:ke s=true/\ZQ s=false) (hb:(q8 (qI s [45])).2.2=true):(dig B64 (js ((Nat.gcd (jM (q8 (qI s [45])).1).1.natAbs (jM (q8 (qI s [45])).2.1).1.natAbs:Nat):Int)).1.natAbs).length<=400000:=by
 rw[Zp,Int.natAbs_natCast]
 have h2:=ck_den h hb
 refine qh (dv_len (Nat.le_of_dvd ?_ (Nat.gcd_dvd_right ..))) (ck_4 h hb)
 rw[dg_readI h2.1.1,Zp,Int.natAbs_natCast]
 have:jw (q8 (qI s [45])).2.1≠0:=fun e=>h2.2.2.1 ((decV_0 h2.1).1 e)
 omega
theorem ck_g (g:Nat):ju (decide (j7 ((g:Int)-1)≠0)) 1=if decide (g≠1)=true then 1 else 0:=by
 by_cases e:g=1
 ·subst e;rfl
 rw[zl (show j7 ((g:Int)-1)≠0 from fun k=>e (by have:=sgn_0.1 k;omega)),if_pos (by simpa using e)];rfl
theorem ck_8 (h:ke s=true/\ZQ s=false):ju (bif (q8 (qI s [45])).2.2 then decide (j7 ((js ((Nat.gcd (jM (q8 (qI s [45])).1).1.natAbs (jM (q8 (qI s [45])).2.1).1.natAbs:Nat):Int)).1-(ofI 1).1)≠0) else false) 1=jA s:=by
 unfold jA
 rw[if_neg (by rw[h.1];decide),if_neg (by rw[h.2];decide)]
 cases hb:(q8 (qI s [45])).2.2
 ·rfl
 have h1:=ck_num h
 have h2:=ck_den h hb
 rw[dg_readI h1.1.1,dg_readI h2.1.1]
 simp only[Zp,Int.natAbs_natCast,cond_true,Bool.true_and,ofI]
 exact ck_g _
theorem chk_0 (h:jA s=0):(ke s=true/\ZQ s=false)/\((q8 (qI s [45])).2.2=true->Nat.gcd (jw (q8 (qI s [45])).1) (jw (q8 (qI s [45])).2.1)=1):=by
 unfold jA at h
 grind
theorem cut_sign (s:Nb):q8 s=(bif ko s [45] then 45::(q8 (qI s [45])).1 else (q8 (qI s [45])).1,(q8 (qI s [45])).2.1,(q8 (qI s [45])).2.2):=by
 cases hh:ko s [45] with
 | false=>rw[show qI s [45]=s by unfold qI;rw[hh];rfl];rfl
 | true=>
  have e:s=45::qI s [45]:=by
   cases s with
   | nil=>cases hh
   | cons c l=>
    have h1:c=45:=by
     unfold ko at hh
     grind
    unfold qI
    grind
  generalize qI s [45]=d at e ⊢
  subst e
  simp only[cond_true]
  have hi:Lib.indexByte (45::d) 47=if Lib.indexByte d 47= -1 then -1 else Lib.indexByte d 47+1:=by
   conv=>lhs;unfold Lib.indexByte
   grind
  unfold q8
  rw[hi]
  have hg:=Lib.indexByte_ge d 47
  by_cases g:Lib.indexByte d 47= -1
  ·rw[if_pos g,if_neg ah,if_neg aa]
  rw[if_neg g,if_pos aa,if_pos aa,show (Lib.indexByte d 47+1).toNat=(Lib.indexByte d 47).toNat+1 by omega];rfl
theorem fr_n (h:ke s=true/\ZQ s=false):ko (q8 s).1 [45]=ko s [45]/\qI (q8 s).1 [45]=(q8 (qI s [45])).1:=by
 have h1:=(ck_num h).1.1
 rw[cut_sign s]
 cases hh:ko s [45] with
 | false=>exact⟨dg_hasP h1,dg_trimP h1⟩
 | true=>
  simp only[cond_true]
  generalize (q8 (qI s [45])).1=X
  have e:ko (45::X) [45]=true:=by unfold ko;simp
  refine⟨e,?_⟩
  unfold qI
  rw[e];rfl
theorem fr_1 (h:jA s=0):RdOk (q8 s).1/\(q8 s).1.length<=2000:=by
 have h1:=(chk_0 h).1
 have h2:=ck_num h1
 refine⟨?_,?_⟩
 ·unfold RdOk;rw[(fr_n h1).2];exact⟨h2.1.1,h2.1.2.1⟩
 rw[cut_sign s]
 cases ko s [45]
 ·simp only[cond_false];omega
 grind
theorem cut_2 (s:Nb):(q8 s).2.1=(q8 (qI s [45])).2.1/\(q8 s).2.2=(q8 (qI s [45])).2.2:=by rw[cut_sign s];exact⟨rfl,rfl⟩
theorem fr_2 (h:jA s=0) (hb:(q8 s).2.2=true):RdOk (q8 s).2.1/\(q8 s).2.1.length<=2000:=by
 rw[(cut_2 s).1]
 rw[(cut_2 s).2] at hb
 exact ck_2 (chk_0 h).1 hb
theorem ck_l (h:jA s=0):s.length<=1000000000:=by
 have h1:=fr_1 h
 unfold q8 at h1
 cases hb:(q8 s).2.2 with
 | true=>
  have h2:=fr_2 h hb
  have h1:=fr_1 h
  have:=congrArg List.length (cut_join hb)
  grind
 | false=>
  have h1:=fr_1 h
  have e:(q8 s).1=s:=by
   unfold q8 at hb ⊢
   grind
  rw[e] at h1;omega
theorem readI_v (h:jA s=0):(jM (q8 s).1).1=bif ko s [45] then -((jw (q8 (qI s [45])).1:Nat):Int) else ((jw (q8 (qI s [45])).1:Nat):Int):=by
 have h1:=fr_n (chk_0 h).1
 unfold jM
 rw[h1.1,h1.2]
 cases ko s [45]
 ·rfl
 simp only[cond_true,kZ,Zp]
theorem readI_a (h:jA s=0):(jM (q8 s).1).1.natAbs=jw (q8 (qI s [45])).1:=by grind [readI_v]
def denI (s:Nb):NI:=bif (q8 s).2.2 then jM (q8 s).2.1 else ofI 1
theorem denI_v (h:jA s=0):(denI s).1=bif (q8 (qI s [45])).2.2 then ((jw (q8 (qI s [45])).2.1:Nat):Int) else 1:=by
 unfold denI
 rw[(cut_2 s).1,(cut_2 s).2]
 cases hb:(q8 (qI s [45])).2.2
 ·rfl
 simp only[cond_true]
 rw[dg_readI (ck_den (chk_0 h).1 hb).1.1];rfl
theorem den_pos (h:jA s=0):0<(denI s).1:=by
 rw[denI_v h]
 cases hb:(q8 (qI s [45])).2.2
 ·show (0:Int)<1;decide
 have h2:=ck_den (chk_0 h).1 hb
 have:jw (q8 (qI s [45])).2.1≠0:=fun e=>h2.2.2.1 ((decV_0 h2.1).1 e)
 simp only[cond_true];omega
theorem den_ok:okI (denI s):=by
 unfold denI
 cases (q8 s).2.2
 ·exact Zk ah
 exact ZL
theorem den_cop (h:jA s=0):Nat.gcd (jM (q8 s).1).1.natAbs (denI s).1.natAbs=1:=by
 rw[readI_a h,denI_v h]
 cases hb:(q8 (qI s [45])).2.2
 ·exact Nat.gcd_one_right _
 simp only[cond_true,Int.natAbs_natCast]
 exact (chk_0 h).2 hb
def jc (s:Nb):Qn:=if h:jA s=0 then ⟨jM (q8 s).1,denI s,ZL,den_ok,den_pos h,den_cop h⟩ else frZ
theorem fr_3 (h:jA s=0) (h1:(!((q8 s).2.2))=true):(DV.pv (.agg [pI (nH (Qn.whole (jM (q8 s).1) ZL).n),nW (Qn.whole (jM (q8 s).1) ZL).n,pI (nH (Qn.whole (jM (q8 s).1) ZL).d),nW (Qn.whole (jM (q8 s).1) ZL).d]))=.pv (.agg [pI (nH (jc s).n),nW (jc s).n,pI (nH (jc s).d),nW (jc s).d]):=by
 have hb:(q8 s).2.2=false:=by simpa using h1
 have e:denI s=ofI 1:=by unfold denI;rw[hb];rfl
 unfold jc
 rw[dif_pos h]
 simp only[e];rfl
theorem fr_4 (h:jA s=0) (h1:(!((q8 s).2.2))=false):(DV.pv (.agg [pI (nH (jM (q8 s).1)),nW (jM (q8 s).1),pI (nH (jM (q8 s).2.1)),nW (jM (q8 s).2.1)]))=.pv (.agg [pI (nH (jc s).n),nW (jc s).n,pI (nH (jc s).d),nW (jc s).d]):=by
 have hb:(q8 s).2.2=true:=by simpa using h1
 have e:denI s=jM (q8 s).2.1:=by unfold denI;rw[hb];rfl
 unfold jc
 rw[dif_pos h]
 simp only[e]
theorem txt_val (h:jA s=0):txt (jc s).q=s:=by
 have hn:=ck_num (chk_0 h).1
 have e1:(jc s).q.num=(jM (q8 s).1).1:=by unfold jc;rw[dif_pos h];rfl
 have e2:(jc s).q.den=(denI s).1.natAbs:=by unfold jc;rw[dif_pos h];rfl
 have hd:=dec_of _ Z hn.1
 have a1:Lib.itoa (jM (q8 s).1).1=(q8 s).1:=by
  rw[readI_v h,cut_sign s]
  cases hh:ko s [45]
  ·simp only[cond_false]
   unfold Lib.itoa
   grind
  simp only[cond_true]
  have:jw (q8 (qI s [45])).1≠0:=fun e=>hn.2.2 hh ((decV_0 hn.1).1 e)
  grind [Lib.itoa,Int.natAbs_neg,Int.natAbs_natCast]
 unfold txt
 rw[e1,e2,a1,denI_v h]
 cases hb:(q8 (qI s [45])).2.2
 ·simp only[cond_false]
  rw[if_pos (show Int.natAbs 1=1 from rfl),zR]
  have:(q8 s).2.2=false:=by rw[(cut_2 s).2,hb]
  unfold q8 at this ⊢
  grind
 have h2:=ck_den (chk_0 h).1 hb
 simp only[cond_true,Int.natAbs_natCast]
 have hd2:=dec_of _ Z h2.1
 rw[if_neg (fun e=>h2.2.2.2 (by rw[<-hd2,e];rw[Lib.decDigits,dif_pos ah];rfl)),hd2,<-(cut_2 s).1]
 exact (cut_join (by rw[(cut_2 s).2,hb])).symm
end
theorem w112 (s:Nb) (hs:s.length<=1000000000):CKa 53 [vS (bsO s)] (vI (jA s)):=by
 refine cG qf53 Z (nB Z) Z (C Z (w183 s [45] aa ah) Z Z Z ?_)
 have hs2:(qI s [45]).length<=1000000000:=qh (trimP_len s _) hs
 refine C Z (w184 (qI s [45]) hs2) Z Z Z ?_
 have hs3:=qh (cutB_len (qI s [45])).1 hs2
 have hs4:=qh (cutB_len (qI s [45])).2 hs2
 refine C Z (w185 (Prod.fst (q8 (qI s [45]))) hs3) Z Z Z ?_
 refine Em Z Z Z Z ?_
 refine Eg Z Z (fun hc=>B.not (qz Z hc)) Z (Eg Z Z (fun hc=>B.move (qz Z hc)) Z ?_)
 refine Em Z Z Z Z ?_
 refine Eg Z Z (fun hc=>B.sneB (qz Z hc) Z) Z (Eg Z Z (fun hc=>B.pick (qz Z hc) Z Z Z (gdB Z) (pick_or2 hc)) Z (E Z (B.pA Z Z Z Z Z) (Cj [(5,vS (bsO (Prod.fst (q8 (qI s [45]))))),(6,vS (bsO (Prod.fst (Prod.snd (q8 (qI s [45])))))),(7,vB (Prod.snd (Prod.snd (q8 (qI s [45]))))),(8,vB (ke s))] [] Z Z Z (fun h1=>?_) (fun h1=>?_) ?_)))
 ·refine Em Z Z Z Z ?_
  refine Eg Z Z (fun hc=>B.call (w185 (Prod.fst (Prod.snd (q8 (qI s [45])))) hs4) Z (ds1 (qz Z hc)) Z) Z (E Z (B.pA Z Z Z Z Z) ?_)
  refine Em Z Z Z Z ?_
  refine Eg Z Z (fun hc=>B.sneB (qz Z hc) Z) Z (E Z (B.pA Z Z Z Z Z) ?_)
  refine Em Z Z Z Z ?_
  refine Eg Z Z (fun hc=>B.sneB (qz Z hc) Z) Z (E Z (B.pA Z Z Z Z Z) (pk Z ?_))
  show Sub _ _ _
  first|rw[ck_f1 h1]|rw[ck_f2 h1]
  exact sb Z Z rfl
 ·refine pk Z ?_
  show Sub _ _ _
  first|rw[ck_f1 h1]|rw[ck_f2 h1]
  exact sb Z Z rfl
 refine C Z (w187 (!(ke s)) 1) Z Z Z (E Z (B.ZU Z un9) ?_)
 refine Em Z Z Z Z ?_
 refine Eg Z Z (fun hc=>B.ZU (qz Z hc) un9) Z (Eg Z Z (fun hc=>B.gtr (qz Z hc) Z) Z (E Z (B.pO Z Z Z Z Z) (C Z (w187 (bif (decide (600<(((Prod.fst (q8 (qI s [45]))).length:Nat):Int))) then true else (decide (600<(((Prod.fst (Prod.snd (q8 (qI s [45])))).length:Nat):Int)))) 4) Z Z Z (E Z (B.zA (es:=List.map eI [(ju (!(ke s)) 1),(ju (bif (decide (600<(((Prod.fst (q8 (qI s [45]))).length:Nat):Int))) then true else (decide (600<(((Prod.fst (Prod.snd (q8 (qI s [45])))).length:Nat):Int)))) 4)]) Z) (C Z (w186 [(ju (!(ke s)) 1),(ju (bif (decide (600<(((Prod.fst (q8 (qI s [45]))).length:Nat):Int))) then true else (decide (600<(((Prod.fst (Prod.snd (q8 (qI s [45])))).length:Nat):Int)))) 4)] (zW Z)) Z Z Z (Cp Z Z (fun h2=>?_) (fun h2=>?_)))))))
 ·exact Rt Z (lF Z (li ct))
 have hck:=ck_0 h2
 refine Em Z Z Z Z ?_
 refine Eg Z Z (fun hc=>B.call (w189 (Prod.fst (q8 (qI s [45]))) (ck_1 hck (eq_of_beq hc)).1 (ck_1 hck (eq_of_beq hc)).2) Z (ds1 (qz Z hc)) Z) Z ?_
 refine Em Z Z Z Z ?_
 exact Eg Z Z (fun hc=>B.call (w189 (Prod.fst (Prod.snd (q8 (qI s [45])))) (ck_2 hck (eq_of_beq hc)).1 (ck_2 hck (eq_of_beq hc)).2) Z (ds1 (qz Z hc)) Z) Z (Eg Z Z (fun hc=>B.call (w188 (jM (Prod.fst (q8 (qI s [45])))) (jM (Prod.fst (Prod.snd (q8 (qI s [45]))))) ZL ZL (ck_3 hck (eq_of_beq hc)) (ck_4 hck (eq_of_beq hc))) Z (ds2 (qz Z hc) (qz Z hc)) Z) Z (Eg Z Z (fun hc=>B.call (w177 1) Z Z Z) Z (Eg Z Z (fun hc=>B.call (w190 (js ((Nat.gcd (Int.natAbs (jM (Prod.fst (q8 (qI s [45])))).1) (Int.natAbs (jM (Prod.fst (Prod.snd (q8 (qI s [45]))))).1):Nat):Int)) (ofI 1) (jL _) (Zk ah) (ck_5 hck (eq_of_beq hc)) dl_1) Z (ds2 (qz Z hc) (qz Z hc)) Z) Z (Eg Z Z (fun hc=>B.neq (qz Z hc) Z) Z (E Z (B.pA Z Z Z Z Z) (C Z (w187 (bif (Prod.snd (Prod.snd (q8 (qI s [45])))) then (decide ((j7 (Prod.fst (js ((Nat.gcd (Int.natAbs (jM (Prod.fst (q8 (qI s [45])))).1) (Int.natAbs (jM (Prod.fst (Prod.snd (q8 (qI s [45]))))).1):Nat):Int))-Prod.fst (ofI 1)))≠0)) else false) 1) Z Z Z (Rt Z (lF Z (li ct)))))))))
theorem w116 (s:Nb) (h:jA s=0):CKa 56 [vS (bsO s)] (qV (jc s)):=by
 refine cG qf56 Z (nB Z) Z (E Z (B.bZ Z Z) (C Z (w184 s (ck_l h)) Z Z Z (Cb Z Z (fun h1=>?_) (fun h1=>?_))))
 ·exact C Z (w189 (Prod.fst (q8 s)) (fr_1 h).1 (fr_1 h).2) Z Z Z (C Z (w176 (jM (Prod.fst (q8 s))) ZL) Z Z Z (Rt Z (lF Z cu)))
 exact C Z (w189 (Prod.fst (q8 s)) (fr_1 h).1 (fr_1 h).2) Z Z Z (C Z (w189 (Prod.fst (Prod.snd (q8 s))) (fr_2 h (by simpa using h1)).1 (fr_2 h (by simpa using h1)).2) rfl rfl rfl (E rfl (B.run (val:=.pv (.agg [pI (nH (jM (Prod.fst (q8 s)))),(nW (jM (Prod.fst (q8 s)))),pI (nH (jM (Prod.fst (Prod.snd (q8 s))))),(nW (jM (Prod.fst (Prod.snd (q8 s)))))])) (m:=[]) (rd:=[]) ae) (Rt Z (lF Z cu))))
end Go.Lens.Tb
end
section
namespace Go.Lens
variable [Lz]
section
variable {P:Program} {Y:Tab} [qL P Y] {nb:Nat} {s:St} {dst:Option Tmp} {ty u:TypeId} {pos:String} {af:Array Edge} {gd:Option (Nat×Bool)} {t:TypeId} {x y z:Operand}
theorem B.setA {α:Type} {enc:α->List PV} {l:List α} {z0:α} {cs:List PV} {h v n sz:Nat} {T:TypeId} (hx:ev1 s x=.eref h v n 0) (hm:qx s.ms h=some (.arr v sz T (l.map enc))) (hy:ev1 s y=.pv (.agg cs)) (hz:enc z0=cs)
  (hs:szT Y t=some sz) (hlt:n<l.length) (hsz:∀ a,(enc a).length=sz):Body P Y nb s ⟨dst,.store t x y,ty,pos,af,gd⟩ .dead [(h,.arr v sz T ((l.set n z0).map enc))] [h]:=by
 refine .inr (kH.of fun σ G a w hv hl I=>?_)
 have hX:=hv x aS
 have hY:=hv y aS
 rw[hx] at hX;rw[hy] at hY
 have hlk:qx σ.ms h=some (.arr v sz T (l.map enc)):=by grind
 have C:Ctx G w (fun z=>match z with| .tmp 0=>a.eval x| .tmp 1=>a.eval y|_=>undef) (fun z=>match z with| .tmp 0=>.eref h v n 0| .tmp 1=>.pv (.agg cs)|_=>.dead) (qx σ.ms) (qx σ.ms):=by
  refine I.mem.ctx2 (fun z=>?_) (fun z k hk=>?_)
  ·grind [qy]
  split at hk
  ·simp only[DV.refs,zg] at hk;subst hk;exact⟨_,hlk⟩
  ·simp[DV.refs] at hk
  simp[DV.refs] at hk
 have hcv:storeV Y t (.eref h v n 0) (.pv (.agg cs)) (qx σ.ms)=some ⟨true,.dead,[(h,.arr v sz T ((l.set n z0).map enc))]⟩:=by
  unfold storeV
  have hp:pvOf (qx σ.ms) (.pv (.agg cs))=some (.agg cs):=rfl
  have hg:(l.map enc).getD n []=enc (l[n]'hlt):=by grind
  have hk:cs.length=sz:=by rw[<-hz];exact hsz z0
  have hc:Qd (.agg cs)=cs:=rfl
  have hd:(enc (l[n]'hlt)).drop sz=[]:=zV (by rw[hsz];omega)
  have hdec:decide (n<(l.map enc).length/\0+sz<=sz)=true:=zl ⟨by rw[zI];exact hlt,aa⟩
  simp only[hs,hlk,hp,hc,hk,and_self,qq,hg,List.take_zero,zU,Nat.zero_add,hd,zR,List.map_set,hz]
  grind
 obtain⟨w',G',h1,h2⟩:=storeV_sound (P:=P) C (t:=t) (a:=.tmp 0) (x:=.tmp 1) hcv rfl
 refine⟨undef,w',G',.inr ⟨?_,rfl⟩,h2⟩
 have lift:∀ {q:Sem Unit} {w':World},q.run P w=.ok () w'->(do q;Pure.pure Next.skip:Sem Next).run P w=.ok .skip w':=by
  intro q w' h
  simp only[qu,h,qt,qw]
 exact lift (q:=Instr.storeAt _ _ _) h1
end
end Go.Lens
end
section
namespace Go.Lens.Tb
open Go.Proofs Go.Lens.Un
variable [Lz] [Dn]
attribute [local irreducible] TK PK T RG EfR Body CG
def eG:Option Qn->List PV
 | none=>[pI 0,.slice [],pI 0,.slice []]
 | some x=>eF x
theorem kj {α:Type} {l:List α} {k:Nat} {z:α} (h:k<l.length):l.getD k z∈l:=by
 rw[ze,zm h];exact List.getElem_mem h
theorem tx_step {l:List Qn} {o:List Nb} {k:Nat} (h:o=List.map (fun a=>txt (Qn.q a)) (List.take k l)++List.replicate (l.length-k) []) (hk:k<l.length) :
  o.set k (txt (Qn.q (l.getD k frZ)))=List.map (fun a=>txt (Qn.q a)) (List.take (k+1) l)++List.replicate (l.length-(k+1)) []:=by
 rw[h,List.set_append_right _ _ aF]
 have e1:k-(List.map (fun a=>txt (Qn.q a)) (List.take k l)).length=0:=by simp;omega
 rw[e1,show l.length-k=(l.length-(k+1))+1 by omega,List.replicate_succ,List.set_cons_zero,List.take_succ_eq_append_getElem hk,qc,z7,ze,zm hk]
 rfl
def resT (q:Rat):Nb:=bif jl q then [] else txt q
def resE (q:Rat):Int:=bif jl q then 4 else 0
section
variable {x:Qn}
theorem rs_1 (h:jl x.q=true):[]=resT x.q:=by unfold resT;rw[h];rfl
theorem rs_2 (h:jl x.q=false):txt x.q=resT x.q:=by unfold resT;rw[h];rfl
theorem rs_3 (h:jl x.q=true):4=resE x.q:=by unfold resE;rw[h];rfl
theorem rs_4 (h:jl x.q=false):0=resE x.q:=by unfold resE;rw[h];rfl
end
theorem by25:ty25.info.bytes=16:=ae
theorem in25:tab.info? 25=some ty25.info:=ae
theorem sz25:szT tab 25=some 1:=ae
theorem un78:tab.underlying 78=some (.slice 83):=ae
theorem un22:tab.underlying 22=some (.slice 25):=ae
theorem w203 (hp:qW) (l:List Qn) (hl:l.length<=1000000) (hz:(∀ a∈l,sz (Qn.q a)<=20000000)):CKa 78 [vL eF l] (vL eN (List.map (fun a=>txt (Qn.q a)) l)):=by
 refine cG qf78 Z (nB Z) Z (E Z (B.ZH (enc:=eN) Z) (E Z (B.jp Z un78) (E Z (B.makeSl (enc:=eN) (sz:=1) (z0:=[]) (n:=(l.length)) (m:=(l.length)) Z Z Z un22 in25 Z Z Z by25 aa Z Z) (E Z (B.jp Z un78) (l2 (fun (k:Nat) (o:List Nb)=>[(3,.aref 9 0),(9,vL eF l),(10,vI (l.length:Int)),(11,vI (k:Int))]) (fun _ o=>[(9,.arr 0 1 25 (List.map eN o))]) (fun k o=>k<=l.length/\o=List.map (fun a=>txt (Qn.q a)) (List.take k l)++List.replicate (l.length-k) []) (fun k _=>l.length-k) 0 (List.replicate (l.length) []) Z ?_ (sb Z Z Z) ?_)))))
 · exact⟨zt _,rfl⟩
 intro k o hI0
 have hol:o.length=List.length l:=by rw[hI0.2];simp;omega
 refine Cp Z Z (fun h1=>?_) (fun h1=>?_)
 ·refine E Z (B.idx (z:=frZ) (i:=k) Z Z un78 sz83 (fun _=>rfl) Z aa) (E Z (B.bZ Z Z) (C Z (w162 hp (l.getD k frZ) (hz _ (kj aa))) Z Z Z (E Z (B.ZO (n:=k) Z Z Z un22 sz25 Z aa) (E Z (B.setE (z0:=(txt (Qn.q (l.getD k frZ)))) Z Z Z Z Z sz25 aa (fun _=>rfl)) (E Z (B.add Z Z bg) (pk Z (L2 (k+1) (List.set o k (txt (Qn.q (l.getD k frZ)))) ?_ ?_ (sb Z Z Z))))))))
  · exact⟨aa,tx_step hI0.2 aa⟩
  · omega
 exact Fz 9999 2 Z Z Z (Rt Z (lF Z (lsl (by rw[hI0.2,zz aa,show l.length-k=0 by omega,List.replicate_zero,zR]))))
theorem w113 (hp:qW) (x:Qn) (hs:sz (Qn.q x)<=20000000):CKa 32 [qV x] (.tup [vS (bsO (resT (Qn.q x))),vI (resE (Qn.q x))]):=by
 refine cG qf32 Z (nB Z) Z (C Z (w181 hp x hs) Z Z Z (Cb Z Z (fun h1=>?_) (fun h1=>?_)))
 ·exact Rt Z (lF Z (Zf (ls cv) (li cv)))
 exact C Z (w162 hp x hs) Z Z Z (Rt Z (lF Z (Zf (ls cv) (li cv))))
def idxR (p:Qn->Bool):List Qn->Int->Int
 | [],_=> -1
 | a::l,i=>bif p a then i else idxR p l (i+1)
def eachE {α:Type} (f:α->Int):List α->Int
 | []=>0
 | a::l=>if f a=0 then eachE f l else f a
def chkV (l:List Nb):Int:=qM [ju (decide (256<(l.length:Int))) 5,eachE jA l]
def ZT (l:List Nb):Int:=qM [chkV l,ju (decide (((l.length:Nat):Int)=0)) 12]
def resTs (l:List Qn):List Nb:=bif l.any (fun a=>jl (Qn.q a)) then [] else l.map (fun a=>txt (Qn.q a))
def resEs (l:List Qn):Int:=bif l.any (fun a=>jl (Qn.q a)) then 4 else 0
section
variable {l:List Qn} {p:Qn->Bool} {k:Nat}
theorem ix_step (hk:k<l.length) (h:p (l.getD k frZ)=false):idxR p (l.drop k) k=idxR p (l.drop (k+1)) ((k+1:Nat):Int):=by
 rw[drop_at l k frZ hk,idxR,h];rfl
theorem ix_end {i:Int} (h:i=idxR p (l.drop k) k) (hk:¬(k:Int)<(l.length:Int)): -1=i:=by
 rw[h,zV aa];rfl
theorem ix_at {i:Int} (h:i=idxR p (l.drop k) k) (hk:k<l.length) (hp:p (l.getD k frZ)=true):(k:Int)=i:=by
 rw[h,drop_at l k frZ hk,idxR,hp];rfl
theorem ix_any:decide (0<=idxR p l 0)=l.any p:=by
 have key:∀ (l:List Qn) (i:Int),0<=i->decide (0<=idxR p l i)=l.any p:=by
  intro l
  induction l with
  | nil=>intro i _;rfl
  | cons a l ih=>
   intro i hi
   rw[idxR,List.any_cons]
   cases p a
   ·simp only[cond_false,Bool.false_or];exact ih _ aa
   simp only[cond_true,Bool.true_or];exact zl hi
 exact key l 0 aa
theorem rt_1 (h:l.any (fun a=>jl (Qn.q a))=true):[]=resTs l:=by unfold resTs;rw[h];rfl
theorem rt_2 (h:l.any (fun a=>jl (Qn.q a))=false):l.map (fun a=>txt (Qn.q a))=resTs l:=by unfold resTs;rw[h];rfl
theorem rt_3 (h:l.any (fun a=>jl (Qn.q a))=true):4=resEs l:=by unfold resEs;rw[h];rfl
theorem rt_4 (h:l.any (fun a=>jl (Qn.q a))=false):0=resEs l:=by unfold resEs;rw[h];rfl
end
section
variable {α:Type} {l:List α} {f:α->Int} {k:Nat} {z:α}
theorem ea_step (hk:k<l.length) (h:¬f (l.getD k z)≠0):eachE f (l.drop k)=eachE f (l.drop (k+1)):=by
 rw[drop_at l k z hk,eachE,if_pos (zi.1 h)]
theorem ea_end {i:Int} (h:i=eachE f (l.drop k)) (hk:¬(k:Int)<(l.length:Int)):0=i:=by
 rw[h,zV aa];rfl
theorem ea_at {i:Int} (h:i=eachE f (l.drop k)) (hk:k<l.length) (hp:f (l.getD k z)≠0):f (l.getD k z)=i:=by
 rw[h,drop_at l k z hk,eachE,if_neg hp]
end
section
variable {l:List Nb} {k:Nat} {o:List (Option Qn)}
theorem va_step (h:o=List.map (fun s=>some (jc s)) (List.take k l)++List.replicate (l.length-k) none) (hk:k<l.length) :
  o.set k (some (jc (l.getD k [])))=List.map (fun s=>some (jc s)) (List.take (k+1) l)++List.replicate (l.length-(k+1)) none:=by
 rw[h,List.set_append_right _ _ aF]
 have e1:k-(List.map (fun s=>some (jc s)) (List.take k l)).length=0:=by simp;omega
 rw[e1,show l.length-k=(l.length-(k+1))+1 by omega,List.replicate_succ,List.set_cons_zero,List.take_succ_eq_append_getElem hk,qc,z7,ze,zm hk]
 rfl
theorem va_end (hk:l.length<=k):[(3008,MO.arr 0 4 83 (List.map eG (List.map (fun s=>some (jc s)) (List.take k l)++List.replicate (l.length-k) none)))]=[(3008,MO.arr 0 4 83 (List.map eF (List.map jc l)))]:=by
 rw[zz hk,show l.length-k=0 by omega,List.replicate_zero,zR,List.map_map,List.map_map];rfl
end
theorem by83:ty83.info.bytes=64:=ae
theorem in83:tab.info? 83=some ty83.info:=ae
theorem w256 (hp:qW) (l:List Qn) (hl:l.length<=1000000) (hz:(∀ a∈l,sz (Qn.q a)<=20000000)):CKa 124 [vL eF l,.pv (.fn (.func 77) [] [])] (vI (idxR (fun a=>jl (Qn.q a)) l 0)):=by
 refine cG qf124 Z (nB Z) Z (E Z (B.jp Z un78) (l1 (fun (k:Nat)=>[(0,vL eF l),(1,.pv (.fn (.func 77) [] [])),(7,vI (l.length:Int)),(8,vI (k:Int))]) (fun _=>[]) (fun k=>k<=l.length/\idxR (fun a=>jl (Qn.q a)) l 0=idxR (fun a=>jl (Qn.q a)) (List.drop k l) k) (fun k=>l.length-k) 0 Z ?_ (sb Z Z Z) ?_))
 · exact⟨zt _,rfl⟩
 intro k hI0
 refine Cp Z Z (fun h1=>?_) (fun h1=>?_)
 ·refine E Z (B.idx (z:=frZ) Z Z un78 sz83 (fun _=>rfl) Z aa) (C Z (w181 hp (l.getD k frZ) (hz _ (kj aa))) Z Z Z (Cb Z Z (fun h2=>?_) (fun h2=>?_)))
  ·exact Rt Z (lF Z (li cw))
  refine E Z (B.add Z Z bg) (pk Z (L1 (k+1) ?_ ?_ (sb Z Z Z)))
  · (exact⟨aa,by rw[hI0.2];exact ix_step aa ab⟩)
  · omega
 exact Rt Z (lF Z (li cw))
theorem w202 (hp:qW) (l:List Qn) (hl:l.length<=1000000) (hz:(∀ a∈l,sz (Qn.q a)<=20000000)):CKa 76 [vL eF l,.pv (.fn (.func 77) [] [])] (vB (List.any l (fun a=>jl (Qn.q a)))):=by
 exact cG qf76 Z (nB Z) Z (C Z (w256 hp l hl hz) Z Z Z (Rt Z (lF Z (lb (by exact ix_any)))))
theorem w131 (hp:qW) (l:List Qn) (hl:l.length<=1000000) (hz:(∀ a∈l,sz (Qn.q a)<=20000000)):CKa 30 [vL eF l] (.tup [vL eN (resTs l),vI (resEs l)]):=by
 refine cG qf30 Z (nB Z) Z (E Z (B.ZH (enc:=eN) Z) (C Z (w202 hp l hl hz) Z Z Z (Cb Z Z (fun h1=>?_) (fun h1=>?_))))
 ·exact E Z (B.ZH (enc:=eN) Z) (Rt Z (lF Z (Zf (lsl cz) (li cz))))
 exact C Z (w203 hp l hl hz) Z Z Z (Rt Z (lF Z (Zf (lsl cz) (li cz))))
theorem w227 (l:List Nb) (hl:l.length<=1000000) (hs:∀ s∈l,s.length<=1000000000):CKa 123 [vL eN l,.pv (.fn (.func 53) [] [])] (vI (eachE jA l)):=by
 refine cG qf123 Z (nB Z) Z (E Z (B.jp Z un22) (l1 (fun (k:Nat)=>[(1,.pv (.fn (.func 53) [] [])),(8,vL eN l),(9,vI (l.length:Int)),(10,vI (k:Int))]) (fun _=>[]) (fun k=>k<=l.length/\eachE jA l=eachE jA (List.drop k l)) (fun k=>l.length-k) 0 Z ?_ (sb Z Z Z) ?_))
 · exact⟨zt _,rfl⟩
 intro k hI0
 refine Cp Z Z (fun h1=>?_) (fun h1=>?_)
 ·refine E Z (B.idx (z:=[]) Z Z un22 sz25 (fun _=>rfl) Z aa) (C Z (w112 (l.getD k []) (hs _ (kj aa))) Z Z Z (Cp Z Z (fun h2=>?_) (fun h2=>?_)))
  ·exact Rt Z (lF Z (li c5))
  refine E Z (B.add Z Z bg) (pk Z (L1 (k+1) ?_ ?_ (sb Z Z Z)))
  · (exact⟨aa,by rw[hI0.2];exact ea_step aa ab⟩)
  · omega
 exact Rt Z (lF Z (li c5))
theorem w172 (l:List Nb) (hl:l.length<=1000000) (hs:∀ s∈l,s.length<=1000000000):CKa 70 [vL eN l] (vI (chkV l)):=by
 exact cG qf70 Z (nB Z) Z (E Z (B.jp Z un22) (C Z (w99 (decide (256<(l.length:Int))) 5) Z Z Z (C Z (w227 l hl hs) Z Z Z (E Z (B.zA (es:=List.map eI [(ju (decide (256<(l.length:Int))) 5),(eachE jA l)]) Z) (C Z (w98 [(ju (decide (256<(l.length:Int))) 5),(eachE jA l)] (zW Z)) Z Z Z (Rt Z (lF Z (li bz))))))))
theorem w148 (l:List Nb) (hl:l.length<=1000000) (hs:∀ s∈l,s.length<=1000000000):CKa 28 [vL eN l] (vI (ZT l)):=by
 exact cG qf28 Z (nB Z) Z (C Z (w172 l hl hs) Z Z Z (E Z (B.jp Z un22) (C Z (w99 (decide (((l.length:Nat):Int)=0)) 12) Z Z Z (E Z (B.zA (es:=List.map eI [(chkV l),(ju (decide (((l.length:Nat):Int)=0)) 12)]) Z) (C Z (w98 [(chkV l),(ju (decide (((l.length:Nat):Int)=0)) 12)] (zW Z)) Z Z Z (Rt Z (lF Z (li bz))))))))
theorem w174 (l:List Nb) (hl:l.length<=1000000) (hv:∀ s∈l,jA s=0):qD Tryz.prog 72 [vL eN l] (qx []) (.aref 3008 0) [(3008,.arr 0 4 83 (List.map eF (List.map jc l)))]:=by
 refine cL 3000 [] qf72 Z (nB Z) Z Z (kc (E Z (B.ZH (enc:=eF) Z) (E Z (B.jp Z un22) (E Z (B.makeSl (enc:=eG) (sz:=4) (z0:=none) Z Z Z un78 in83 Z Z Z by83 aa Z Z) (E Z (B.jp Z un22) (l2 (fun (k:Nat) (o:List (Option Qn))=>[(3,.aref 3008 0),(9,vL eN l),(10,vI (l.length:Int)),(11,vI (k:Int))]) (fun _ o=>[(3008,.arr 0 4 83 (List.map eG o))]) (fun k o=>k<=l.length/\o=List.map (fun s=>some (jc s)) (List.take k l)++List.replicate (l.length-k) none) (fun k _=>l.length-k) 0 (List.replicate (l.length) none) Z ?_ (sb Z Z Z) ?_))))))
 · exact⟨zt _,rfl⟩
 intro k o hI0
 have hol:o.length=List.length l:=by rw[hI0.2];simp;omega
 refine Cp Z Z (fun h1=>?_) (fun h1=>?_)
 ·refine E Z (B.idx (z:=[]) Z Z un22 sz25 (fun _=>rfl) Z aa) (C Z (w116 (l.getD k []) (hv _ (kj aa))) Z Z Z (E Z (B.ZO Z Z Z un78 sz83 Z aa) (E Z (B.setA (z0:=(some (jc (l.getD k [])))) Z Z Z Z sz83 aa (fun a=>by cases a<;>rfl)) (E Z (B.add Z Z bg) (pk Z (L2 (k+1) (List.set o k (some (jc (l.getD k [])))) ?_ ?_ (sb Z Z Z)))))))
  · exact⟨aa,va_step hI0.2 aa⟩
  · omega
 exact Rt Z (leafL (val0:=.aref 3008 0) (out0:=[(3008,.arr 0 4 83 (List.map eG o))]) (.inr Z) ae Z (by rw[hI0.2];exact va_end aa))
def dotQ:List Qn->List Qn->Qn->Qn
 | a::l,b::m,s=>dotQ l m (Qn.add s (Qn.mul a b))
 | _,_,s=>s
def DotOk (x y:List Qn) (s:Qn):Prop:=∀ k,k<x.length->sz (Qn.q (dotQ (x.take k) (y.take k) s))<=9000000/\sz (Qn.q (x.getD k frZ))+sz (Qn.q (y.getD k frZ))<=9000000
section
variable {x y:List Qn} {s r:Qn} {k:Nat}
theorem do_2 (hz:DotOk x y s) (hk:k<x.length):sz (Qn.q (x.getD k frZ))+sz (Qn.q (y.getD k frZ))<=20000000:=by have:=(hz k hk).2;omega
theorem do_1 (hz:DotOk x y s) (hk:k<x.length) (h:r=dotQ (x.take k) (y.take k) s):sz (Qn.q r)+sz (Qn.q (Qn.mul (x.getD k frZ) (y.getD k frZ)))<=20000000:=by
 obtain⟨h1,h2⟩:=hz k hk
 rw[<-h] at h1
 rw[Qn.mul_q]
 have:=jy (Qn.q (x.getD k frZ)) (Qn.q (y.getD k frZ))
 omega
theorem dotQ_app (l m:List Qn) (a b:Qn) (h:l.length=m.length):dotQ (l++[a]) (m++[b]) s=Qn.add (dotQ l m s) (Qn.mul a b):=by
 induction l generalizing m s with
 | nil=>cases m with
  | nil=>rfl
  | cons=>simp at h
 | cons c l ih=>cases m with
  | nil=>simp at h
  | cons d m=>exact ih m ai
theorem do_st (hl:x.length=y.length) (hk:k<x.length) (h:r=dotQ (x.take k) (y.take k) s) :
  Qn.add r (Qn.mul (x.getD k frZ) (y.getD k frZ))=dotQ (x.take (k+1)) (y.take (k+1)) s:=by
 have hk':k<y.length:=aa
 rw[List.take_succ_eq_append_getElem hk,List.take_succ_eq_append_getElem hk',dotQ_app _ _ _ _ aF,<-h,ze,zm hk,ze,zm hk']
 rfl
end
theorem w211 (x y:List Qn) (s:Qn) (hl:x.length=y.length) (hm:x.length<=1000000) (hz:DotOk x y s):CKa 80 [vL eF x,vL eF y,qV s,.pv (.fn (.func 58) [] []),.pv (.fn (.func 59) [] [])] (qV (dotQ x y s)):=by
 refine cG qf80 Z (nB Z) Z (E Z (B.bZ Z Z) (E Z (B.jp Z un78) (l2 (fun (k:Nat) (r:Qn)=>[(0,vL eF x),(1,vL eF y),(3,.pv (.fn (.func 58) [] [])),(4,.pv (.fn (.func 59) [] [])),(7,.bref 8 0),(10,.bref 11 0),(13,vI (x.length:Int)),(14,vI (k:Int))]) (fun _ r=>[(8,.box 83 (gF r)),(11,.box 83 [vI 0,.pv (ZP),vI 0,.pv (ZP)])]) (fun k r=>k<=x.length/\r=dotQ (List.take k x) (List.take k y) s) (fun k _=>x.length-k) 0 s Z ?_ (sb Z Z Z) ?_)))
 · exact⟨zt _,rfl⟩
 intro k r hI0
 refine Cp Z Z (fun h1=>?_) (fun h1=>?_)
 ·refine E Z (B.idx (z:=frZ) Z Z un78 sz83 (fun _=>rfl) Z aa) (E Z (B.idx (z:=frZ) Z Z un78 sz83 (fun _=>rfl) Z aa) (C Z (w126 (x.getD k frZ) (y.getD k frZ) (do_2 hz aa)) Z Z Z (C Z (w125 r (Qn.mul (x.getD k frZ) (y.getD k frZ)) (do_1 hz aa hI0.2)) Z Z Z (Dr Z ae (E Z (B.add Z Z bg) (pk Z (L2 (k+1) (Qn.add r (Qn.mul (x.getD k frZ) (y.getD k frZ))) ?_ ?_ (sb Z Z Z))))))))
  · exact⟨aa,do_st hl aa hI0.2⟩
  · omega
 exact Rt Z (lF Z (by rw[hI0.2,zz aa,zz aa]))
theorem w144 (x y:List Qn) (hl:x.length=y.length) (hm:x.length<=1000000) (hz:DotOk x y frZ):CKa 33 [vL eF x,vL eF y] (qV (dotQ x y frZ)):=by
 exact cG qf33 Z (nB Z) Z (E Z (B.bZ Z Z) (C Z (w100 0 bg) Z Z Z (C Z (w211 x y frZ hl hm hz) Z Z Z (Rt Z (lF Z bz)))))
def Qn.ofN (n:Nat):Qn:=if h:n<=1000000 then Qn.ofZ (n:Int) bg else frZ
theorem w100n (n:Nat) (h:n<=1000000):CKa 35 [vI (n:Int)] (qV (Qn.ofN n)):=by
 unfold Qn.ofN
 rw[dif_pos h]
 exact w100 _ _
theorem ofN_q {n:Nat} (h:n<=1000000):(Qn.ofN n).q=(n:Rat):=by unfold Qn.ofN;rw[dif_pos h,Qn.ofZ_q];rfl
def Qn.dv (x y:Qn):Qn:=if h:y.q≠0 then Qn.div x y h else frZ
theorem w128d (x y:Qn) (hs:sz (Qn.q x)+sz (Qn.q y)<=20000000) (h:y.q≠0):CKa 34 [qV x,qV y] (qV (Qn.dv x y)):=by
 unfold Qn.dv
 rw[dif_pos h]
 exact w128 x y hs h
theorem Qn.dv_q {x y:Qn}:(Qn.dv x y).q=x.q / y.q:=by
 unfold Qn.dv
 split
 ·exact Qn.div_q _ _ _
 rename_i h
 have h0:y.q=0:=zi.1 h
 rw[h0,show frZ.q=((0:Int):Rat) from Qn.ofZ_q _]
 grind
theorem ofN_ne {n:Nat} (h0:0<n) (h:n<=1000000):(Qn.ofN n).q≠0:=by
 rw[ofN_q h]
 intro h1
 have h2:((n:Nat):Rat)=((0:Nat):Rat):=h1
 have:=Rat.natCast_inj.1 h2
 omega
def sumQ (l:List Qn) (s:Qn):Qn:=l.foldl Qn.add s
def pisQ (l:List Qn):Qn:=Qn.dv (sumQ l frZ) (Qn.ofN l.length)
def jG (l:List Qn):List Qn:=l.map (fun a=>Qn.sub a (pisQ l))
def FlatOk (l:List Qn):Prop:=∀ k,k<=l.length->sz (Qn.q (sumQ (l.take k) frZ))<=4000000/\sz (Qn.q (l.getD k frZ))<=4000000
def flatS (l:List Qn) (p:Qn) (k:Nat):List Qn:=(l.take k).map (fun a=>Qn.sub a p)++l.drop k
section
variable {l o:List Qn} {r p:Qn} {k:Nat}
theorem fl_st (hk:k<l.length) (h:r=sumQ (l.take k) frZ):Qn.add r (l.getD k frZ)=sumQ (l.take (k+1)) frZ:=by grind [List.take_succ_eq_append_getElem,sumQ]
theorem fl_1 (hz:FlatOk l) (hk:k<l.length) (h:r=sumQ (l.take k) frZ):sz (Qn.q r)+sz (Qn.q (l.getD k frZ))<=20000000:=by
 have:=(hz k aa).1
 have:=(hz k aa).2
 rw[h];omega
theorem ofN_sz {n:Nat} (h:n<=1000000):sz (Qn.q (Qn.ofN n))<=64:=by
 rw[ofN_q h]
 have e:((n:Nat):Rat)=(((n:Nat):Int):Rat):=rfl
 have:=sz_int (n:Int)
 have hb:jb (((n:Nat):Int)).natAbs<=64:=by
  rw[Int.natAbs_natCast]
  exact jS (Nat.lt_of_le_of_lt h ah)
 rw[e];omega
theorem fl_2 (hz:FlatOk l) (hm:l.length<=1000000):sz (Qn.q (sumQ l frZ))+sz (Qn.q (Qn.ofN l.length))<=20000000:=by
 have:=(hz l.length (zB _)).1
 rw[zz (zB _)] at this
 have:=ofN_sz hm
 omega
theorem fl_2d (hz:FlatOk l) (hm:l.length<=1000000) (h:r=sumQ (l.take k) frZ) (hk:l.length<=k):sz (Qn.q r)+sz (Qn.q (Qn.ofN l.length))<=20000000:=by rw[h,zz hk];exact fl_2 hz hm
theorem fs_len (h:o=flatS l p k) (hk:k<=l.length):o.length=l.length:=by rw[h,flatS];simp;omega
theorem fs_get (h:o=flatS l p k) (hk:k<l.length):o.getD k frZ=l.getD k frZ:=by
 rw[h,flatS,ze,z8 aF]
 grind
theorem fl_3 (hz:FlatOk l) (hk:k<l.length) (h:o=flatS l (Qn.dv r (Qn.ofN l.length)) k) (hr:r=sumQ l frZ) (hm:l.length<=1000000) :
  sz (Qn.q (o.getD k frZ))+sz (Qn.q (Qn.dv r (Qn.ofN l.length)))<=20000000:=by
 rw[fs_get h hk,Qn.dv_q,hr]
 have:=sz_div (Qn.q (sumQ l frZ)) (Qn.q (Qn.ofN l.length))
 have:=(hz l.length (zB _)).1
 rw[zz (zB _)] at this
 have:=ofN_sz hm
 have:=(hz k aa).2
 omega
theorem fs_st (hk:k<l.length) (h:o=flatS l p k):o.set k (Qn.sub (o.getD k frZ) p)=flatS l p (k+1):=by
 have e:((l.take k).map (fun a=>Qn.sub a p)).length=k:=by simp;omega
 rw[fs_get h hk,h,flatS,List.set_append_right _ _ aa,e,Nat.sub_self,drop_at l k frZ hk,List.set_cons_zero,flatS,List.take_succ_eq_append_getElem hk,qc,z7,ze,zm hk]
 rfl
theorem fl_end (hk:l.length<=k):DV.tup [vL eF (flatS l (Qn.dv (sumQ l frZ) (Qn.ofN l.length)) k),qV (Qn.dv (sumQ l frZ) (Qn.ofN l.length))]=.tup [vL eF (jG l),qV (pisQ l)]:=by rw[flatS,zz hk,zV hk,zR];rfl
end
section
variable {l:List Nb} {v:List Qn}
theorem firstP_2 {a b:Int} (h:qM [a,b]=0):a=0/\b=0:=by
 simp only[qM] at h
 omega
theorem eachE_0 {α:Type} {f:α->Int} {l:List α} (h:eachE f l=0):∀ a∈l,f a=0:=by
 induction l with
 | nil=>intro a ha;cases ha
 | cons b l ih=>
  intro a ha
  rw[eachE] at h
  grind
theorem chkP_0 (h:ZT l=0):0<l.length/\l.length<=256/\∀ s∈l,jA s=0:=by
 obtain⟨h1,h2⟩:=firstP_2 h
 obtain⟨h3,h4⟩:=firstP_2 h1
 refine⟨?_,?_,eachE_0 h4⟩
 ·by_cases h0:l.length=0
  ·rw[h0] at h2;exact absurd h2 ah
  omega
 by_cases h0:l.length<=256
 ·exact h0
 rw[show decide (256<(l.length:Int))=true from zl aa] at h3;exact absurd h3 ah
theorem fl_ok (h:¬ZT l≠0) (hz:ZT l=0->FlatOk (List.map jc l)):0<(List.map jc l).length/\List.length (List.map jc l)<=256/\(∀ s∈l,jA s=0)/\FlatOk (List.map jc l):=by
 have h0:ZT l=0:=zi.1 h
 obtain⟨h1,h2,h3⟩:=chkP_0 h0
 grind
theorem fq_len:(jG v).length=v.length:=by unfold jG;simp
theorem fa_len2:(jG v++[pisQ v]).length=v.length+1:=by simp[fq_len]
theorem fa_len (h:v.length<=256):(jG v++[pisQ v]).length<=1000000:=by simp[fq_len];omega
theorem pis_sz (h:v.length<=256) (hz:FlatOk v):sz (Qn.q (pisQ v))<=4000064:=by
 unfold pisQ
 rw[Qn.dv_q]
 have:=sz_div (Qn.q (sumQ v frZ)) (Qn.q (Qn.ofN v.length))
 have:=(hz v.length (zB _)).1
 rw[zz (zB _)] at this
 have:=ofN_sz (n:=v.length) aa
 omega
theorem fq_sz (h:v.length<=256) (hz:FlatOk v):∀ a∈jG v,sz (Qn.q a)<=8000065:=by
 intro a ha
 obtain⟨c,hc,rfl⟩:=zE.1 ha
 obtain⟨i,hi,rfl⟩:=List.mem_iff_getElem.1 hc
 have h1:=(hz i aa).2
 rw[ze,zm hi] at h1
 simp only[zO] at h1
 rw[Qn.sub_q]
 have:=sz_sub (Qn.q v[i]) (Qn.q (pisQ v))
 have:=pis_sz h hz
 omega
theorem fa_sz (h:v.length<=256) (hz:FlatOk v):∀ a∈jG v++[pisQ v],sz (Qn.q a)<=20000000:=by
 intro a ha
 rcases zH.1 ha with ha|ha
 ·have:=fq_sz h hz a ha;omega
 rw[zg.1 ha];have:=pis_sz h hz;omega
def flW (l:List Nb):List Qn:=jG (List.map jc l)++[pisQ (List.map jc l)]
def flE (l:List Nb):Int:=if ZT l≠0 then ZT l else resEs (flW l)
def flT (l:List Nb):List Nb:=if flE l≠0 then [] else (resTs (flW l)).take (jG (List.map jc l)).length
def flP (l:List Nb):Nb:=if flE l≠0 then [] else (resTs (flW l)).getD (jG (List.map jc l)).length []
theorem fl_a (h:ZT l≠0):flE l=ZT l:=by unfold flE;rw[if_pos h]
theorem fl_b (h:¬ZT l≠0):flE l=resEs (flW l):=by unfold flE;rw[if_neg h]
theorem fl_t1 (h:ZT l≠0):[]=flT l:=by unfold flT;rw[fl_a h,if_pos h]
theorem fl_p1 (h:ZT l≠0):[]=flP l:=by unfold flP;rw[fl_a h,if_pos h]
theorem fl_t2 (h:¬ZT l≠0) (h2:resEs (flW l)≠0):[]=flT l:=by unfold flT;rw[fl_b h,if_pos h2]
theorem fl_p2 (h:¬ZT l≠0) (h2:resEs (flW l)≠0):[]=flP l:=by unfold flP;rw[fl_b h,if_pos h2]
theorem fl_t3 (h:¬ZT l≠0) (h2:¬resEs (flW l)≠0):(resTs (flW l)).take (jG (List.map jc l)).length=flT l:=by unfold flT;rw[fl_b h,if_neg h2]
theorem fl_p3 (h:¬ZT l≠0) (h2:¬resEs (flW l)≠0):(resTs (flW l)).getD (jG (List.map jc l)).length []=flP l:=by unfold flP;rw[fl_b h,if_neg h2]
theorem fl_e3 (h:¬ZT l≠0) (h2:¬resEs (flW l)≠0):0=flE l:=by grind [fl_b]
theorem rt_len {w:List Qn} (h:¬resEs w≠0):(resTs w).length=w.length:=by
 have h0:resEs w=0:=zi.1 h
 unfold resEs at h0
 unfold resTs
 grind
def vaQ (v:List Qn):Qn:=Qn.dv (dotQ (jG v) (jG v) frZ) (Qn.ofN (jG v).length)
theorem va_1 {d:Qn} (hg:(jG v).length=v.length) (h:v.length<=256) (hd:sz (Qn.q d)<=9000000):sz (Qn.q d)+sz (Qn.q (Qn.ofN (jG v).length))<=20000000:=by
 have:=ofN_sz (n:=(jG v).length) aa
 omega
theorem va_2 (h:v.length<=256) (hd:sz (Qn.q (dotQ (jG v) (jG v) frZ))<=9000000):sz (Qn.q (vaQ v))<=20000000:=by
 unfold vaQ
 rw[Qn.dv_q]
 have:=sz_div (Qn.q (dotQ (jG v) (jG v) frZ)) (Qn.q (Qn.ofN (jG v).length))
 have:=va_1 fq_len h hd
 omega
def vaE (l:List Nb):Int:=if ZT l≠0 then ZT l else resE (Qn.q (vaQ (List.map jc l)))
def vaT (l:List Nb):Nb:=if ZT l≠0 then [] else resT (Qn.q (vaQ (List.map jc l)))
theorem va_t1 (h:ZT l≠0):[]=vaT l:=by unfold vaT;rw[if_pos h]
theorem va_e1 (h:ZT l≠0):vaE l=ZT l:=by unfold vaE;rw[if_pos h]
theorem va_t2 (h:¬ZT l≠0):resT (Qn.q (vaQ (List.map jc l)))=vaT l:=by unfold vaT;rw[if_neg h]
theorem va_e2 (h:¬ZT l≠0):vaE l=resE (Qn.q (vaQ (List.map jc l))):=by unfold vaE;rw[if_neg h]
end
theorem w149 (l:List Nb) (hn:0<(List.map jc l).length) (hm:(List.map jc l).length<=1000000) (hl:l.length<=1000000) (hv:∀ s∈l,jA s=0) (hz:FlatOk (List.map jc l)):CKa 29 [vL eN l] (.tup [vL eF (jG (List.map jc l)),qV (pisQ (List.map jc l))]):=by
 refine cG qf29 Z (nB Z) Z (E Z (B.ZH (enc:=eF) Z) (E Z (B.bZ Z Z) (E Z (B.jd (w174 l hl hv) Z Z trivial Z Z) (C Z (w100 0 bg) Z Z Z (E Z (B.bZ Z Z) (E Z (B.lenA Z Z un78) (l2 (fun (k:Nat) (r:Qn)=>[(3,.bref 4 0),(4,.aref 3008 0),(5,.bref 6 0),(12,.aref 3008 0),(13,vI (((List.map jc l).length:Nat):Int)),(14,vI (k:Int))]) (fun _ r=>[(4,.box 83 [vI 0,.pv (ZP),vI 0,.pv (ZP)]),(6,.box 83 (gF r)),(3008,.arr 0 4 83 (List.map eF (List.map jc l)))]) (fun k r=>k<=(List.map jc l).length/\r=sumQ (List.take k (List.map jc l)) frZ) (fun k _=>(List.map jc l).length-k) 0 frZ Z ?_ (sb Z Z Z) ?_)))))))
 · exact⟨zt _,rfl⟩
 intro k r hI0
 refine Cp Z Z (fun h1=>?_) (fun h1=>?_)
 ·refine E Z (B.ZO Z Z Z un78 sz83 Z aa) (E Z (B.loadEA (z0:=frZ) Z Z ag83 sz83 aa Z) (E Z (B.bZ Z Z) (C Z (w125 r (List.getD (List.map jc l) k frZ) (fl_1 hz aa hI0.2)) Z Z Z (E Z (B.add Z Z bg) (pk Z (L2 (k+1) (Qn.add r (List.getD (List.map jc l) k frZ)) ?_ ?_ (sb Z Z Z)))))))
  · exact⟨aa,fl_st aa hI0.2⟩
  · omega
 refine E Z (B.lenA Z Z un78) (C Z (w100n ((List.map jc l).length) aa) Z Z Z (C Z (w128d r (Qn.ofN ((List.map jc l).length)) (fl_2d hz hm hI0.2 aa) (ofN_ne hn hm)) Z Z Z (Dr Z ae (E Z (B.lenA Z Z un78) (l2 (fun (i:Nat) (o:List Qn)=>[(3,.bref 4 0),(4,.aref 3008 0),(5,.bref 6 0),(28,vI (((List.map jc l).length:Nat):Int)),(29,vI (i:Int))]) (fun _ o=>[(4,.box 83 [vI 0,.pv (ZP),vI 0,.pv (ZP)]),(6,.box 83 (gF (Qn.dv r (Qn.ofN ((List.map jc l).length))))),(3008,.arr 0 4 83 (List.map eF o))]) (fun i o=>i<=(List.map jc l).length/\o=flatS (List.map jc l) (Qn.dv r (Qn.ofN ((List.map jc l).length))) i) (fun i _=>(List.map jc l).length-i) 0 (List.map jc l) Z ?_ (sb Z Z Z) ?_)))))
 · exact⟨zt _,rfl⟩
 intro i o hI1
 have hol:=fs_len hI1.2 hI1.1
 have hr:r=sumQ (List.map jc l) frZ:=by grind
 refine Cp Z Z (fun h2=>?_) (fun h2=>?_)
 ·refine E Z (B.ZO Z Z Z un78 sz83 Z aa) (E Z (B.loadEA (z0:=frZ) Z Z ag83 sz83 aa Z) (C Z (w210 (o.getD i frZ) (Qn.dv r (Qn.ofN ((List.map jc l).length))) (fl_3 hz aa hI1.2 hr hm)) Z Z Z (E Z (B.ZO Z Z Z un78 sz83 Z aa) (E Z (B.setA (z0:=(Qn.sub (o.getD i frZ) (Qn.dv r (Qn.ofN ((List.map jc l).length))))) Z Z Z Z sz83 aa (fun _=>rfl)) (Dr Z ae (E Z (B.add Z Z bg) (pk Z (L2 (i+1) (List.set o i (Qn.sub (o.getD i frZ) (Qn.dv r (Qn.ofN ((List.map jc l).length))))) ?_ ?_ (sb Z Z Z)))))))))
  · exact⟨aa,fs_st aa hI1.2⟩
  · omega
 exact Fz 14 4 Z Z Z (Dr Z ae (Rt Z (lF Z (by rw[hI1.2,hr];exact fl_end aa))))
theorem w150 (l:List Qn) (hn:0<l.length) (hm:l.length<=1000000):qD Tryz.prog 31 [vL eF l] (qx []) (.aref 3005 1) [(3005,.arr 1 4 83 (List.map eF l))]:=by
 refine cL 3000 [] qf31 Z (nB Z) Z Z (kc (E Z (B.ZH (enc:=eF) Z) ?_))
 refine tk 1 Z ?_
 refine TK.nilM Z Z Z un78 (fun h1=>?_) ?_
 ·refine pc (CT Z Z (E Z (B.ZH (enc:=eF) Z) ?_))
  refine Rt Z ?_
  exact absurd (List.map_eq_nil_iff.1 h1) (List.ne_nil_of_length_pos hn)
 exact pc (CF Z Z (E Z (B.run Z) (E Z (B.append (l:=[]) Z Z Z un78 in83 Z (fun _=>rfl) by83 (by simp only[zd];omega)) (Rt Z (lL Z Z)))))
theorem w52 (hp:qW) (l:List Nb) (hl:l.length<=1000000) (hs:∀ s∈l,s.length<=1000000000) (hz:ZT l=0->FlatOk (List.map jc l)):CKa 6 [vL eN l] (.tup [vL eN (flT l),vS (bsO (flP l)),vI (flE l)]):=by
 refine cG qf6 Z (nB Z) Z (E Z (B.ZH (enc:=eN) Z) (C Z (w148 l hl hs) Z Z Z (Cp Z Z (fun h1=>?_) (fun h1=>?_))))
 ·exact E Z (B.ZH (enc:=eN) Z) (Rt Z (lF Z (tup3 (lsl c6) (ls c6) (li c6))))
 have hf:=fl_ok ab hz
 have hg:=fq_len (v:=List.map jc l)
 have hg2:=fa_len2 (v:=List.map jc l)
 have hg3:List.length [pisQ (List.map jc l)]=1:=rfl
 refine C Z (w149 l hf.1 (qh hf.2.1 ah) hl hf.2.2.1 hf.2.2.2) Z Z Z (E Z (B.bZ Z Z) (E Z (B.jd (w150 (jG (List.map jc l)) (by rw[fq_len];exact hf.1) (by rw[fq_len];exact qh hf.2.1 ah)) Z Z trivial Z Z) (E Z (B.zA (es:=List.map eF [(pisQ (List.map jc l))]) Z) (E Z (B.appendZ Z Z Z un78 in83 Z (fun _=>rfl) by83 aa) (C Z (w131 hp ((jG (List.map jc l))++[(pisQ (List.map jc l))]) (fa_len hf.2.1) (fa_sz hf.2.1 hf.2.2.2)) Z Z Z (Dr Z ae (Cp Z Z (fun h2=>?_) (fun h2=>?_))))))))
 ·exact E Z (B.ZH (enc:=eN) Z) (Rt Z (lF Z (tup3 (lsl c6) (ls c6) (li c6))))
 have hrl:=rt_len ab
 exact E Z (B.jp Z un78) (E Z (B.slT Z Z un22 sz25 Z aa) (E Z (B.jp Z un78) (E Z (B.idx (z:=[]) Z Z un22 sz25 (fun _=>rfl) Z aa) (Dr Z ae (Rt Z (lF Z (tup3 (lsl c6) (ls c6) (li c6))))))))
theorem w53 (hp:qW) (l:List Nb) (hl:l.length<=1000000) (hs:∀ s∈l,s.length<=1000000000) (hz:ZT l=0->FlatOk (List.map jc l)) (hz2:ZT l=0->DotOk (jG (List.map jc l)) (jG (List.map jc l)) frZ/\sz (Qn.q (dotQ (jG (List.map jc l)) (jG (List.map jc l)) frZ))<=9000000):CKa 7 [vL eN l] (.tup [vS (bsO (vaT l)),vI (vaE l)]):=by
 refine cG qf7 Z (nB Z) Z (C Z (w148 l hl hs) Z Z Z (Cp Z Z (fun h1=>?_) (fun h1=>?_)))
 ·exact Rt Z (lF Z (Zf (ls c7) (li c7)))
 have hf:=fl_ok ab hz
 have hg:=fq_len (v:=List.map jc l)
 have hg2:=fa_len2 (v:=List.map jc l)
 have hg3:List.length [pisQ (List.map jc l)]=1:=rfl
 have hf0:ZT l=0:=zi.1 ab
 exact C Z (w149 l hf.1 (qh hf.2.1 ah) hl hf.2.2.1 hf.2.2.2) Z Z Z (E Z (B.bZ Z Z) (C Z (w144 (jG (List.map jc l)) (jG (List.map jc l)) Z aa (hz2 hf0).1) Z Z Z (E Z (B.jp Z un78) (C Z (w100n ((jG (List.map jc l)).length) aa) Z Z Z (C Z (w128d (dotQ (jG (List.map jc l)) (jG (List.map jc l)) frZ) (Qn.ofN ((jG (List.map jc l)).length)) (va_1 hg hf.2.1 (hz2 hf0).2) (ofN_ne aa aa)) Z Z Z (C Z (w113 hp (vaQ (List.map jc l)) (va_2 hf.2.1 (hz2 hf0).2)) Z Z Z (Rt Z (lF Z (Zf (ls c7) (li c7))))))))))
end Go.Lens.Tb
end
section
namespace Go.Lens.Un.R
abbrev K9:Nat:=1000000000
theorem jx:2<=K9:=ah
def iL (l:List Nat):List Int:=l.map (fun n:Nat=>(n:Int))
section
variable {l x y o:List Nat} {k i:Nat}
@[simp] theorem iL_nil:iL []=[]:=rfl
theorem qG:(iL l).length=l.length:=by unfold iL;simp
theorem jQ:(iL l).getD k 0=((l.getD k 0:Nat):Int):=by grind [iL]
theorem iL_set {n:Nat}:(iL l).set k (n:Int)=iL (l.set k n):=by unfold iL;rw[List.map_set]
theorem iL_app:iL x++iL y=iL (x++y):=by unfold iL;rw[qc]
theorem iL_take:(iL l).take k=iL (l.take k):=by unfold iL;rw[List.map_take]
theorem iL_rep:List.replicate k (0:Int)=iL (List.replicate k 0):=by unfold iL;rw[List.map_replicate];rfl
theorem Zg (h:Dg K9 l) (k:Nat):0<=(iL l).getD k 0/\(iL l).getD k 0<1000000000:=by
 rw[jQ]
 have:=h.get ah k
 grind
def TrI (x:List Nat) (w:List Int):Prop:=∃ n,n<=x.length/\w=iL (x.take n)/\val K9 (x.take n)=val K9 x
theorem tr_init:TrI x (iL x):=⟨x.length,zB _,by rw[List.take_length],by rw[List.take_length]⟩
theorem tr_next {w:List Int} (h:TrI x w) (h0:0<w.length) (hz:w.getD (w.length-1) 0=0):TrI x (w.take (w.length-1)):=by
 obtain⟨n,h1,rfl,h3⟩:=h
 have hl:(iL (x.take n)).length=n:=by rw[qG,zn];omega
 rw[hl] at h0 hz ⊢
 rw[jQ] at hz
 have hz2:x.getD (n-1) 0=0:=by grind
 refine⟨n-1,aa,?_,trim_next h1 h0 h3 hz2⟩
 rw[iL_take,List.take_take,Nat.min_eq_left aa]
theorem tr_end {w:List Int} (h:TrI x w) (hx:Dg K9 x) (hz:0<w.length->w.getD (w.length-1) 0≠0):w=iL (dig K9 (val K9 x)):=by
 obtain⟨n,h1,rfl,h3⟩:=h
 have hl:(iL (x.take n)).length=n:=by rw[qG,zn];omega
 rw[hl] at hz
 rw[trim_end jx hx h1 h3 (fun h0=>?_)]
 grind [jQ]
end
theorem tr_len {x:List Nat} {w:List Int} (h:TrI x w):w.length<=x.length:=by
 obtain⟨n,h1,rfl,h3⟩:=h
 rw[qG,zn];omega
def sgn (b:Bool) (n:Nat):Int:=if b then -(n:Int) else n
theorem sgn_abs (b:Bool) (n:Nat):(sgn b n).natAbs=n:=by unfold sgn;split<;>omega
theorem ZG (b:Bool) (n:Nat):decide (sgn b n<0)=(b&&decide (0<n)):=by
 unfold sgn
 cases b
 ·simp
 simp
theorem sgn_self (z:Int):sgn (decide (z<0)) z.natAbs=z:=by
 unfold sgn
 grind
theorem Qa {n:Nat}:0<(dig K9 n).length↔0<n:=by
 constructor
 ·intro h
  refine Nat.pos_of_ne_zero fun e=>?_
  grind [jN]
 intro h
 refine Nat.pos_of_ne_zero fun e=>?_
 have:=dig_nil jx (List.length_eq_zero_iff.1 e);omega
def WhI (z n:Int) (w:List Int):Prop:=∃ o:List Nat,w=iL o/\o++dig K9 n.natAbs=dig K9 z.natAbs
theorem wh_init (z:Int):WhI z z []:=⟨[],rfl,rfl⟩
theorem abs_tmod (n:Int):(n.tmod 1000000000).natAbs=n.natAbs%K9:=by rw[Int.natAbs_tmod];rfl
theorem abs_tdiv (n:Int):(n.tdiv 1000000000).natAbs=n.natAbs / K9:=by rw[Int.natAbs_tdiv];rfl
theorem wh_next {z n d:Int} {w:List Int} (h:WhI z n w) (hn:n≠0) (hd:d=((n.tmod 1000000000).natAbs:Int)):WhI z (n.tdiv 1000000000) (w++[d]):=by
 obtain⟨o,rfl,h⟩:=h
 refine⟨o++[n.natAbs%K9],?_,?_⟩
 ·rw[hd,abs_tmod];unfold iL;rw[qc];rfl
 rw[abs_tdiv,z7]
 rw[dig_pos jx aa] at h
 exact h
theorem wh_end {z:Int} {w:List Int} (h:WhI z 0 w):w=iL (dig K9 z.natAbs):=by
 obtain⟨o,rfl,h⟩:=h
 have e:dig K9 (0:Int).natAbs=[]:=jN _
 grind
theorem nz_ge {o:List Nat} (h:Dg K9 o) (hv:o=[]\/K9 ^ (o.length-1)<=val K9 o):Nz o:=by
 rcases hv with rfl|hv
 ·exact nz_nil
 intro x hx e
 subst e
 obtain⟨hne,hx⟩:=List.getLast?_eq_some_iff.1 hx
 subst hx
 rw[val_snoc,za,Nat.mul_zero,Nat.add_zero] at hv
 have:=jR (β:=K9) (l:=hne) (fun y hy=>h y (List.mem_append_left _ hy))
 grind
def AdI (x y:List Nat) (i:Nat) (c:Int) (w:List Int):Prop:=∃ (o:List Nat) (d:Nat),w=iL o/\c=(d:Int)/\o.length=i/\Dg K9 o/\d<=1/\val K9 o+d*K9 ^ i=val K9 (x.take i)+val K9 (y.take i)/\(i=0\/K9 ^ (i-1)<=val K9 x+val K9 y)
section
variable {x y:List Nat} {i:Nat} {c:Int} {w:List Int}
theorem ad_init:AdI x y 0 0 []:=⟨[],0,rfl,rfl,rfl,dg_nil _,aa,by simp[val],.inl rfl⟩
theorem ad_c (h:AdI x y i c w):0<=c/\c<=1/\w.length=i:=by
 obtain⟨o,d,rfl,rfl,h1,_,h2,_⟩:=h
 grind [qG]
theorem ad_big (h:AdI x y i c w) (hnx:Nz x) (hny:Nz y) (hx:Dg K9 x) (hy:Dg K9 y) (hg:i<x.length\/i<y.length\/0<c):K9 ^ i<=val K9 x+val K9 y:=by
 have key:∀ l:List Nat,Nz l->i<l.length->K9 ^ i<=val K9 l:=by
  intro l hl hi
  have h1:=nz_pos jx hl (by intro e;rw[e] at hi;cases hi)
  exact qh (Nat.pow_le_pow_right ah aa) h1
 by_cases h1:i<x.length
 ·have:=key x hnx h1;omega
 by_cases h2:i<y.length
 ·have:=key y hny h2;omega
 obtain⟨o,d,rfl,rfl,h3,h4,h5,h6,_⟩:=h
 rw[kV aa,kV aa] at h6
 grind
theorem ad_next (h:AdI x y i c w) (hx:Dg K9 x) (hy:Dg K9 y) (hb:K9 ^ i<=val K9 x+val K9 y) :
  AdI x y (i+1) (((iL x).getD i 0+(iL y).getD i 0+c) / 1000000000) (w++[((iL x).getD i 0+(iL y).getD i 0+c)%1000000000]):=by
 obtain⟨o,d,rfl,rfl,h1,h2,h3,h4,_⟩:=h
 have a:=hx.get ah i
 have b:=hy.get ah i
 rw[jQ,jQ]
 refine⟨o++[(x.getD i 0+y.getD i 0+d)%K9],(x.getD i 0+y.getD i 0+d) / K9,?_,?_,by simp[h1],h2.app (dg_one (Nat.mod_lt _ ah)),?_,?_,.inr hb⟩
 ·rw[<-iL_app];congr 1
 ·rfl
 ·grind
 rw[val_snoc,je,je,h1]
 have e:=Nat.div_add_mod (x.getD i 0+y.getD i 0+d) K9
 grind
theorem ad_end (h:AdI x y i c w) (h1:¬(i:Int)<(x.length:Int)) (h2:¬(i:Int)<(y.length:Int)) (h3:¬0<c):w=iL (dig K9 (val K9 x+val K9 y)):=by
 obtain⟨o,d,rfl,rfl,h4,h5,h6,h7,h8⟩:=h
 rw[kV aa,kV aa] at h7
 have hd:d=0:=aa
 rw[hd,Nat.zero_mul,Nat.add_zero] at h7
 rw[<-h7]
 rw[<-dig_val jx h5]
 refine nz_ge h5 ?_
 grind
end
def SuI (x y:List Nat) (i:Nat) (b:Int) (w:List Int):Prop:=∃ (o:List Nat) (d:Nat),w=iL o/\b=(d:Int)/\o.length=i/\Dg K9 o/\d<=1/\val K9 o+val K9 (y.take i)=val K9 (x.take i)+d*K9 ^ i
section
variable {x y:List Nat} {i:Nat} {b:Int} {w:List Int}
theorem su_init:SuI x y 0 0 []:=⟨[],0,rfl,rfl,rfl,dg_nil _,aa,by simp[val]⟩
theorem su_b (h:SuI x y i b w):0<=b/\b<=1/\w.length=i:=by
 obtain⟨o,d,rfl,rfl,h1,_,h2,_⟩:=h
 grind [qG]
theorem su_step {s t d e:Nat} (h:SuI x y i b w) (hx:Dg K9 x) (hy:Dg K9 y) (hs:s<K9) (he:e<=1) (heq:(s:Int)+(iL y).getD i 0+b=(iL x).getD i 0+e*1000000000):SuI x y (i+1) (e:Int) (w++[(s:Int)]):=by
 obtain⟨o,d,rfl,rfl,h1,h2,h3,h4⟩:=h
 rw[jQ,jQ] at heq
 have hq:s+y.getD i 0+d=x.getD i 0+e*K9:=by grind
 refine⟨o++[s],e,?_,rfl,by simp[h1],h2.app (dg_one hs),he,?_⟩
 ·rw[<-iL_app];rfl
 rw[val_snoc,je,je,h1]
 have e2:e*K9 ^ (i+1)=K9 ^ i*(e*K9):=by rw[Nat.pow_succ];ac_rfl
 grind
theorem su_1 (h:SuI x y i b w) (hx:Dg K9 x) (hy:Dg K9 y) (hn:(iL x).getD i 0-(iL y).getD i 0-b<0):SuI x y (i+1) 1 (w++[(iL x).getD i 0-(iL y).getD i 0-b+1000000000]):=by
 have a:=Zg hx i
 have c:=Zg hy i
 have g:=su_b h
 have e:(iL x).getD i 0-(iL y).getD i 0-b+1000000000=(((iL x).getD i 0-(iL y).getD i 0-b+1000000000).toNat:Int):=aa
 rw[e]
 have hk:K9=1000000000:=rfl
 exact su_step (d:=0) (t:=0) (e:=1) h hx hy aa (zB _) aa
theorem su_2 (h:SuI x y i b w) (hx:Dg K9 x) (hy:Dg K9 y) (hn:¬(iL x).getD i 0-(iL y).getD i 0-b<0):SuI x y (i+1) 0 (w++[(iL x).getD i 0-(iL y).getD i 0-b]):=by
 have a:=Zg hx i
 have c:=Zg hy i
 have g:=su_b h
 have e:(iL x).getD i 0-(iL y).getD i 0-b=(((iL x).getD i 0-(iL y).getD i 0-b).toNat:Int):=aa
 rw[e]
 have hk:K9=1000000000:=rfl
 exact su_step (d:=0) (t:=0) (e:=0) h hx hy aa (zt _) aa
theorem su_end (h:SuI x y i b w) (h1:¬(i:Int)<(x.length:Int)) (hl:y.length<=x.length) (hv:val K9 y<=val K9 x):∃ o,w=iL o/\Dg K9 o/\val K9 o=val K9 x-val K9 y:=by
 obtain⟨o,d,rfl,rfl,h4,h5,h6,h7⟩:=h
 rw[kV aa,kV aa] at h7
 have hlt:=jR h5
 rw[h4] at hlt
 have hd:d=0:=by grind
 grind
end
end Go.Lens.Un.R
end
section
namespace Go.Lens
variable [Lz]
abbrev KI:=Int×Int
def kkV (k:KI):Value:=.agg #[.int .i64 k.1,.int .i64 k.2]
def kkP (k:KI):PV:=.agg [.lit (.int .i64 k.1),.lit (.int .i64 k.2)]
def ZZ {α:Type} (k:KI) (v:α):List (KI×α)->List (KI×α)
 | []=>[(k,v)]
 | (a,x)::l=>if k=a then (a,v)::l else (a,x)::ZZ k v l
def idxI {α:Type} (k:KI):Nat->List (KI×α)->Option Nat
 | _,[]=>none
 | j,(a,_)::l=>if k=a then some j else idxI k (j+1) l
def Zb {α:Type} (k:KI):List (KI×α)->Option α
 | []=>none
 | (a,x)::l=>if k=a then some x else Zb k l
def kvO {α:Type} (enc:α->PV) (l:List (KI×α)):List (PV×PV):=l.map fun p=>(kkP p.1,enc p.2)
abbrev kO {α:Type} (enc:α->PV) (l:List (KI×α)):MO:=.kmap (fun kv=>kv=kvO enc l)
theorem rel_kk {R:Rd} {k:KI} {v:Value} (h:qN R (kkP k) v):v=kkV k:=by
 simp only[kkP,qN,qA] at h
 obtain⟨vs,rfl,_,v1,l1,e1,⟨rfl,_⟩,v2,l2,e2,⟨rfl,_⟩,e3⟩:=h
 subst e3;subst e2
 have:vs= #[.int .i64 k.1,.int .i64 k.2]:=by grind
 rw[this];rfl
theorem kk_rel {R:Rd} {k:KI}:qN R (kkP k) (kkV k):=by
 simp only[kkP,kkV,qN,qA]
 exact⟨_,rfl,by simp[Value.oneCell'],_,_,rfl,⟨rfl,rfl⟩,_,_,rfl,⟨rfl,rfl⟩,rfl⟩
theorem rel_keys {α:Type} {R:Rd} {enc:α->PV}:∀ {l:List (KI×α)} {es:List MapEntry},qA R ((kvO enc l).map (·.1)) (es.map (·.key))->es.map (·.key)=l.map fun p=>kkV p.1
 | [],es,h=>by simpa [kvO,qA] using h
 | p::l,es,h=>by
  simp only[kvO,zy,qA] at h
  obtain⟨v,vs,e,h1,h2⟩:=h
  cases es with
  | nil=>cases e
  | cons x es=>
   simp only[zy,List.cons.injEq] at e ⊢
   obtain⟨e1,e2⟩:=e
   refine⟨e1.trans (rel_kk h1),rel_keys (by rw[e2];exact h2)⟩
structure KTy (Y:Tab) (t kt et it:TypeId):Prop where
 u:Y.underlying t=some (.map kt et)
 k:Y.underlying kt=some (.array 2 it)
 i:Y.underlying it=some (.int .i64)
 a:aggT Y it=some false
 z:szT Y it=some 1
section
variable {P:Program} {Y:Tab} [qL P Y] {t kt et it:TypeId}
theorem run_part2 (hT:KTy Y t kt et it) (a b:Value) (w:World):(part it #[a,b] 0).run P w=.ok a w/\(part it #[a,b] 1).run P w=.ok b w:=by constructor<;>simp[part,qu,kD hT.a]
theorem run_checkK (hT:KTy Y t kt et it) (b:Bool) (k:KI) (w:World):(Instr.checkKey b 10000 kt (kkV k)).run P w=.ok () w:=by
 obtain⟨h1,h2⟩:=run_part2 (P:=P) hT (.int .i64 k.1) (.int .i64 k.2) w
 have hi:∀ (n:Nat) (x:Int),(Instr.checkKey b (n+1) it (.int .i64 x)).run P w=.ok () w:=fun n x=>by simp[Instr.checkKey,qJ hT.i]
 have key:∀ n:Nat,(Instr.checkKey b (n+1+1) kt (kkV k)).run P w=.ok () w:=fun n=>by
  rw[Instr.checkKey]
  simp only[kkV,qu,qJ hT.k,qt]
  simp[Std.Legacy.Range.forIn_eq_forIn_range',Std.Legacy.Range.size,List.range',qZ hT.z,h1,h2,hi]
 exact key 9998
theorem run_eqK (hT:KTy Y t kt et it) (k j:KI) (w:World):(Op.equal kt (kkV k) (kkV j)).run P w=.ok (decide (k=j)) w:=by
 obtain⟨h1,h2⟩:=run_part2 (P:=P) hT (.int .i64 k.1) (.int .i64 k.2) w
 obtain⟨h3,h4⟩:=run_part2 (P:=P) hT (.int .i64 j.1) (.int .i64 j.2) w
 have hi:∀ (n:Nat) (x y:Int),(Op.equalIn (n+1) it (.int .i64 x) (.int .i64 y)).run P w=.ok (x==y) w:=fun n x y=>by rw[Op.equalIn];simp[qJ hT.i]
 have hd:decide (k=j)=(k.1==j.1&&k.2==j.2):=by grind
 have key:∀ n:Nat,(Op.equalIn (n+1+1) kt (kkV k) (kkV j)).run P w=.ok (decide (k=j)) w:=fun n=>by
  rw[Op.equalIn]
  simp only[kkV,qu,qJ hT.k,qt,qZ hT.z]
  rw[hd]
  cases e1:(k.1==j.1)<;>cases e2:(k.2==j.2)<;>
  simp[Std.Legacy.Range.forIn_eq_forIn_range',Std.Legacy.Range.size,List.range',h1,h2,h3,h4,hi,e1,e2]
 exact key 9998
theorem run_findK (hT:KTy Y t kt et it) {α:Type} (k:KI) (w:World):∀ (l:List (KI×α)) (es:List MapEntry) (i:Nat),es.map (·.key)=l.map (fun p=>kkV p.1)->
   ∃ r,(Instr.findAsking kt (kkV k) es i).run P w=.ok r w/\match idxI k i l with
    | none=>r=none
    | some j=>∃ e,es[j-i]? =some e/\i<=j/\r=some (j,e.val)
 | [],es,i,h=>by
  have:es=[]:=by simpa using h
  subst this
  exact⟨none,by simp[Instr.findAsking],by simp[idxI]⟩
 | (a,x)::l,[],i,h=>by cases h
 | (a,x)::l,e::es,i,h=>by
  simp only[zy,List.cons.injEq] at h
  obtain⟨h1,h2⟩:=h
  simp only[Instr.findAsking,qu,h1,run_eqK hT,qt,idxI]
  by_cases hk:k=a
  ·simp only[hk,decide_true,qq]
   exact⟨_,by simp,e,by simp,by simp,rfl⟩
  simp only[hk,decide_false,qp,qr]
  obtain⟨r,q1,q2⟩:=run_findK hT k w l es (i+1) h2
  grind
theorem run_findKey2 (hT:KTy Y t kt et it) (k:KI) (es:List MapEntry) (hk:∀ e∈es,∃ a,e.key=kkV a) (w:World):(Instr.findKey kt (kkV k) es).run P w=(Instr.findAsking kt (kkV k) es 0).run P w:=by
 cases es with
 | nil=>simp[Instr.findKey,qJ hT.k,Instr.findNow,Instr.findAsking]
 | cons e es=>simp[Instr.findKey,qJ hT.k,Instr.findNow,Instr.sameNow]
theorem keyStays2 (k:KI) (w:World):(Instr.keyThatStays (kkV k) (kkV k)).run P w=.ok (kkV k) w:=by
 have:Instr.sameBits 10000 (kkV k) (kkV k)=true:=by
  have key:∀ n:Nat,Instr.sameBits (n+1+1) (kkV k) (kkV k)=true:=fun n=>by simp[kkV,Instr.sameBits]
  exact key 9998
 simp[Instr.keyThatStays,this]
end
theorem idx_none {α:Type} {k:KI} (v:α):∀ {l:List (KI×α)} {i:Nat},idxI k i l=none->ZZ k v l=l++[(k,v)]
 | [],i,_=>rfl
 | (a,x)::l,i,h=>by
  simp only[idxI] at h
  split at h
  ·cases h
  rename_i hne
  simp[ZZ,hne,idx_none v h]
theorem idx_get {α:Type} {k:KI}:∀ {l:List (KI×α)} {i:Nat},idxI k i l=none->Zb k l=none
 | [],i,_=>rfl
 | (a,x)::l,i,h=>by
  simp only[idxI] at h
  split at h
  ·cases h
  rename_i hne
  simp[Zb,hne,idx_get h]
theorem idx_some {α:Type} {k:KI} (v:α):∀ {l:List (KI×α)} {i j:Nat},idxI k i l=some j->i<=j/\(∃ x,l[j-i]? =some (k,x)/\Zb k l=some x)/\ZZ k v l=l.set (j-i) (k,v)
 | [],i,j,h=>by cases h
 | (a,x)::l,i,j,h=>by
  simp only[idxI] at h
  split at h
  ·rename_i hq
   subst hq
   cases h
   simp[ZZ,Zb]
  rename_i hne
  obtain⟨h1,⟨y,h2,h4⟩,h3⟩:=idx_some v h
  have e:j-i=j-(i+1)+1:=aa
  grind [Zb,ZZ]
theorem qA.setAt {R:Rd}:∀ {cs:List PV} {vs:List Value} (_:qA R cs vs) (i:Nat) {p:PV} {v:Value} (_:qN R p v),qA R (cs.set i p) (vs.set i v)
 | [],vs,H,i,p,v,_=>by simp only[qA] at H;subst H;simp[qA]
 | c::cs,vs,H,0,p,v,h=>by
  grind [qA]
 | c::cs,vs,H,i+1,p,v,h=>by
  simp only[qA] at H
  obtain⟨v0,vs',rfl,H0,H⟩:=H
  simp only[List.set_cons_succ,qA]
  exact⟨v0,_,rfl,H0,qA.setAt H i h⟩
theorem kO_at {α:Type} {G:Gh} {w:World} {h:Nat} {enc:α->PV} {l:List (KI×α)} (H:q7 G w h (kO enc l)) :
  (G.ρ h).arr=false/\∃ es:List MapEntry,G.γ (G.ρ h).map=some h/\w.heap[(G.ρ h).map]? =some (.map es.toArray es.length)/\(∀ (i:Nat) (e:MapEntry),es[i]? =some e->e.born=i)/\
   es.map (·.key)=l.map (fun p=>kkV p.1)/\qA (G.rd w) ((kvO enc l).map (·.2)) (es.map (·.val))/\es.length=l.length:=by
 simp only[q7] at H
 obtain⟨h1,es,kv,rfl,h2,h3,h4,h5,h6⟩:=H
 refine⟨h1,es,h2,h3,h4,rel_keys h5,h6,?_⟩
 have:=h5.length
 simpa [kvO] using this
theorem at_kO {α:Type} {G:Gh} {w:World} {h:Nat} {enc:α->PV} {l:List (KI×α)} {es:List MapEntry} (h1:(G.ρ h).arr=false) (h2:G.γ (G.ρ h).map=some h) (h3:w.heap[(G.ρ h).map]? =some (.map es.toArray es.length))
  (h4:∀ (i:Nat) (e:MapEntry),es[i]? =some e->e.born=i) (h5:es.map (·.key)=l.map (fun p=>kkV p.1)) (h6:qA (G.rd w) ((kvO enc l).map (·.2)) (es.map (·.val))):q7 G w h (kO enc l):=by
 simp only[q7]
 refine⟨h1,es,_,rfl,h2,h3,h4,?_,h6⟩
 rw[h5]
 have:∀ l:List (KI×α),qA (G.rd w) ((kvO enc l).map (·.1)) (l.map fun p=>kkV p.1):=by
  intro l
  induction l with
  | nil=>simp[kvO,qA]
  | cons p l ih=>simp only[kvO,zy,qA];exact⟨_,_,rfl,kk_rel,ih⟩
 exact this l
section
variable {P:Program} {Y:Tab} [qL P Y] {nb:Nat} {s:St} {dst:Option Tmp} {ty:TypeId} {pos:String} {af:Array Edge} {gd:Option (Nat×Bool)} {t kt et it:TypeId} {x y z:Operand} {α:Type} {enc:α->PV}
theorem B.newS {d h:Nat} (hm:jI s.ms h=false):kH P s ⟨some d,.makeMap t none,ty,pos,af,gd⟩ (.mref h) [(h,kO enc [])] []:=by
 refine kH.of fun σ G a w _ hl I=>?_
 have hl':qx σ.ms h=none:=(hl h (.inr ao)).trans (hasM_none hm)
 refine⟨.map (some w.heap.size),w.alloc (.map #[] 0),_,.inl (by simp[execOp,Instr.makeMap]),j5 (B:={ map:=w.heap.size }) I.fresh hl' ?_ ?_ ak am⟩
 ·simp[qy,Gh.new]
 exact at_kO (es:=[]) c8 c8 c9 ao ao (by simp[kvO,qA])
theorem B.newK {d h:Nat} (hh:nameOf nb s.ms (some d)=h) (hm:jI s.ms h=false):Body P Y nb s ⟨some d,.makeMap t none,ty,pos,af,gd⟩ (.mref h) [(h,kO enc [])] []:=.inr (B.newS hm)
theorem B.setS {o:Op} (ho:o.operands=(Op.mapUpdate t x y z).operands) (he:∀ ev:Operand->Value,execOp ev ⟨none,o,ty,pos,af,gd⟩=execOp ev ⟨none,.mapUpdate t x y z,ty,pos,af,gd⟩) {h:Nat} {l:List (KI×α)} {k:KI} {v:α} (hT:KTy Y t kt et it) (hx:ev1 s x=.mref h) (hy:ev1 s y=.pv (kkP k)) (hz:ev1 s z=.pv (enc v)) (hl:qx s.ms h=some (kO enc l)) :
  kH P s ⟨none,o,ty,pos,af,gd⟩ .dead [(h,kO enc (ZZ k v l))] [h]:=by
 refine kH.of fun σ G a w hv hl2 I=>?_
 have hX:=hv x cA
 have hY:=hv y cA
 have hZ:=hv z cA
 rw[hx] at hX;rw[hy] at hY;rw[hz] at hZ
 simp only[qy] at hX hY hZ
 have hY':=rel_kk hY
 have hlk:qx σ.ms h=some (kO enc l):=by grind
 obtain⟨k1,es,e1,e2,e3,e4,e5,e6⟩:=kO_at (I.ms _ _ hlk)
 have hgo:(getObj (G.ρ h).map).run P w=.ok (.map es.toArray es.length) w:=MapKept.run_getObj_map e2
 have hset:∀ o:Obj,(setObj (G.ρ h).map o).run P w=.ok () { w with heap:=w.heap.setIfInBounds (G.ρ h).map o }:=fun o=>MapKept.run_setObj_map o e2
 have hlt:(G.ρ h).map<w.heap.size:=(zS.1 e2).1
 have hkk:∀ e∈es,∃ a,e.key=kkV a:=by
  intro e he
  have:e.key∈es.map (·.key):=zE.2 ⟨e,he,rfl⟩
  grind
 obtain⟨r,hf1,hf2⟩:=run_findK (P:=P) hT k w l es 0 e4
 have hfk:=(run_findKey2 (P:=P) hT k es hkk w).trans hf1
 have fin:∀ (es':List MapEntry),(∀ (i:Nat) (e:MapEntry),es'[i]? =some e->e.born=i)->es'.map (·.key)=(ZZ k v l).map (fun p=>kkV p.1)->qA (G.rd w) ((kvO enc (ZZ k v l)).map (·.2)) (es'.map (·.val))->
   (Instr.mapUpdate t (.map (some (G.ρ h).map)) (kkV k) (a.eval z)).run P w=.ok () { w with heap:=w.heap.setIfInBounds (G.ρ h).map (.map es'.toArray es'.length) }->
   ∃ r w' G',((execOp a.eval ⟨none,o,ty,pos,af,gd⟩).run P w=.ok (.value r) w'\/(execOp a.eval ⟨none,o,ty,pos,af,gd⟩).run P w=.ok .skip w'/\r=undef)/\Stepped G w (qx σ.ms) .dead [(h,kO enc (ZZ k v l))] G' w' r:=by
  intro es' c1 c2 c3 hrun
  have hblk:∀ b,G.γ b≠some h->(w.heap.setIfInBounds (G.ρ h).map (.map es'.toArray es'.length))[b]? =w.heap[b]? :=by grind
  refine⟨undef,{ w with heap:=w.heap.setIfInBounds (G.ρ h).map (.map es'.toArray es'.length) },G,.inr ⟨?_,rfl⟩,?_⟩
  ·rw[he];simp only[execOp,hX.2,hY',qu,hrun,qt,qw]
  have S:=jh (m:=kO enc (ZZ k v l)) (val:=.dead) (r:=undef) I.ctxS (B:=G.ρ h) hlk aU
   (w':={ w with heap:=w.heap.setIfInBounds (G.ρ h).map (.map es'.toArray es'.length) }) Z Z Z ao hblk aB ?_ ak am
  ·rw[Gh.qX] at S;exact S
  rw[Gh.qX]
  have L:(G.rd w).Le (G.rd { w with heap:=w.heap.setIfInBounds (G.ρ h).map (.map es'.toArray es'.length) }):=by
   have:=(kh (G:=G) (w:=w) (h:=h) (B:=G.ρ h) (w':={ w with heap:=w.heap.setIfInBounds (G.ρ h).map (.map es'.toArray es'.length) }) Z Z Z ao hblk).rd
   rwa [Gh.qX] at this
  exact at_kO (es:=es') k1 e1 (by show (w.heap.setIfInBounds (G.ρ h).map _)[(G.ρ h).map]? =_;rw[Array.getElem?_setIfInBounds];simp[hlt]) c1 c2 (qA.mono L _ _ c3)
 cases hi:idxI k 0 l with
 | none=>
  rw[hi] at hf2
  simp only at hf2
  subst hf2
  have s1:=idx_none v hi
  refine fin (es++[{ key:=kkV k,val:=a.eval z,born:=es.length }]) (fun i e h=>?_) (by rw[s1];simp[e4]) (by rw[s1];simp only[kvO,qc,zy,zZ];exact qA.append (by simpa [kvO] using e5) (by simp only[qA];exact⟨_,_,rfl,hZ,rfl⟩)) ?_
  ·grind
  simp only[Instr.mapUpdate,qu,qJ hT.u,qt,hgo,run_checkK hT,hfk,hset]
  simp
 | some j=>
  rw[hi] at hf2
  simp only at hf2
  obtain⟨e0,g1,_,rfl⟩:=hf2
  obtain⟨_,⟨x0,s2,_⟩,s3⟩:=idx_some v hi
  simp only[Nat.sub_zero] at g1 s2 s3
  have hjl:j<es.length:=(List.getElem?_eq_some_iff.1 g1).1
  have hk0:e0.key=kkV k:=by
   have h1:(es.map (·.key))[j]? =some e0.key:=by simp[g1]
   grind
  have ek:(es.modify j fun e=>{ e with key:=kkV k,val:=a.eval z })=es.set j { e0 with key:=kkV k,val:=a.eval z }:=by
   apply List.ext_getElem?
   grind
  refine fin (es.set j { e0 with key:=kkV k,val:=a.eval z }) (fun i e h=>?_) (by rw[s3];simp only[List.map_set,e4]) (by rw[s3];simp only[kvO,List.map_set];exact qA.setAt (by simpa [kvO] using e5) j hZ) ?_
  ·grind
  simp only[Instr.mapUpdate,qu,qJ hT.u,qt,hgo,run_checkK hT,hfk]
  have hkey:((((es.toArray)[j]?).map (·.key)).getD (kkV k))=kkV k:=by grind
  grind [keyStays2,Result.andThen_ok]
theorem B.setK {h:Nat} {l:List (KI×α)} {k:KI} {v:α} (hT:KTy Y t kt et it) (hx:ev1 s x=.mref h) (hy:ev1 s y=.pv (kkP k)) (hz:ev1 s z=.pv (enc v)) (hl:qx s.ms h=some (kO enc l)) :
  Body P Y nb s ⟨none,.mapUpdate t x y z,ty,pos,af,gd⟩ .dead [(h,kO enc (ZZ k v l))] [h]:=.inr (B.setS Z (fun _=>rfl) hT hx hy hz hl)
theorem B.insK {h:Nat} {l:List (KI×α)} {k:KI} {v:α} (hT:KTy Y t kt et it) (hx:ev1 s x=.mref h) (hy:ev1 s y=.pv (kkP k)) (hz:ev1 s z=.pv (enc v)) (hl:qx s.ms h=some (kO enc l)) :
  Body P Y nb s ⟨none,.insert t x y z,ty,pos,af,gd⟩ .dead [(h,kO enc (ZZ k v l))] [h]:=.inr (B.setS (o:=.insert t x y z) Z (fun _=>rfl) hT hx hy hz hl)
theorem run_getK {a:Act} {w:World} {G:Gh} {σ:St} {h:Nat} {l:List (KI×α)} {k:KI} {zv:Value} {zp:PV} {i:TypeInfo} (ok:Bool) (I:Inv G σ.vw a w) (hT:KTy Y t kt et it) (hlk:qx σ.ms h=some (kO enc l)) (hi:Y.info? et=some i) (hz:i.zero=some zv) (hzp:∀ R,qN R zp zv) :
  ∃ rv:Value,(Instr.lookup t (.map (some (G.ρ h).map)) (kkV k) ok).run P w=.ok (if ok then .tuple #[rv,.bool (Zb k l).isSome] else rv) w/\qN (G.rd w) (match Zb k l with|some v=>enc v|none=>zp) rv:=by
 obtain⟨k1,es,e1,e2,e3,e4,e5,e6⟩:=kO_at (I.ms _ _ hlk)
 have hgo:(getObj (G.ρ h).map).run P w=.ok (.map es.toArray es.length) w:=MapKept.run_getObj_map e2
 have hkk:∀ e∈es,∃ a,e.key=kkV a:=by
  intro e he
  have:e.key∈es.map (·.key):=zE.2 ⟨e,he,rfl⟩
  grind
 obtain⟨r,hf1,hf2⟩:=run_findK (P:=P) hT k w l es 0 e4
 have hfk:=(run_findKey2 (P:=P) hT k es hkk w).trans hf1
 have hzr:(zeroValue et).run P w=.ok zv w:=by simp[zeroValue,qu,typeInfo,qL.inf P hi,hz]
 simp only[Instr.lookup,qu,qJ hT.u,qt,hgo,run_checkK hT,hfk,qw]
 cases hq:idxI k 0 l with
 | none=>
  rw[hq] at hf2
  simp only at hf2
  subst hf2
  have s1:=idx_get hq
  simp only[qu,hzr,qt,qw,s1]
  exact⟨zv,rfl,hzp _⟩
 | some j=>
  rw[hq] at hf2
  simp only at hf2
  obtain⟨e0,g1,_,rfl⟩:=hf2
  simp only[Nat.sub_zero] at g1
  cases hl0:l with
  | nil=>rw[hl0] at hq;cases hq
  | cons p0 l0=>
   rw[<-hl0]
   obtain⟨_,⟨x0,s2,s3⟩,_⟩:=idx_some p0.2 hq
   simp only[Nat.sub_zero] at s2
   simp only[qu,qt,qw,s3]
   refine⟨e0.val,rfl,?_⟩
   have hj:j<(List.map (fun p=>p.2) (kvO enc l)).length:=by grind [kvO]
   obtain⟨v',q1,q2⟩:=e5.get j hj
   grind [kvO]
theorem B.getK {h:Nat} {l:List (KI×α)} {k:KI} {zv:Value} {zp:PV} {i:TypeInfo} (hT:KTy Y t kt et it) (hx:ev1 s x=.mref h) (hy:ev1 s y=.pv (kkP k)) (hl:qx s.ms h=some (kO enc l)) (hi:Y.info? et=some i) (hz:i.zero=some zv) (hzp:∀ R,qN R zp zv) :
  Body P Y nb s ⟨dst,.lookup t x y true,ty,pos,af,gd⟩ (.tup [.pv (match Zb k l with|some v=>enc v|none=>zp),lit (.bool (Zb k l).isSome)]) [] [h]:=by
 refine .inr (kH.of fun σ G a w hv hl2 I=>?_)
 have hX:=hv x aS
 have hY:=hv y aS
 rw[hx] at hX;rw[hy] at hY
 simp only[qy] at hX hY
 have hlk:qx σ.ms h=some (kO enc l):=by grind
 obtain⟨rv,hrun,hrel⟩:=run_getK (P:=P) (k:=k) true I hT hlk hi hz hzp
 refine⟨.tuple #[rv,.bool (Zb k l).isSome],w,G,.inl ?_,qH I.ctxS ?_ bW⟩
 ·simp only[execOp,hX.2,rel_kk hY,qu,hrun,qt,qw];rfl
 grind [qy,qC,lit,qN,isLit]
theorem B.getK0 {h:Nat} {l:List (KI×α)} {k:KI} {v:α} {zv:Value} {zp:PV} {i:TypeInfo} (hT:KTy Y t kt et it) (hx:ev1 s x=.mref h) (hy:ev1 s y=.pv (kkP k)) (hl:qx s.ms h=some (kO enc l)) (hi:Y.info? et=some i) (hz:i.zero=some zv) (hzp:∀ R,qN R zp zv) (hg:Zb k l=some v) :
  Body P Y nb s ⟨dst,.lookup t x y false,ty,pos,af,gd⟩ (.pv (enc v)) [] [h]:=by
 refine .inr (kH.of fun σ G a w hv hl2 I=>?_)
 have hX:=hv x aS
 have hY:=hv y aS
 rw[hx] at hX;rw[hy] at hY
 simp only[qy] at hX hY
 have hlk:qx σ.ms h=some (kO enc l):=by grind
 obtain⟨rv,hrun,hrel⟩:=run_getK (P:=P) (k:=k) false I hT hlk hi hz hzp
 rw[hg] at hrel
 refine⟨rv,w,G,.inl ?_,qH I.ctxS ?_ ak⟩
 ·simp only[execOp,hX.2,rel_kk hY,qu,hrun,qt,qw];rfl
 simp only[qy];exact hrel
theorem B.rangeK {hm:Nat} {l:List (KI×α)} {d h:Nat} (hT:KTy Y t kt et it) (hx:ev1 s x=.mref hm) (hl:qx s.ms hm=some (kO enc l)) (hh:nameOf nb s.ms (some d)=h) (hf:jI s.ms h=false) :
  Body P Y nb s ⟨some d,.range t x,ty,pos,af,gd⟩ (.bref h 0) [(h,.miter hm l.length #[])] [hm]:=by
 refine .inr (kH.of fun σ G a w hv hl2 I=>?_)
 have hX:=hv x aS
 rw[hx] at hX
 simp only[qy] at hX
 have hlk:qx σ.ms hm=some (kO enc l):=by grind
 have hln:qx σ.ms h=none:=(hl2 h (.inr ao)).trans (hasM_none hf)
 have hne:hm≠h:=fun e=>by rw[e,hln] at hlk;cases hlk
 obtain⟨k1,es,e1,e2,e3,e4,e5,e6⟩:=kO_at (I.ms _ _ hlk)
 have hgo:(getObj (G.ρ hm).map).run P w=.ok (.map es.toArray es.length) w:=MapKept.run_getObj_map e2
 have hrun:(Instr.range t (.map (some (G.ρ hm).map))).run P w=.ok (.pointer (some ⟨w.heap.size,0,none⟩)) (w.alloc (.mapIter (some (G.ρ hm).map) l.length #[] l.length)):=by
  rw[<-e6]
  simp only[Instr.range,qu,qJ hT.u,qt,hgo,qw,run_newObj];rfl
 refine⟨.pointer (some ⟨w.heap.size,0,none⟩),w.alloc (.mapIter (some (G.ρ hm).map) l.length #[] l.length),_,.inl ?_,j5 (B:={ addr:=some ⟨w.heap.size,0,none⟩ }) I.fresh hln ?_ ?_ ak (by intro k hk;simp[MO.refs] at hk;subst hk;exact .inr ⟨_,hlk⟩)⟩
 ·simp only[execOp,hX.2,qu,hrun,qt,qw]
 ·simp[qy,Gh.new]
 simp only[q7]
 have hρ:(G.new h { addr:=some ⟨w.heap.size,0,none⟩ } w.heap.size).ρ hm=G.ρ hm:=by simp[Gh.new,hne]
 refine⟨by simp[Gh.new],by rw[hρ];exact k1,w.heap.size,by simp[Gh.new],by simp[Gh.new],?_⟩
 rw[hρ]
 exact heap_alloc_new w _
theorem kk_val {G:Gh} {w:World} {l:List (KI×α)} {es:List MapEntry} {i:Nat} {e:MapEntry} {k:KI} {v:α} (e4:es.map (·.key)=l.map (fun p=>kkV p.1)) (e5:qA (G.rd w) ((kvO enc l).map (·.2)) (es.map (·.val))) (he:es[i]? =some e) (hi:l[i]? =some (k,v)) :
  e.key=kkV k/\qN (G.rd w) (enc v) e.val:=by
 constructor
 ·have h1:(es.map (·.key))[i]? =some e.key:=by simp[he]
  rw[e4] at h1
  grind
 have hj:i<(List.map (fun p=>p.2) (kvO enc l)).length:=by simpa [kvO] using (List.getElem?_eq_some_iff.1 hi).1
 obtain⟨v',q1,q2⟩:=e5.get i hj
 grind [kvO]
theorem B.entryK {hm h i:Nat} {l:List (KI×α)} {seen:Array Nat} {k:KI} {v:α} (hx:ev1 s x=.bref h 0) (hl:qx s.ms h=some (.miter hm l.length (seen.push i))) (hm':qx s.ms hm=some (kO enc l)) (hi:l[i]? =some (k,v)) :
  Body P Y nb s ⟨dst,.entry x,ty,pos,af,gd⟩ (.tup [.pv (kkP k),.pv (enc v)]) [] [h,hm]:=by
 refine .inr (kH.of fun σ G a w hv hl2 I=>?_)
 have hX:=hv x aS
 rw[hx] at hX
 simp only[qy] at hX
 obtain⟨_,b,e0,hX⟩:=hX
 have hlk:qx σ.ms h=some (.miter hm l.length (seen.push i)):=by grind
 have hlm:qx σ.ms hm=some (kO enc l):=by grind
 obtain⟨_,_,b',f1,f2,f3⟩:=I.ms _ _ hlk
 obtain⟨k1,es,e1,e2,e3,e4,e5,e6⟩:=kO_at (I.ms _ _ hlm)
 rw[e0] at f1
 simp only[zh,Addr.mk.injEq,and_true] at f1
 subst f1
 have hgo:(getObj (G.ρ hm).map).run P w=.ok (.map es.toArray es.length) w:=MapKept.run_getObj_map e2
 have hgi:(getObj b).run P w=.ok (.mapIter (some (G.ρ hm).map) l.length (seen.push i) l.length) w:=by simp[getObj,Sem.run,f3]
 have hil:i<es.length:=by grind
 have hei:es[i]? =some es[i]:=zm hil
 obtain⟨q1,q2⟩:=kk_val e4 e5 hei hi
 have hfind:es.toArray.find? (·.born==i)=some es[i]:=by
  rw[List.find?_toArray]
  rw[List.find?_eq_some_iff_getElem]
  refine⟨by rw[e3 i _ hei];simp,i,hil,rfl,fun j hj=>?_⟩
  have hjl:j<es.length:=aa
  rw[e3 j _ (zm hjl)]
  simp;omega
 have hrun:(Instr.entry (.pointer (some ⟨b,0,none⟩))).run P w=.ok (.tuple #[kkV k,es[i].val]) w:=by simp only[Instr.entry,qu,hgi,qt,Array.back?_push,hgo,e6,bne_self_eq_false,qp,qr,hfind,qw,q1]
 refine⟨.tuple #[kkV k,es[i].val],w,G,.inl ?_,qH I.ctxS ?_ bc⟩
 ·simp only[execOp,hX,qu,hrun,qt,qw]
 simp only[qy,qC]
 exact⟨_,rfl,_,_,rfl,kk_rel,_,_,rfl,q2,rfl⟩
end
theorem run_nextK {P:Program} {w:World} {b r:Nat} {es:List MapEntry} {seen:Array Nat} {ty:TypeId} (hborn:∀ (i:Nat) (e:MapEntry),es[i]? =some e->e.born=i) (hb:w.heap[b]? =some (.mapIter (some r) es.length seen es.length)) (hr:w.heap[r]? =some (.map es.toArray es.length)) :
  ∃ d,w.drawn<=d/\(((∀ i,i<es.length->i∈seen)/\(Instr.next (.pointer (some ⟨b,0,none⟩)) false ty).run P w=.ok (.tuple #[.bool false]) { w with drawn:=d })\/
   ∃ i e,es[i]? =some e/\i∉seen/\(Instr.next (.pointer (some ⟨b,0,none⟩)) false ty).run P w=.ok (.tuple #[.bool true,e.key,e.val]) { w with heap:=w.heap.setIfInBounds b (.mapIter (some r) es.length (seen.push i) es.length),drawn:=d }):=by
 have hmb:∀ e∈es,es[e.born]? =some e/\e.born<es.length:=by
  intro e he
  obtain⟨j,hj,rfl⟩:=List.getElem_of_mem he
  have:=hborn j _ (zm hj)
  grind
 have hgb:(getObj b).run P w=.ok (.mapIter (some r) es.length seen es.length) w:=by simp only[getObj,Sem.run,hb]
 have hgr:(getObj r).run P w=.ok (.map es.toArray es.length) w:=MapKept.run_getObj_map hr
 have h0:(!seen.isEmpty&&!es.toArray.isEmpty&&es.toArray.all (fun x=>decide (x.born>=es.length)))=false:=by
  cases es with
  | nil=>simp
  | cons p l=>
   grind
 obtain⟨L,hL⟩:∃ L,L=es.toArray.filter (fun e=>!seen.contains e.born):=⟨_,rfl⟩
 have hmem:∀ x∈L,x∈es/\x.born∉seen:=by grind
 have e1:L.filter (fun x=>decide (x.born<es.length))=L:=Array.filter_eq_self.2 (fun x hx=>by simpa using (hmb x (hmem x hx).1).2)
 have e2:L.filter (fun x=>decide (x.born>=es.length))= #[]:=by
  rw[Array.filter_eq_empty_iff]
  grind
 have hnx:(Instr.next (.pointer (some ⟨b,0,none⟩)) false ty).run P w=((choose (.mapNext (((if L.isEmpty then #[none] else #[])++(L++ #[]).map some:Array (Option MapEntry))).size)).run P w).andThen (fun j w1=>
   (match ((if L.isEmpty then #[none] else #[])++(L++ #[]).map some:Array (Option MapEntry))[j]? with
   | some (some e)=>do
    setObj b (.mapIter (some r) es.length (seen.push e.born) es.length)
    pure (Value.tuple #[.bool true,e.key,e.val])
   | some none=>(pure (Value.tuple #[.bool false]):Sem Value)
   | none=>stuck "Next: no such candidate").run P w1):=by
  simp only[Instr.next,qu,hgb,qt,hgr,h0,qp,qr,<-hL,e1,e2]
  rfl
 by_cases hz:L.size=0
 ·have:L= #[]:=Array.eq_empty_of_size_eq_zero hz
  subst this
  refine⟨w.drawn,zB _,.inl ⟨fun i hi=>?_,?_⟩⟩
  ·by_cases hs:i∈seen
   ·exact hs
   exfalso
   have hg:es[i]? =some es[i]:=zm hi
   grind
  rw[hnx]
  simp[run_choose,Question.forced]
 have hne:L.isEmpty=false:=by rw[Array.isEmpty_eq_false_iff];intro e;rw[e] at hz;exact hz rfl
 obtain⟨j,d,hj,hlt,hdd⟩:=run_pick (P:=P) (w:=w) (n:=L.size) aa
 have hx:=Array.getElem_mem hlt
 obtain⟨hm1,hm2⟩:=hmem _ hx
 obtain⟨g1,_⟩:=hmb _ hm1
 refine⟨d,hdd,.inr ⟨L[j].born,L[j],g1,hm2,?_⟩⟩
 rw[hnx]
 simp only[hne,qp,qr,Array.append_empty,Array.empty_append,Array.size_map,hj,qt,Array.getElem?_map,Array.getElem?_eq_getElem hlt,qf]
 simp only[qu,setObj,Sem.run,hb,qt,qw]
section
variable {P:Program} {Y:Tab} [qL P Y] {nb n:Nat} {ops:Array Oper} {s:St} {α:Type} {enc:α->PV}
theorem T.nextK [Fc] {id h hm:Nat} {l:List (KI×α)} {seen:Array Nat} {dst:Option Tmp} {x:Operand} {ty:TypeId} {pos:String} {af:Array Edge} {os:List Oper} {Q:Exit->St->Prop}
  (hops:ops.toList=⟨dst,.next x false,ty,pos,af,none⟩::os) (hda:jo n (.region id ops false)=true) (hx:ev1 s x=.bref h 0)
  (hl:qx s.ms h=some (.miter hm l.length seen)) (hmm:qx s.ms hm=some (kO enc l))
  (hT:∀ i k v,l[i]? =some (k,v)->i∉seen->RG P Y nb ops false os (stp s ⟨dst,.tup [lit (.bool true),.pv (kkP k),.pv (enc v)],[(h,.miter hm l.length (seen.push i))],[h,hm]⟩) [] (fun s'=>Q .normal s'))
  (hF:(∀ i,i<l.length->i∈seen)->RG P Y nb ops false os (stp s ⟨dst,.tup [lit (.bool false)],[],[h,hm]⟩) [] (fun s'=>Q .normal s')):T P n nb (.region id ops false) s Q:=by
 intro G a w R I hn hK
 simp only[jo,zj] at hda
 have hda1:=hda.1
 rw[hops] at hda1
 simp only[List.all_cons,zj] at hda1
 obtain⟨hd0,hds⟩:=hda1
 have hidx:(List.range ops.size).map (fun i=>ops[i]?)=ops.toList.map some:=by
  apply List.ext_getElem?
  grind
 have hsz:ops.size=os.length+1:=by rw[<-qj,hops];rfl
 have hrng:List.range ops.size=0::(List.range os.length).map Nat.succ:=by rw[hsz,List.range_succ_eq_map]
 rw[hops,hrng] at hidx
 simp only[zy,List.cons.injEq] at hidx
 obtain⟨hi0,hidx⟩:=hidx
 refine wpIn_region ?_
 rw[hrng]
 simp only[wpOpsIn,hi0]
 have hX:=ZB I x
 rw[hx] at hX
 simp only[qy] at hX
 obtain⟨_,b,e0,hX⟩:=hX
 obtain⟨ka,kb,b',f1,f2,f3⟩:=I.ms _ _ hl
 obtain⟨k1,es,e1,e2,e3,e4,e5,e6⟩:=kO_at (I.ms _ _ hmm)
 rw[e0] at f1
 simp only[zh,Addr.mk.injEq,and_true] at f1
 subst f1
 have hwant:Region.wanted (⟨dst,.next x false,ty,pos,af,none⟩:Oper) (yielded ops a.tmps)=true:=rfl
 rw[if_pos hwant]
 have pd:∀ v,(a.put dst v).defers=a.defers:=fun v=>by cases dst<;>rfl
 have fin:∀ (e:Ef) (r:Value) (w':World) (G1:Gh),e.dst=dst->Stepped G w (qx s.ms) e.val e.ms G1 w' r->RG P Y nb ops false os (stp s e) [] (fun s'=>Q .normal s')->
   wpOpsIn fcF 0 P ops R ((List.range os.length).map Nat.succ) (a.put dst r) w':=by
  rintro e r w' G1 rfl S ⟨es,hes,_,hq⟩
  obtain⟨I1,Sn1⟩:=I.eff (K:=nb) S e.dst (dstOk_lt hd0 hn)
  refine textR (P:=P) _ hes hidx hds (G:=G1) I1 aP ?_
  intro G2 a2 w2 I2 Sn2 hn2 hd2
  exact hK _ _ _ _ _ hq I2 (Sn1.trans Sn2) hn2 (Mks.of (hd2.trans (pd r)))
 rw[<-e6] at f3
 obtain⟨d,hwd,⟨hall,hrun⟩|⟨i,e,g1,g2,hrun⟩⟩:=run_nextK (P:=P) (ty:=ty) e3 f3 e2
 ·have hex:(execOp a.eval ⟨dst,.next x false,ty,pos,af,none⟩).run P w=.ok (.value (.tuple #[.bool false])) { w with drawn:=d }:=by
   simp only[execOp,hX,qu,hrun,qt,qw]
  refine wpR_of ?_ ao _
  unfold Oper.wp
  rw[hex]
  refine fin ⟨dst,.tup [lit (.bool false)],[],[h,hm]⟩ _ _ G Z ?_ (hF (by rw[<-e6];exact hall))
  have I':Inv G s.vw a { w with drawn:=d }:=I.drew d
  have S:=qH I'.ctxS (val:=.tup [lit (.bool false)]) (r:=.tuple #[.bool false]) (by simp only[qy];exact⟨_,rfl,RelDVs_lits (vs:=[.bool false]) au⟩) bW
  exact { S with later:=⟨S.later.base,S.later.R0,S.later.R0c,S.later.R0m,S.later.os,S.later.tape,S.later.output,S.later.size,S.later.cold,fun _=>hwd⟩ }
 have hil:i<l.length:=by rw[<-e6];exact (List.getElem?_eq_some_iff.1 g1).1
 obtain⟨k,v,hkv⟩:∃ k v,l[i]? =some (k,v):=⟨_,_,zm hil⟩
 obtain⟨q1,q2⟩:=kk_val e4 e5 g1 hkv
 have hex:(execOp a.eval ⟨dst,.next x false,ty,pos,af,none⟩).run P w=.ok (.value (.tuple #[.bool true,kkV k,e.val])) { w with heap:=w.heap.setIfInBounds b (.mapIter (some (G.ρ hm).map) es.length (seen.push i) es.length),drawn:=d }:=by simp only[execOp,hX,qu,hrun,qt,qw,q1]
 refine wpR_of ?_ ao _
 unfold Oper.wp
 rw[hex]
 refine fin ⟨dst,.tup [lit (.bool true),.pv (kkP k),.pv (enc v)],[(h,.miter hm l.length (seen.push i))],[h,hm]⟩ _ _ G Z ?_ (hT i k v hkv g2)
 have hbl:b<w.heap.size:=(zS.1 f3).1
 have hblk:∀ b',G.γ b'≠some h->(w.heap.setIfInBounds b (.mapIter (some (G.ρ hm).map) es.length (seen.push i) es.length))[b']? =w.heap[b']? :=by
  intro b' hb
  rw[Array.getElem?_setIfInBounds,if_neg (fun e=>hb (by rw[<-e];exact f2))]
 have L:(G.rd w).Le (G.rd { w with heap:=w.heap.setIfInBounds b (.mapIter (some (G.ρ hm).map) es.length (seen.push i) es.length),drawn:=d }):=by
  have:=(kh (G:=G) (w:=w) (h:=h) (B:=G.ρ h) (w':={ w with heap:=w.heap.setIfInBounds b (.mapIter (some (G.ρ hm).map) es.length (seen.push i) es.length),drawn:=d }) Z Z Z ao hblk (fun _=>hwd)).rd
  rwa [Gh.qX] at this
 have S:=jh (m:=.miter hm l.length (seen.push i)) (val:=.tup [lit (.bool true),.pv (kkP k),.pv (enc v)]) (r:=.tuple #[.bool true,kkV k,e.val]) I.ctxS (B:=G.ρ h) hl aU
  (w':={ w with heap:=w.heap.setIfInBounds b (.mapIter (some (G.ρ hm).map) es.length (seen.push i) es.length),drawn:=d }) Z Z Z ao hblk ?_ ?_ bW (by intro k hk;simp[MO.refs] at hk;subst hk;exact⟨_,hmm⟩) (fun _=>hwd)
 ·rw[Gh.qX] at S;exact S
 ·rw[Gh.qX]
  simp only[qy,qC]
  exact⟨_,rfl,_,_,rfl,by simp[lit,qy,qN,isLit],_,_,rfl,kk_rel,_,_,rfl,qN.mono L _ _ q2,rfl⟩
 rw[Gh.qX]
 simp only[q7]
 refine⟨ka,kb,b,e0,f2,?_⟩
 show (w.heap.setIfInBounds b _)[b]? =_
 rw[Array.getElem?_setIfInBounds,<-e6];simp[hbl]
end
theorem TK.nextK [Fc] {P:Program} {Y:Tab} [qL P Y] {nb n:Nat} {ops:Array Oper} {s:St} {α:Type} {enc:α->PV} {Q:Exit->St->Prop} {K:List Fr} {id h hm:Nat} {l:List (KI×α)} {seen:Array Nat} {dst:Option Tmp} {x:Operand} {ty:TypeId} {pos:String} {af:Array Edge} {os:List Oper}
  (hops:ops.toList=⟨dst,.next x false,ty,pos,af,none⟩::os) (hda:jo n (.region id ops false)=true) (hx:ev1 s x=.bref h 0)
  (hl:qx s.ms h=some (.miter hm l.length seen)) (hmm:qx s.ms hm=some (kO enc l))
  (hT:∀ i k v,l[i]? =some (k,v)->i∉seen->RG P Y nb ops false os (stp s ⟨dst,.tup [lit (.bool true),.pv (kkP k),.pv (enc v)],[(h,.miter hm l.length (seen.push i))],[h,hm]⟩) [] (PK P n nb Q K .normal))
  (hF:(∀ i,i<l.length->i∈seen)->RG P Y nb ops false os (stp s ⟨dst,.tup [lit (.bool false)],[],[h,hm]⟩) [] (PK P n nb Q K .normal)):TK P n nb Q (.region id ops false) K s:=
 T.nextK (Y:=Y) hops hda hx hl hmm hT hF
theorem TK.moE [Fc] {P:Program} {n nb:Nat} {Q:Exit->St->Prop} {K:List Fr} {c:Code} {tm:List (Nat×DV)} {ms:Na} {h:Nat} {o:MO} {ι:Type} {p:ι->Prop} {o':ι->MO} (hm:qx ms h=some o)
  (ho:∀ (G:Gh) (w:World),q7 G w h o->∃ i,p i/\q7 G w h (o' i)) (hr:∀ i,(o' i).refs=[]) (k:∀ i,p i->TK P n nb Q c K ⟨tm,(h,o' i)::ms⟩):TK P n nb Q c K ⟨tm,ms⟩:=by
 intro G a w R I hn hK
 obtain⟨i,hp,H⟩:=ho G w (I.ms h _ hm)
 have S:=jh (m:=o' i) (val:=.dead) (r:=undef) I.ctxS (B:=G.ρ h) hm aU (w':=w) Z Z Z Z (fun _ _=>rfl) aB cB ak (by rw[hr];simp)
 rw[Gh.qX] at S
 obtain⟨I1,Sn1⟩:=I.eff (s:=⟨tm,ms⟩) (K:=nb) S none ao
 exact k i hp G a w R I1 hn fun e s' G' a' w' hq I' Sn' hn' hm'=>hK e s' G' a' w' hq I' (Sn1.trans Sn') hn' hm'
section
variable [Fc] {P:Program} {n nb:Nat} {Q:Exit->St->Prop} {K:List Fr} {c:Code} {tm:List (Nat×DV)} {ms:Na} {h:Nat}
theorem TK.shutK {R R':List (PV×PV)->Prop} (hm:qx ms h=some (.kmap R)) (hR:∀ kv,R kv->R' kv) (k:TK P n nb Q c K ⟨tm,(h,.kmap R')::ms⟩):TK P n nb Q c K ⟨tm,ms⟩:=
 TK.moE (ι:=Unit) (p:=fun _=>True) (o':=fun _=>.kmap R') hm (fun G w H=>by
  simp only[q7] at H ⊢
  obtain⟨h1,es,kv,h2,h3⟩:=H
  exact⟨(),trivial,h1,es,kv,hR kv h2,h3⟩) (fun _=>rfl) (fun _ _=>k)
theorem TK.openA {R:List (List PV)->Prop} {v sz:Nat} {T:TypeId} (hm:qx ms h=some (.arrK v sz T R)) (k:∀ es,R es->TK P n nb Q c K ⟨tm,(h,.arr v sz T es)::ms⟩):TK P n nb Q c K ⟨tm,ms⟩:=
 TK.moE (o':=fun es=>.arr v sz T es) hm (fun G w H=>by
  simp only[q7] at H ⊢
  obtain⟨es,h2,h3⟩:=H
  exact⟨es,h2,h3⟩) (fun _=>rfl) k
theorem TK.shutA {R:List (List PV)->Prop} {v sz:Nat} {T:TypeId} {es:List (List PV)} (hm:qx ms h=some (.arr v sz T es)) (hR:R es) (k:TK P n nb Q c K ⟨tm,(h,.arrK v sz T R)::ms⟩):TK P n nb Q c K ⟨tm,ms⟩:=
 TK.moE (ι:=Unit) (p:=fun _=>True) (o':=fun _=>.arrK v sz T R) hm (fun G w H=>by
  simp only[q7] at H ⊢
  exact⟨(),trivial,es,hR,H⟩) (fun _=>rfl) (fun _ _=>k)
end
end Go.Lens
end
section
namespace Go.Lens
variable [Lz]
mutual
def DV.ren (g:Nat->Nat):DV->DV
 | .dead=>.dead
 | .nils=>.nils
 | .gd c d=>.gd c (d.ren g)
 | .pv p=>.pv p
 | .bref h c=>.bref (g h) c
 | .aref h v=>.aref (g h) v
 | .atrunc h v k=>.atrunc (g h) v k
 | .eref h v i c=>.eref (g h) v i c
 | .awin h v o n=>.awin (g h) v o n
 | .mref h=>.mref (g h)
 | .agg ds=>.agg (DV.renL g ds)
 | .tup ds=>.tup (DV.renL g ds)
 | .clos f a c=>.clos f (DV.renL g a) (DV.renL g c)
 | .yld h ps asg bd ds=>.yld (g h) ps asg bd (DV.renL g ds)
def DV.renL (g:Nat->Nat):List DV->List DV
 | []=>[]
 | d::ds=>d.ren g::DV.renL g ds
end
def MO.ren (g:Nat->Nat):MO->MO
 | .box T ds=>.box T (DV.renL g ds)
 | .miter hm s n=>.miter (g hm) s n
 | .arr v e T es=>.arr v e T es
 | .map a b=>.map a b
 | .fbox a=>.fbox a
 | .farr v e=>.farr v e
 | .fmap a b=>.fmap a b
 | .siter a p=>.siter a p
 | .obj o=>.obj o
 | .kmap R=>.kmap R
 | .arrK v e T R=>.arrK v e T R
 | .lrec a b=>.lrec a b
 | .kdat P=>.kdat P
 | .gone=>.gone
def renM (g:Nat->Nat) (l:Na):Na:=l.map fun p=>(g p.1,p.2.ren g)
def Gh.ren (G:Gh) (g g':Nat->Nat):Gh:={ G with ρ:=fun x=>G.ρ (g x),γ:=fun b=>(G.γ b).map g' }
mutual
theorem ren_refs (g:Nat->Nat):∀ d:DV,(d.ren g).refs=d.refs.map g
 | .dead| .nils| .pv _=>rfl
 | .gd c d=>by simp only[DV.ren,DV.refs];exact ren_refs g d
 | .bref h c| .aref h v| .atrunc h v k| .eref h v i c| .awin h v o n| .mref h=>rfl
 | .agg ds| .tup ds=>by simp only[DV.ren,DV.refs];exact Qf g ds
 | .clos f a c=>by simp only[DV.ren,DV.refs,Qf g a,Qf g c,qc]
 | .yld h ps asg bd ds=>by simp only[DV.ren,DV.refs,Qf g ds,zy]
theorem Qf (g:Nat->Nat):∀ ds:List DV,DV.qO (DV.renL g ds)=(DV.qO ds).map g
 | []=>rfl
 | d::ds=>by simp only[DV.renL,DV.qO,ren_refs g d,Qf g ds,qc]
end
theorem mo_refs (g:Nat->Nat) (o:MO):(o.ren g).refs=o.refs.map g:=by cases o<;>simp[MO.ren,MO.refs,Qf]
section
variable {G:Gh} {g g':Nat->Nat} {w:World}
mutual
theorem RelDV_ren {R:Rd}:∀ (d:DV) (v:Value),qy (G.ren g g') R d v↔qy G R (d.ren g) v
 | .dead,_=>by simp only[DV.ren,qy]
 | .nils,_=>by simp only[DV.ren,qy]
 | .pv _,_=>by simp only[DV.ren,qy]
 | .gd c d,v=>by simp only[DV.ren,qy,RelDV_ren d v]
 | .bref h c,_=>by simp only[DV.ren,qy,Gh.ren]
 | .aref h c,_=>by simp only[DV.ren,qy,Gh.ren]
 | .atrunc h c k,_=>by simp only[DV.ren,qy,Gh.ren]
 | .eref h c i k,_=>by simp only[DV.ren,qy,Gh.ren]
 | .awin h c i k,_=>by simp only[DV.ren,qy,Gh.ren]
 | .mref h,_=>by simp only[DV.ren,qy,Gh.ren]
 | .agg ds,v=>by simp only[DV.ren,qy,kF ds]
 | .tup ds,v=>by simp only[DV.ren,qy,kF ds]
 | .clos f a c,v=>by simp only[DV.ren,qy,kF a,kF c]
 | .yld h ps asg bd ds,v=>by simp only[DV.ren,qy,kF ds];rfl
theorem kF {R:Rd}:∀ (ds:List DV) (vs:List Value),qC (G.ren g g') R ds vs↔qC G R (DV.renL g ds) vs
 | [],_=>by simp only[DV.renL,qC]
 | d::ds,vs=>by
  simp only[DV.renL,qC]
  constructor
  ·rintro⟨v,vs',h1,h2,h3⟩;exact⟨v,vs',h1,(RelDV_ren d v).1 h2,(kF ds vs').1 h3⟩
  rintro⟨v,vs',h1,h2,h3⟩;exact⟨v,vs',h1,(RelDV_ren d v).2 h2,(kF ds vs').2 h3⟩
end
theorem ren_rd:(G.ren g g').rd w=G.rd w:=by
 unfold Gh.rd Gh.ren
 simp only[Option.map_eq_none_iff]
variable (h1:∀ x,g' (g x)=x) (h2:∀ x,g (g' x)=x)
include h1 h2
theorem jD {b h:Nat}:(G.ren g g').γ b=some h↔G.γ b=some (g h):=by
 simp only[Gh.ren,Option.map_eq_some_iff]
 grind
theorem ZM {b:Nat}:(G.ren g g').γ b=none↔G.γ b=none:=by simp[Gh.ren]
theorem RelMO_ren {h:Nat}:∀ (o:MO),q7 (G.ren g g') w h o↔q7 G w (g h) (o.ren g)
 | .box T ds=>by simp only[MO.ren,q7,ren_rd,kF,jD h1 h2];rfl
 | .miter hm s n=>by simp only[MO.ren,q7,jD h1 h2];rfl
 | .arr v e T es=>by simp only[MO.ren,q7,ren_rd,jD h1 h2];rfl
 | .map a b=>by simp only[MO.ren,q7,ren_rd,jD h1 h2];rfl
 | .fbox a=>by simp only[MO.ren,q7,ren_rd];rfl
 | .farr v e=>by simp only[MO.ren,q7,ren_rd];rfl
 | .fmap a b=>by simp only[MO.ren,q7,ren_rd];rfl
 | .siter a p=>by simp only[MO.ren,q7,jD h1 h2];rfl
 | .obj o=>by simp only[MO.ren,q7,jD h1 h2];rfl
 | .kmap R=>by simp only[MO.ren,q7,ren_rd,jD h1 h2];rfl
 | .arrK v e T R=>by simp only[MO.ren,q7,ren_rd,jD h1 h2];rfl
 | .lrec a b=>by simp only[MO.ren,q7,jD h1 h2];rfl
 | .kdat P=>by simp only[MO.ren,q7,ren_rd,jD h1 h2];rfl
 | .gone=>by simp only[MO.ren,q7]
theorem look_ren (h:Nat):∀ l:Na,qx (renM g l) (g h)=(qx l h).map (MO.ren g)
 | []=>rfl
 | (k,o)::l=>by
  show qx ((g k,o.ren g)::renM g l) (g h)=_
  rw[qF,qF,look_ren h l]
  grind
theorem look_ren' {k:Nat} {o:MO} {l:Na} (h:qx (renM g l) k=some o):∃ o0,qx l (g' k)=some o0/\o=o0.ren g:=by
 rw[<-h2 k,look_ren h1 h2] at h
 obtain⟨o0,e,rfl⟩:=Option.map_eq_some_iff.1 h
 exact⟨o0,e,rfl⟩
theorem qD.ren {P:Program} {f:FuncId} {ds:List DV} {l out:Na} {val:DV} (H:qD P f ds (qx l) val out):qD P f (DV.renL g ds) (qx (renM g l)) (val.ren g) (renM g out):=by
 have hnm:∀ h,h∈(renM g out).map (·.1)↔g' h∈out.map (·.1):=by
  intro h
  simp only[renM,List.map_map,zE,Function.comp]
  grind
 have hlk:∀ h,(∃ o,qx l (g' h)=some o)->∃ o,qx (renM g l) h=some o:=by
  rintro h ⟨o,e⟩
  exact⟨o.ren g,by rw[<-h2 h,look_ren h1 h2,e];rfl⟩
 refine⟨fun h hh=>?_,fun G w vs M hv=>?_⟩
 ·rw[Qf] at hh
  obtain⟨h0,e0,rfl⟩:=zE.1 hh
  obtain⟨o,e⟩:=H.refs h0 e0
  exact⟨o.ren g,by rw[look_ren h1 h2,e];rfl⟩
 have M0:Z4 (G.ren g g') (qx l) w:=by
  refine⟨fun h o e=>(RelMO_ren h1 h2 o).2 (M.ms (g h) _ (by rw[look_ren h1 h2,e];rfl)),fun b h e=>M.fresh b _ ((jD h1 h2).1 e),fun b h e=>?_,fun k o h e hh=>?_,fun b o v hb hv=>?_,fun r es hb hv=>?_,M.baseLe,fun b o e=>?_⟩
  ·obtain⟨o,e1⟩:=M.own b _ ((jD h1 h2).1 e)
   obtain⟨o0,e2,_⟩:=look_ren' h1 h2 e1
   grind
  ·obtain⟨o1,e1⟩:=M.refsM (g k) (o.ren g) (g h) (by rw[look_ren h1 h2,e];rfl) (by rw[mo_refs];exact zE.2 ⟨h,hh,rfl⟩)
   obtain⟨o0,e2,_⟩:=look_ren' h1 h2 e1
   grind
  ·obtain⟨q1,q2⟩:=M.r0 b o v hb hv;exact⟨(ZM h1 h2).2 q1,q2⟩
  ·obtain⟨q1,q2⟩:=M.r0m r es hb hv;exact⟨(ZM h1 h2).2 q1,q2⟩
  obtain⟨q1,q2⟩:=M.laid b o e;exact⟨(ZM h1 h2).2 q1,q2⟩
 refine (H.call (G.ren g g') w vs M0 (by rw[ren_rd];exact (kF ds _).2 hv)).mono ?_
 rintro r w' ⟨G1,S⟩
 obtain⟨G2,hG⟩:∃ G2:Gh,G2.ren g g'=G1:=⟨G1.ren g' g,by
  obtain⟨b,R0,ρ,γ⟩:=G1
  simp only[Gh.ren,Gh.mk.injEq,true_and]
  refine⟨funext fun x=>by rw[h1],funext fun b=>?_⟩
  cases γ b with
  | none=>rfl
  | some x=>simp[h1]⟩
 subst hG
 refine⟨G2,⟨⟨S.later.base,S.later.R0,fun b o v hb hv=>?_,fun r' es hb hv=>?_,S.later.os,S.later.tape,S.later.output,S.later.size,fun b hb hg=>?_,S.later.drawn⟩,?_,fun h o hh=>?_,fun h o e=>?_,fun h hh=>⟨?_,fun b hb=>?_⟩,fun b h e=>?_,fun b h e=>?_,fun h hh=>?_,fun k o hk h hh=>?_,fun b h e=>?_,fun b o v hb hv=>?_,fun r' es hb hv=>?_⟩⟩
 ·exact (S.later.R0c b o v hb hv).imp id (fun q e=>q ((ZM h1 h2).2 e))
 ·exact (S.later.R0m r' es hb hv).imp id (fun q e=>q ((ZM h1 h2).2 e))
 ·obtain⟨q1,q2⟩:=S.later.cold b hb ((ZM h1 h2).2 hg);exact⟨q1,(ZM h1 h2).1 q2⟩
 ·have:=(RelDV_ren val r).1 S.hval;rwa [ren_rd] at this
 ·simp only[renM,zE] at hh
  obtain⟨p,hp,e⟩:=hh
  simp only[zx] at e
  obtain⟨rfl,rfl⟩:=e
  exact (RelMO_ren h1 h2 p.2).1 (S.hms p.1 p.2 hp)
 ·obtain⟨o0,e2,_⟩:=look_ren' h1 h2 e
  have:=S.keeps _ _ e2
  grind [Gh.keeps,Gh.ren]
 ·have:=(S.old (g' h) (fun q=>hh ((hnm h).2 q))).1
  simp only[Gh.ren,h2] at this
  exact this
 ·obtain⟨q1,q2⟩:=(S.old (g' h) (fun q=>hh ((hnm h).2 q))).2 b ((jD h1 h2).2 (by rw[h2];exact hb))
  rw[jD h1 h2,h2] at q1
  exact⟨q1,q2⟩
 ·exact S.fresh b (g' h) ((jD h1 h2).2 (by rw[h2];exact e))
 ·rcases S.own b (g' h) ((jD h1 h2).2 (by rw[h2];exact e)) with q|q
  ·exact .inl ((hnm h).2 q)
  grind [jD]
 ·rw[ren_refs] at hh
  obtain⟨h0,e0,rfl⟩:=zE.1 hh
  rcases S.refs h0 e0 with q|⟨o,q⟩
  ·grind
  exact .inr ⟨o.ren g,by rw[look_ren h1 h2,q];rfl⟩
 ·simp only[renM,zE] at hk
  obtain⟨p,hp,e⟩:=hk
  simp only[zx] at e
  obtain⟨rfl,rfl⟩:=e
  rw[mo_refs] at hh
  obtain⟨h0,e0,rfl⟩:=zE.1 hh
  rcases S.refsM p.1 p.2 hp h0 e0 with q|⟨o,q⟩
  ·grind
  exact .inr ⟨o.ren g,by rw[look_ren h1 h2,q];rfl⟩
 ·rcases S.newb b (g' h) ((jD h1 h2).2 (by rw[h2];exact e)) with q|q
  ·grind [jD]
  exact .inr q
 ·exact (S.r0 b o v hb hv).imp id (fun q=>⟨(ZM h1 h2).1 q.1,q.2⟩)
 exact (S.r0m r' es hb hv).imp id (fun q=>⟨(ZM h1 h2).1 q.1,q.2⟩)
end
def swp (a b x:Nat):Nat:=if x=a then b else if x=b then a else x
theorem swp_swp (a b x:Nat):swp a b (swp a b x)=x:=by
 unfold swp
 grind
theorem swp_l (a b:Nat):swp a b a=b:=by simp[swp]
theorem swp_o {a b x:Nat} (h1:x≠a) (h2:x≠b):swp a b x=x:=by simp[swp,h1,h2]
def r1 (x a t:Nat):Nat:=swp x a t
def r2 (x y a b t:Nat):Nat:=swp (r1 x a y) b (r1 x a t)
def r3 (x y z a b c t:Nat):Nat:=swp (r2 x y a b z) c (r2 x y a b t)
def r2' (x y a b t:Nat):Nat:=r1 x a (swp (r1 x a y) b t)
def r3' (x y z a b c t:Nat):Nat:=r2' x y a b (swp (r2 x y a b z) c t)
section
variable {x y z a b c t u:Nat}
theorem r1_l (x a t:Nat):r1 x a (r1 x a t)=t:=swp_swp ..
theorem r2_l (x y a b t:Nat):r2' x y a b (r2 x y a b t)=t:=by unfold r2 r2';rw[swp_swp,r1_l]
theorem r2_r (x y a b t:Nat):r2 x y a b (r2' x y a b t)=t:=by unfold r2 r2';rw[r1_l,swp_swp]
theorem r3_l (x y z a b c t:Nat):r3' x y z a b c (r3 x y z a b c t)=t:=by unfold r3 r3';rw[swp_swp,r2_l]
theorem r3_r (x y z a b c t:Nat):r3 x y z a b c (r3' x y z a b c t)=t:=by unfold r3 r3';rw[r2_r,swp_swp]
theorem r1_inj (e:r1 x a t=r1 x a u):t=u:=by grind [r1_l]
theorem r2_inj (e:r2 x y a b t=r2 x y a b u):t=u:=by grind [r2_l]
theorem r1_1 (x a:Nat):r1 x a x=a:=swp_l ..
theorem r2_1 (hx:x≠y) (h:a≠b):r2 x y a b x=a:=by
 unfold r2;rw[r1_1]
 exact swp_o (fun e=>hx (r1_inj ((r1_1 x a).trans e))) h
theorem r2_2 (x y a b:Nat):r2 x y a b y=b:=by unfold r2;exact swp_l ..
theorem r3_1 (hx:x≠y) (hz:x≠z) (h:a≠b) (hc:a≠c):r3 x y z a b c x=a:=by
 unfold r3;rw[r2_1 hx h]
 exact swp_o (fun e=>hz (r2_inj ((r2_1 hx h).trans e))) hc
theorem r3_2 (hz:y≠z) (hc:b≠c):r3 x y z a b c y=b:=by
 unfold r3;rw[r2_2]
 exact swp_o (fun e=>hz (r2_inj ((r2_2 x y a b).trans e))) hc
theorem r3_3 (x y z a b c:Nat):r3 x y z a b c z=c:=by unfold r3;exact swp_l ..
theorem qD.r1 {P:Program} {f:FuncId} {ds:List DV} {l out:Na} {val:DV} (x a:Nat) (H:qD P f ds (qx l) val out):qD P f (DV.renL (r1 x a) ds) (qx (renM (r1 x a) l)) (val.ren (r1 x a)) (renM (r1 x a) out):=qD.ren (r1_l x a) (r1_l x a) H
theorem qD.r2 {P:Program} {f:FuncId} {ds:List DV} {l out:Na} {val:DV} (x y a b:Nat) (H:qD P f ds (qx l) val out):qD P f (DV.renL (r2 x y a b) ds) (qx (renM (r2 x y a b) l)) (val.ren (r2 x y a b)) (renM (r2 x y a b) out):=qD.ren (r2_l x y a b) (r2_r x y a b) H
theorem qD.r3 {P:Program} {f:FuncId} {ds:List DV} {l out:Na} {val:DV} (x y z a b c:Nat) (H:qD P f ds (qx l) val out):qD P f (DV.renL (r3 x y z a b c) ds) (qx (renM (r3 x y z a b c) l)) (val.ren (r3 x y z a b c)) (renM (r3 x y z a b c) out):=qD.ren (r3_l x y z a b c) (r3_r x y z a b c) H
end
end Go.Lens
end
section
namespace Go.Lens.Tb
open Go.Proofs Go.Lens.Un
variable [Lz]
attribute [local irreducible] TK PK T RG EfR Body CG
abbrev eK (k:KI):List PV:=[pI (Prod.fst k),pI (Prod.snd k)]
def cmp3 (x y:Int):Int:=if x<y then -1 else if y<x then 1 else 0
def ordI (a b:KI):Int:=qM [cmp3 (a.1+a.2) (b.1+b.2),cmp3 b.1 a.1]
def KS (a:KI):Prop:=0<=a.1/\0<=a.2/\a.1+a.2<=1000
section
variable {x y:Int} {l:List Int} {k:Nat}
theorem c3_1 (h:x<y): -1=cmp3 x y:=by unfold cmp3;rw[if_pos h]
theorem c3_2 (h:¬x<y) (g:y<x):1=cmp3 x y:=by unfold cmp3;rw[if_neg h,if_pos g]
theorem c3_3 (h:¬x<y) (g:¬y<x):0=cmp3 x y:=by unfold cmp3;rw[if_neg h,if_neg g]
theorem fi_step (h:qM l=qM (l.drop k)) (hk:k<l.length) (h0:¬l.getD k 0≠0):qM l=qM (l.drop (k+1)):=by
 rw[h,drop_at l k 0 hk,qM,if_pos (zi.1 h0)]
theorem fi_at (h:qM l=qM (l.drop k)) (hk:k<l.length) (h0:l.getD k 0≠0):l.getD k 0=qM l:=by
 rw[h,drop_at l k 0 hk,qM,if_neg h0]
theorem fi_end (h:qM l=qM (l.drop k)) (hk:¬(k:Int)<(l.length:Int)):0=qM l:=by
 rw[h,zV aa];rfl
end
theorem qY:tab.underlying 148=some (.slice 3):=ae
theorem w268 (x:Int):CKa 190 [vI x] (vB false):=by
 exact cG qf190 Z (nB Z) Z (Rt Z (lF Z (lb (by exact zk (fun h=>h Z)))))
theorem w224 (x y:Int):CKa 147 [vI x,vI y] (vI (cmp3 x y)):=by
 refine cG qf147 Z (nB Z) Z (C Z (w268 x) Z Z Z (C Z (w268 y) Z Z Z (CF Z Z (CF Z Z (Cp Z Z (fun h1=>?_) (fun h1=>?_))))))
 ·exact Rt Z (lF Z (li cC))
 refine Cp Z Z (fun h2=>?_) (fun h2=>?_)
 ·exact Rt Z (lF Z (li cC))
 exact Rt Z (lF Z (li cC))
theorem w223 (l:List Int) (hl:l.length<=1000):CKa 146 [vL eI l] (vI (qM l)):=by
 refine cG qf146 Z (nB Z) Z (E Z (B.jp Z qY) (l1 (fun (k:Nat)=>[(3,vI 0),(6,vL eI l),(7,vI (l.length:Int)),(8,vI (k:Int))]) (fun _=>[]) (fun k=>k<=l.length/\qM l=qM (List.drop k l)) (fun k=>l.length-k) 0 Z ?_ (sb Z Z Z) ?_))
 · exact⟨zt _,rfl⟩
 intro k hI0
 refine Cp Z Z (fun h1=>?_) (fun h1=>?_)
 ·refine E Z (B.idx (z:=0) Z Z qY sz3 (fun _=>rfl) Z aa) (Cp Z Z (fun h2=>?_) (fun h2=>?_))
  ·exact Rt Z (lF Z (li cD))
  refine E Z (B.add Z Z bg) (pk Z (L1 (k+1) ?_ ?_ (sb Z Z Z)))
  · exact⟨aa,fi_step hI0.2 aa ab⟩
  · omega
 exact Rt Z (lF Z (li cD))
theorem w170 (a b:KI) (ha:KS a) (hb:KS b):CKa 105 [.pv (.agg [pI (Prod.fst a),pI (Prod.snd a)]),.pv (.agg [pI (Prod.fst b),pI (Prod.snd b)])] (vI (ordI a b)):=by
 exact cG qf105 Z (nB Z) Z (E Z (B.run Z) (E Z (B.run Z) (E Z (B.add Z Z cE) (E Z (B.run Z) (E Z (B.run Z) (E Z (B.add Z Z cE) (C Z (w224 ((Prod.fst a)+(Prod.snd a)) ((Prod.fst b)+(Prod.snd b))) Z Z Z (E Z (B.run Z) (E Z (B.run Z) (C Z (w224 (Prod.fst b) (Prod.fst a)) Z Z Z (E Z (B.zA (es:=List.map eI [(cmp3 ((Prod.fst a)+(Prod.snd a)) ((Prod.fst b)+(Prod.snd b))),(cmp3 (Prod.fst b) (Prod.fst a))]) Z) (C Z (w223 [(cmp3 ((Prod.fst a)+(Prod.snd a)) ((Prod.fst b)+(Prod.snd b))),(cmp3 (Prod.fst b) (Prod.fst a))] (nB Z)) Z Z Z (Dr Z ae (Rt Z (lF Z (li bz))))))))))))))))
end Go.Lens.Tb
end
section
namespace Go.Lens.Tb
open Go.Proofs Go.Lens.Un
variable [Lz] [Dn]
attribute [local irreducible] TK PK T RG EfR Body CG
open Un Un.R
section
variable {x y:List Nat} {i:Nat} {c z n:Int} {w:List Int}
theorem wh_len (h:WhI z n w) (hz:R64 z):w.length<=3:=by
 obtain⟨o,rfl,h⟩:=h
 have h1:(dig K9 z.natAbs).length<=3:=ji jx (by unfold R64 at hz;have:K9 ^ 3=1000000000000000000000000000:=ah;omega)
 rw[<-h,za] at h1
 rw[qG];omega
theorem wh_len0 (hz:R64 z):(dig K9 z.natAbs).length<=3:=ji jx (by
  unfold R64 at hz
  have:K9 ^ 3=1000000000000000000000000000:=ah
  omega)
theorem tm_r (n:Int): -1000000000<n.tmod 1000000000/\n.tmod 1000000000<1000000000:=by
 have:=abs_tmod n
 have h2:n.natAbs%K9<K9:=Nat.mod_lt _ ah
 have:K9=1000000000:=rfl
 omega
theorem td_r (hz:R64 n): -9223372036854775807<=n.tdiv 1000000000/\n.tdiv 1000000000<=9223372036854775807:=by
 have e:=abs_tdiv n
 have h2:n.natAbs / K9<=n.natAbs / 2:=Nat.div_le_div_left ah ah
 unfold R64 at*
 exact⟨aa,aa⟩
theorem ad_i (h:K9 ^ i<=val K9 x+val K9 y) (hx:Dg K9 x) (hy:Dg K9 y):i<=x.length+y.length:=by
 have h1:=jR hx
 have h2:=jR hy
 rcases Nat.lt_or_ge (x.length+y.length) i with hi|hi
 ·have a1:K9 ^ x.length<=K9 ^ (x.length+y.length):=Nat.pow_le_pow_right ah aa
  have a2:K9 ^ y.length<=K9 ^ (x.length+y.length):=Nat.pow_le_pow_right ah aa
  have a3:K9 ^ (x.length+y.length+1)<=K9 ^ i:=Nat.pow_le_pow_right ah hi
  rw[Nat.pow_succ] at a3
  have a4:K9 ^ (x.length+y.length)*2<=K9 ^ (x.length+y.length)*K9:=Nat.mul_le_mul_left _ ah
  omega
 exact hi
theorem wh_lt (h:n≠0):(n.tdiv 1000000000).natAbs<n.natAbs:=by
 rw[abs_tdiv];exact Nat.div_lt_self aa ah
theorem dg_0 (h:¬(i:Int)<(((iL x).length:Nat):Int)):0=(iL x).getD i 0:=by
 rw[ze,qg aa];rfl
theorem ad_g (h:AdI x y i c w) (h1:(bif (bif decide ((i:Int)<(((iL x).length:Nat):Int)) then true else decide ((i:Int)<(((iL y).length:Nat):Int))) then true else decide (0<c))=true) (hnx:Nz x) (hny:Nz y) (hx:Dg K9 x) (hy:Dg K9 y):K9 ^ i<=val K9 x+val K9 y:=by
 rw[qG,qG] at h1
 refine ad_big h hnx hny hx hy ?_
 by_cases a:(i:Int)<(x.length:Int)
 ·exact .inl aa
 by_cases b:(i:Int)<(y.length:Int)
 ·exact .inr (.inl aa)
 rw[zk a,zk b] at h1
 exact .inr (.inr (of_decide_eq_true h1))
theorem ad_f (h:AdI x y i c w) (h1:(bif (bif decide ((i:Int)<(((iL x).length:Nat):Int)) then true else decide ((i:Int)<(((iL y).length:Nat):Int))) then true else decide (0<c))=false):w=iL (dig K9 (val K9 x+val K9 y)):=by
 rw[qG,qG] at h1
 by_cases a:(i:Int)<(x.length:Int)
 ·rw[zl a] at h1;cases h1
 by_cases b:(i:Int)<(y.length:Int)
 ·rw[zk a,zl b] at h1;cases h1
 rw[zk a,zk b] at h1
 exact ad_end h a b (of_decide_eq_false h1)
end
theorem sg_1 {b:Bool} {x:List Nat}:DV.pv (.agg [pB (bif b then decide (0<(((iL (dig K9 (val K9 x))).length:Nat):Int)) else false),.slice (List.map eI (iL (dig K9 (val K9 x))))]) =
  .pv (.agg [pB (decide (sgn b (val K9 x)<0)),.slice (List.map eI (iL (dig K9 (Int.natAbs (sgn b (val K9 x))))))]):=by
 rw[Un.R.sgn_abs,Un.R.ZG,qG]
 have e:decide (0<(((dig K9 (val K9 x)).length:Nat):Int))=decide (0<val K9 x):=decide_eq_decide.2 (by rw[<-Qa];omega)
 rw[e]
 cases b<;>rfl
theorem tr_p {p q:Prop} [Decidable p] [Decidable q] (h:(bif decide p then decide q else false)=true):p/\q:=by
 cases h1:decide p with
 | true=>rw[h1] at h;exact⟨of_decide_eq_true h1,of_decide_eq_true h⟩
 | false=>rw[h1] at h;cases h
theorem tr_q {p q:Prop} [Decidable p] [Decidable q] (h:(bif decide p then decide q else false)=false) (hp:p):¬q:=by
 rw[zl hp] at h;exact of_decide_eq_false h
theorem by3:ty3.info.bytes=8:=ae
theorem in3:tab.info? 3=some ty3.info:=ae
theorem w259 (x:List Nat) (hx:Dg K9 x) (hl:x.length<=1000000000):CKa 184 [vL eI (iL x)] (vL eI (iL (dig K9 (val K9 x)))):=by
 refine cG qf184 Z (nB Z) Z (E Z (B.ZH (enc:=eI) Z) (l1 (fun (w:List Int)=>[(0,vL eI w)]) (fun _=>[]) (fun w=>TrI x w) (fun w=>w.length) (iL x) Z ?_ (sb Z Z Z) ?_))
 · exact tr_init
 intro w hI0
 have hwl:=tr_len hI0
 refine E Z (B.jp Z qY) ?_
 refine Em Z Z Z Z ?_
 refine Em Z Z Z Z ?_
 refine Eg Z Z (fun hc=>B.jp (qz Z hc) qY) Z (Eg Z Z (fun hc=>B.sub (qz Z hc) Z bg) Z (Eg Z Z (fun hc=>B.idx (z:=0) (i:=(w.length-1)) (qz Z hc) (qz Z hc) qY sz3 (fun _=>rfl) cF cF) Z (Eg Z Z (fun hc=>B.loadP (qz Z hc) ag3 sz3) Z (Eg Z Z (fun hc=>B.eql (qz Z hc) Z) Z (E Z (B.pA Z Z Z Z Z) (Cb Z Z (fun h1=>?_) (fun h1=>?_)))))))
 ·have h1a:=(tr_p h1).1
  have h1b:=(tr_p h1).2
  refine E Z (B.jp Z qY) (E Z (B.sub Z Z bg) (E Z (B.slT (j:=(w.length-1)) Z Z qY sz3 cF cF) (pk Z (L1 (List.take (w.length-1) w) ?_ ?_ (sb Z Z Z)))))
  · exact tr_next hI0 aa h1b
  · (rw[zn];omega)
 exact Rt Z (lF Z (lsl (by exact tr_end hI0 hx (fun h0=>tr_q h1 aa))))
theorem w215 (b:Bool) (x:List Nat) (hx:Dg K9 x) (hl:x.length<=1000000000):CKa 135 [vB b,vL eI (iL x)] (.pv (.agg [pB (decide ((sgn b (val K9 x))<0)),pL eI (iL (dig K9 (Int.natAbs (sgn b (val K9 x)))))])):=by
 refine cG qf135 Z (nB Z) Z (E Z (B.bN Z Z) (C Z (w259 x ab aa) Z Z Z ?_))
 refine Em Z Z Z Z ?_
 exact Eg Z Z (fun hc=>B.jp (qz Z hc) qY) Z (Eg Z Z (fun hc=>B.gtr (qz Z hc) Z) Z (E Z (B.pA Z Z Z Z Z) (E Z (B.run (val:=.pv (.agg [pB (bif b then (decide (0<(((iL (dig K9 (val K9 x))).length:Nat):Int))) else false),pL eI (iL (dig K9 (val K9 x)))])) (m:=[]) (rd:=[]) ae) (Rt Z (lF Z (by exact sg_1))))))
theorem w215s (z:Int) (hz:R64 z):CKa 135 [vB (decide (z<0)),vL eI (iL (dig K9 (Int.natAbs z)))] (.pv (.agg [pB (decide (z<0)),.slice (List.map eI (iL (dig K9 (Int.natAbs z))))])):=by
 have h:=w215 (decide (z<0)) (dig K9 z.natAbs) (jg jx _) (qh (wh_len0 hz) ah)
 rw[qR jx,Un.R.sgn_self] at h
 exact h
theorem w153 (z:Int) (hz:R64 z):CKa 89 [vI z] (.pv (.agg [pB (decide (z<0)),pL eI (iL (dig K9 (Int.natAbs z)))])):=by
 refine cG qf89 Z (nB Z) Z (E Z (B.bN Z Z) (E Z (B.adopt 4 1 3 Z Z) (l3 (fun (n:Int) (w:List Int) (v:Nat)=>[(0,vI n),(2,.bref 3 0),(3,.aref 4 v),(4,vB (decide (z<0)))]) (fun _ w v=>[(3,.box 150 [vB false,vL eI []]),(4,.arr v 1 3 (List.map eI w))]) (fun n w _=>WhI z n w/\R64 n) (fun n _ _=>Int.natAbs n) z [] 0 Z ?_ (sb Z Z Z) ?_)))
 · exact⟨wh_init z,hz⟩
 intro n w v hI0
 have hnl:=wh_len hI0.1 hz
 have hq1:=tm_r n
 have hq2:=td_r hI0.2
 have hq3: -9223372036854775808<=n/\n<9223372036854775808:=hI0.2
 refine Cp Z Z (fun h1=>?_) (fun h1=>?_)
 ·refine E Z (B.rem Z Z cg) (Cp Z Z (fun h2=>?_) (fun h2=>?_))
  ·refine E Z (B.sub Z Z bg) (E Z (B.zA (es:=List.map eI [(0-(Int.tmod n 1000000000))]) Z) (E Z (B.append Z Z Z qY in3 Z (fun _=>rfl) by3 cg) (E Z (B.quo Z Z ⟨cg,bg⟩) (pk Z (L3 (Int.tdiv n 1000000000) (w++[(0-(Int.tmod n 1000000000))]) (v+1) ?_ ?_ (sb Z Z Z))))))
   · (exact⟨wh_next hI0.1 h1 aa,by unfold R64;omega⟩)
   · exact wh_lt h1
  refine E Z (B.zA (es:=List.map eI [(Int.tmod n 1000000000)]) Z) (E Z (B.append Z Z Z qY in3 Z (fun _=>rfl) by3 cg) (E Z (B.quo Z Z ⟨cg,bg⟩) (pk Z (L3 (Int.tdiv n 1000000000) (w++[(Int.tmod n 1000000000)]) (v+1) ?_ ?_ (sb Z Z Z)))))
  · (exact⟨wh_next hI0.1 h1 aa,by unfold R64;omega⟩)
  · exact wh_lt h1
 obtain rfl:n=0:=zi.1 h1
 have hwe:=wh_end hI0.1
 subst hwe
 exact Fz 9 3 Z Z Z (C Z (w215s z hz) Z Z Z (Rt Z (lF Z bz)))
theorem w261 (x:List Nat) (i:Nat):CKa 220 [vL eI (iL x),vI (i:Int)] (vI (List.getD (iL x) i 0)):=by
 refine cG qf220 Z (nB Z) Z (E Z (B.jp Z qY) (Cp Z Z (fun h1=>?_) (fun h1=>?_)))
 ·exact E Z (B.idx (z:=0) Z Z qY sz3 (fun _=>rfl) Z aa) (Rt Z (leaf Z Z))
 exact Rt Z (lF Z (li (by first|rfl|exact dg_0 h1)))
theorem w218 (x y:List Nat) (hx:Dg K9 x) (hy:Dg K9 y) (hxl:x.length<=1000000) (hyl:y.length<=1000000) (hnx:Nz x) (hny:Nz y):CKa 181 [vL eI (iL x),vL eI (iL y)] (vL eI (iL (dig K9 ((val K9 x)+(val K9 y))))):=by
 refine cG qf181 Z (nB Z) Z (E Z (B.ZH (enc:=eI) Z) (E Z (B.adopt 6 1 3 Z Z) (l4 (fun (i:Nat) (c:Int) (w:List Int) (v:Nat)=>[(0,vL eI (iL x)),(1,vL eI (iL y)),(5,.aref 6 v),(6,vI c),(7,vI (i:Int))]) (fun _ _ w v=>[(6,.arr v 1 3 (List.map eI w))]) (fun i c w _=>AdI x y i c w/\i<=x.length+y.length+1) (fun i _ _ _=>x.length+y.length+2-i) 0 0 [] 0 Z ?_ (sb Z Z Z) ?_)))
 · exact⟨ad_init,aa⟩
 intro i c w v hI0
 have hc1:=ad_c hI0.1
 have hxi:=Zg hx i
 have hyi:=Zg hy i
 have hlx:=qG (l:=x)
 have hly:=qG (l:=y)
 refine E Z (B.jp Z qY) ?_
 refine Em Z Z Z Z ?_
 refine Em Z Z Z Z ?_
 refine Eg Z Z (fun hc=>B.jp (qz Z hc) qY) Z (Eg Z Z (fun hc=>B.lss (qz Z hc) (qz Z hc)) Z (E Z (B.pO Z Z Z Z Z) ?_))
 refine Em Z Z Z Z ?_
 refine Eg Z Z (fun hc=>B.gtr (qz Z hc) Z) Z (E Z (B.pO Z Z Z Z Z) (Cb Z Z (fun h1=>?_) (fun h1=>?_)))
 ·have hbg:=ad_g hI0.1 h1 hnx hny hx hy
  have hbi:=ad_i hbg hx hy
  refine C Z (w261 x i) Z Z Z (C Z (w261 y i) Z Z Z (E Z (B.add Z Z bg) (E Z (B.add Z Z bg) (E Z (B.remN Z Z cF ah) (E Z (B.zA (es:=List.map eI [((((List.getD (iL x) i 0)+(List.getD (iL y) i 0))+c)%1000000000)]) Z) (E Z (B.append Z Z Z qY in3 Z (fun _=>rfl) by3 cF) (E Z (B.quoN Z Z cF ah bg) (E Z (B.add Z Z bg) (pk Z (L4 (i+1) ((((List.getD (iL x) i 0)+(List.getD (iL y) i 0))+c) / 1000000000) (w++[((((List.getD (iL x) i 0)+(List.getD (iL y) i 0))+c)%1000000000)]) (v+1) ?_ ?_ (sb Z Z Z)))))))))))
  · exact⟨ad_next hI0.1 hx hy hbg,aa⟩
  · omega
 exact Fz 9 5 Z Z Z (Rt Z (lF Z (lsl (by exact ad_f hI0.1 h1))))
theorem w259w {w:List Int} {n:Nat} (h:∃ o,w=iL o/\Dg K9 o/\val K9 o=n) (hl:w.length<=1000000000):CKa 184 [vL eI w] (vL eI (iL (dig K9 n))):=by
 obtain⟨o,rfl,h1,rfl⟩:=h
 exact w259 o h1 (by rw[qG] at hl;exact hl)
abbrev C9I (m n:Nat) (i:Int):Prop:= -1<=i/\i<(dig K9 m).length/\(dig K9 m).length=(dig K9 n).length/\(dig K9 m).drop (i+1).toNat=(dig K9 n).drop (i+1).toNat
section
variable {m n:Nat} {i:Int}
theorem c9_0 (h:¬(((iL (dig K9 m)).length:Nat):Int)≠(((iL (dig K9 n)).length:Nat):Int)):C9I m n ((((iL (dig K9 m)).length:Nat):Int)-1):=by grind [qG,List.drop_of_length_le]
theorem c9_1 (h:C9I m n i) (h2:0<=i) (h3:¬(iL (dig K9 m)).getD i.toNat 0<(iL (dig K9 n)).getD i.toNat 0) (h4:¬(iL (dig K9 n)).getD i.toNat 0<(iL (dig K9 m)).getD i.toNat 0):C9I m n (i-1):=by
 obtain⟨a,b,c,d⟩:=h
 rw[jQ,jQ] at h3 h4
 refine⟨aa,aa,c,?_⟩
 rw[show (i-1+1).toNat=i.toNat by omega,drop_cons (show i.toNat<(dig K9 m).length by omega),drop_cons (show i.toNat<(dig K9 n).length by omega),show i.toNat+1=(i+1).toNat by omega,d]
 congr 1
 omega
theorem c9_a (h:(((iL (dig K9 m)).length:Nat):Int)<(((iL (dig K9 n)).length:Nat):Int)):(-1:Int)=cmpN m n:=by
 rw[qG,qG] at h
 exact (cmp_lt' (ZV jx aa)).symm
theorem c9_b (h:(((iL (dig K9 m)).length:Nat):Int)≠(((iL (dig K9 n)).length:Nat):Int)) (h2:¬(((iL (dig K9 m)).length:Nat):Int)<(((iL (dig K9 n)).length:Nat):Int)):(1:Int)=cmpN m n:=by
 rw[qG,qG] at h h2
 exact (cmp_gt' (ZV jx aa)).symm
theorem c9_c (h:C9I m n i) (h2:0<=i) (h3:(iL (dig K9 m)).getD i.toNat 0<(iL (dig K9 n)).getD i.toNat 0):(-1:Int)=cmpN m n:=by
 obtain⟨a,b,c,d⟩:=h
 rw[jQ,jQ] at h3
 have:=cmp_lt (β:=K9) (k:=i.toNat) (jg jx m) aa c be aa
 rw[qR jx,qR jx] at this
 exact (cmp_lt' this).symm
theorem c9_d (h:C9I m n i) (h2:0<=i) (h3:(iL (dig K9 n)).getD i.toNat 0<(iL (dig K9 m)).getD i.toNat 0):(1:Int)=cmpN m n:=by
 obtain⟨a,b,c,d⟩:=h
 rw[jQ,jQ] at h3
 have:=cmp_lt (β:=K9) (k:=i.toNat) (jg jx n) aa c.symm bf aa
 rw[qR jx,qR jx] at this
 exact (cmp_gt' this).symm
theorem c9_e (h:C9I m n i) (h2:¬0<=i):(0:Int)=cmpN m n:=by
 obtain⟨a,b,c,d⟩:=h
 rw[show (i+1).toNat=0 by omega,List.drop_zero,List.drop_zero] at d
 have:m=n:=by rw[<-qR jx m,<-qR jx n,d]
 grind [cmpN]
end
def MuO (x y:List Nat) (i:Nat) (w:List Int):Prop:=∃ o,w=iL o/\MulO K9 x y i o
def MuN (x y:List Nat) (i j:Nat) (w:List Int) (c:Int):Prop:=∃ (o:List Nat) (d:Nat),w=iL o/\c=(d:Int)/\MulN K9 x y i j o d
section
variable {x y:List Nat} {i j:Nat} {w:List Int} {c:Int}
theorem mo_init:MuO x y 0 (List.replicate ((iL x).length+(iL y).length) 0):=⟨_,by rw[qG,qG,iL_rep],mul_init jx⟩
theorem mu_in (h:MuO x y i w):MuN x y i 0 w 0:=by
 obtain⟨o,rfl,h⟩:=h
 exact⟨o,0,rfl,rfl,mul_in jx h⟩
theorem mo_l (h:MuO x y i w):w.length=x.length+y.length:=by
 obtain⟨o,rfl,h⟩:=h
 rw[qG];exact h.1
theorem mu_l (h:MuN x y i j w c):w.length=x.length+y.length:=by
 obtain⟨o,d,rfl,rfl,h⟩:=h
 rw[qG];exact h.1
theorem mu_c (h:MuN x y i j w c):0<=c/\c<1000000000:=by
 obtain⟨o,d,rfl,rfl,h⟩:=h
 have:=h.2.2.1
 grind
theorem mu_g (h:MuN x y i j w c) (k:Nat):0<=w.getD k 0/\w.getD k 0<1000000000:=by
 obtain⟨o,d,rfl,rfl,h⟩:=h
 exact Zg h.2.1 k
theorem mu_p {a b:Int} (ha:0<=a/\a<1000000000) (hb:0<=b/\b<1000000000):0<=a*b/\a*b<=999999999*999999999:=
 ⟨Int.mul_nonneg ha.1 hb.1,Int.mul_le_mul aa aa hb.1 ah⟩
theorem mu_0 (h:MuN x y i j w c):w.getD (i+(iL y).length) 0=0:=by
 obtain⟨o,d,rfl,rfl,h⟩:=h
 rw[jQ,qG,h.2.2.2.2 _ (zB _)];rfl
theorem mu_next (h:MuN x y i j w c) (hx:Dg K9 x) (hy:Dg K9 y) (hi:i<x.length) (hj:j<y.length) :
  MuN x y i (j+1) (w.set (i+j) ((w.getD (i+j) 0+(iL x).getD i 0*(iL y).getD j 0+c)%1000000000)) ((w.getD (i+j) 0+(iL x).getD i 0*(iL y).getD j 0+c) / 1000000000):=by
 obtain⟨o,d,rfl,rfl,h⟩:=h
 have e:(iL o).getD (i+j) 0+(iL x).getD i 0*(iL y).getD j 0+(d:Int)=((x.getD i 0*y.getD j 0+o.getD (i+j) 0+d:Nat):Int):=by grind [jQ,Int.natCast_add,Int.natCast_mul]
 rw[e]
 refine⟨_,_,?_,?_,mul_next jx h hx hy hi hj⟩
 ·rw[<-iL_set];rfl
 rfl
theorem mo_next (h:MuN x y i j w c) (hi:i<x.length) (hj:¬j<y.length) (hj2:j<=y.length):MuO x y (i+1) (w.set (i+(iL y).length) (w.getD (i+(iL y).length) 0+c)):=by
 rw[mu_0 h,Int.zero_add]
 obtain⟨o,d,rfl,rfl,h⟩:=h
 exact⟨_,by rw[qG,iL_set],mul_out jx h hi hj hj2⟩
theorem mu_end (h:MuO x y i w) (hi:¬i<x.length):∃ o,w=iL o/\Dg K9 o/\val K9 o=val K9 x*val K9 y:=by
 obtain⟨o,rfl,h⟩:=h
 obtain⟨h1,h2⟩:=mul_end h hi
 exact⟨o,rfl,h1,h2⟩
end
theorem w220 (x y:List Nat) (hx:Dg K9 x) (hy:Dg K9 y) (hxl:x.length<=1000000) (hyl:y.length<=1000000) (hyx:y.length<=x.length) (hv:val K9 y<=val K9 x):CKa 183 [vL eI (iL x),vL eI (iL y)] (vL eI (iL (dig K9 ((val K9 x)-(val K9 y))))):=by
 refine cG qf183 Z (nB Z) Z (E Z (B.ZH (enc:=eI) Z) (E Z (B.adopt 6 1 3 Z Z) (l4 (fun (i:Nat) (b:Int) (w:List Int) (v:Nat)=>[(0,vL eI (iL x)),(1,vL eI (iL y)),(5,.aref 6 v),(6,vI b),(7,vI (i:Int))]) (fun _ _ w v=>[(6,.arr v 1 3 (List.map eI w))]) (fun i b w _=>SuI x y i b w/\i<=x.length) (fun i _ _ _=>x.length-i) 0 0 [] 0 Z ?_ (sb Z Z Z) ?_)))
 · exact⟨su_init,aa⟩
 intro i b w v hI0
 have hc1:=su_b hI0.1
 have hxi:=Zg hx i
 have hyi:=Zg hy i
 have hlx:=qG (l:=x)
 have hly:=qG (l:=y)
 refine E Z (B.jp Z qY) (Cp Z Z (fun h1=>?_) (fun h1=>?_))
 ·refine E Z (B.idx (z:=0) Z Z qY sz3 (fun _=>rfl) Z cg) (C Z (w261 y i) Z Z Z (E Z (B.sub Z Z bg) (E Z (B.sub Z Z bg) (Dr Z ae (Cp Z Z (fun h2=>?_) (fun h2=>?_))))))
  ·refine E Z (B.add Z Z bg) (E Z (B.zA (es:=List.map eI [((((List.getD (iL x) i 0)-(List.getD (iL y) i 0))-b)+1000000000)]) Z) (E Z (B.append Z Z Z qY in3 Z (fun _=>rfl) by3 cg) (E Z (B.add Z Z bg) (pk Z (L4 (i+1) 1 (w++[((((List.getD (iL x) i 0)-(List.getD (iL y) i 0))-b)+1000000000)]) (v+1) ?_ ?_ (sb Z Z Z))))))
   · first|exact⟨su_1 hI0.1 hx hy ab,aa⟩|exact⟨su_2 hI0.1 hx hy ab,aa⟩
   · omega
  refine E Z (B.zA (es:=List.map eI [(((List.getD (iL x) i 0)-(List.getD (iL y) i 0))-b)]) Z) (E Z (B.append Z Z Z qY in3 Z (fun _=>rfl) by3 cg) (E Z (B.add Z Z bg) (pk Z (L4 (i+1) 0 (w++[(((List.getD (iL x) i 0)-(List.getD (iL y) i 0))-b)]) (v+1) ?_ ?_ (sb Z Z Z)))))
  · first|exact⟨su_1 hI0.1 hx hy ab,aa⟩|exact⟨su_2 hI0.1 hx hy ab,aa⟩
  · omega
 have hw:=su_end hI0.1 aa hyx hv
 have hwl:w.length<=1000000000:=aa
 exact Fz 12 5 Z Z Z (C Z (w259w hw hwl) Z Z Z (Rt Z (lF Z (lsl bz))))
theorem w219 (m n:Nat) (hm:(dig K9 m).length<=1000000000000) (hn:(dig K9 n).length<=1000000000000):CKa 182 [vL eI (iL (dig K9 m)),vL eI (iL (dig K9 n))] (vI (cmpN m n)):=by
 refine cG qf182 Z (nB Z) Z (E Z (B.jp Z qY) (E Z (B.jp Z qY) (Cp Z Z (fun h1=>?_) (fun h1=>?_))))
 ·refine E Z (B.jp Z qY) (E Z (B.jp Z qY) (Cp Z Z (fun h2=>?_) (fun h2=>?_)))
  ·exact Rt Z (lF Z (li cH))
  exact Rt Z (lF Z (li cH))
 have hlx:=qG (l:=dig K9 m)
 have hly:=qG (l:=dig K9 n)
 refine E Z (B.jp Z qY) (E Z (B.sub Z Z bg) (l1 (fun (i:Int)=>[(0,vL eI (iL (dig K9 m))),(1,vL eI (iL (dig K9 n))),(5,vI i)]) (fun _=>[]) (fun i=>C9I m n i) (fun i=>Int.toNat (i+1)) (((iL (dig K9 m)).length:Int)-1) Z ?_ (sb Z Z Z) ?_))
 · exact c9_0 h1
 intro i hI0
 have hc1:=hI0.1
 have hc2:=hI0.2.1
 have hc3:=hI0.2.2.1
 have hlx:=qG (l:=dig K9 m)
 have hly:=qG (l:=dig K9 n)
 refine Cp Z Z (fun h3=>?_) (fun h3=>?_)
 ·refine E Z (B.idx (z:=0) Z Z qY sz3 (fun _=>rfl) (Int.toNat_of_nonneg cI).symm cI) (E Z (B.idx (z:=0) Z Z qY sz3 (fun _=>rfl) (Int.toNat_of_nonneg cI).symm cI) (Dr Z ae (Cp Z Z (fun h4=>?_) (fun h4=>?_))))
  ·exact Rt Z (lF Z (li cH))
  refine E Z (B.idx (z:=0) Z Z qY sz3 (fun _=>rfl) (Int.toNat_of_nonneg cI).symm cI) (E Z (B.idx (z:=0) Z Z qY sz3 (fun _=>rfl) (Int.toNat_of_nonneg cI).symm cI) (Dr Z ae (Cp Z Z (fun h5=>?_) (fun h5=>?_))))
  ·exact Rt Z (lF Z (li cH))
  refine E Z (B.sub Z Z bg) (pk Z (L1 (i-1) ?_ ?_ (sb Z Z Z)))
  · exact c9_1 hI0 h3 h4 h5
  · omega
 exact Rt Z (lF Z (li cH))
theorem w221 (x y:List Nat) (hx:Dg K9 x) (hy:Dg K9 y) (hxl:x.length<=1000000) (hyl:y.length<=1000000):CKa 180 [vL eI (iL x),vL eI (iL y)] (vL eI (iL (dig K9 ((val K9 x)*(val K9 y))))):=by
 refine cG qf180 Z (nB Z) Z (E Z (B.ZH (enc:=eI) Z) ?_)
 have hlx:=qG (l:=x)
 have hly:=qG (l:=y)
 refine E Z (B.jp Z qY) (E Z (B.jp Z qY) (E Z (B.add Z Z bg) (E Z (B.makeSV (enc:=eI) (sz:=1) (z0:=0) (n:=((iL x).length+(iL y).length)) (m:=((iL x).length+(iL y).length)) Z Z aa aa qY in3 Z Z Z by3 cJ Z Z) (l2 (fun (i:Nat) (out:List Int)=>[(0,vL eI (iL x)),(1,vL eI (iL y)),(5,.aref 16 0),(6,vI (i:Int))]) (fun _ out=>[(16,.arr 0 1 3 (List.map eI out))]) (fun i out=>i<=x.length/\MuO x y i out) (fun i _=>x.length-i) 0 (List.replicate ((iL x).length+(iL y).length) 0) Z ?_ (sb Z Z Z) ?_))))
 · exact⟨zt _,mo_init⟩
 intro i out hI0
 have hlx:=qG (l:=x)
 have hly:=qG (l:=y)
 refine E Z (B.jp Z qY) (Cp Z Z (fun h1=>?_) (fun h1=>?_))
 ·refine l3 (fun (j:Nat) (c:Int) (w:List Int)=>[(0,vL eI (iL x)),(1,vL eI (iL y)),(5,.aref 16 0),(6,vI (i:Int)),(7,vI c),(8,vI (j:Int))]) (fun _ _ w=>[(16,.arr 0 1 3 (List.map eI w))]) (fun j c w=>j<=y.length/\MuN x y i j w c) (fun j _ _=>y.length-j) 0 0 out Z ?_ (sb Z Z Z) ?_
  · exact⟨zt _,mu_in hI0.2⟩
  intro j c w hI1
  refine E Z (B.jp Z qY) (Cp Z Z (fun h2=>?_) (fun h2=>?_))
  ·have hxi:=Zg hx i
   have hyj:=Zg hy j
   have hwk:=mu_g hI1.2 (i+j)
   have hcc:=mu_c hI1.2
   have hpr:=mu_p hxi hyj
   have hwz:=mu_l hI1.2
   refine E Z (B.add Z Z bg) (E Z (B.ZO (n:=(i+j)) Z Z Z qY sz3 aa cJ) (E Z (B.loadE (z0:=0) Z Z ag3 sz3 cJ Z) (E Z (B.idx (z:=0) Z Z qY sz3 (fun _=>rfl) Z cJ) (E Z (B.idx (z:=0) Z Z qY sz3 (fun _=>rfl) Z cJ) (E Z (B.mul Z Z bg) (E Z (B.add Z Z bg) (E Z (B.add Z Z bg) (Dr Z ae ?_))))))))
   have hwz:=mu_l hI1.2
   refine E Z (B.add Z Z bg) (E Z (B.remN Z Z cJ ah) (E Z (B.ZO (n:=(i+j)) Z Z Z qY sz3 aa cJ) (E Z (B.setE (z0:=((((w.getD (i+j) 0)+((List.getD (iL x) i 0)*(List.getD (iL y) j 0)))+c)%1000000000)) Z Z Z Z Z sz3 cJ (fun _=>rfl)) (E Z (B.quoN Z Z cJ ah bg) (E Z (B.add Z Z bg) (pk Z (L3 (j+1) ((((w.getD (i+j) 0)+((List.getD (iL x) i 0)*(List.getD (iL y) j 0)))+c) / 1000000000) (List.set w (i+j) ((((w.getD (i+j) 0)+((List.getD (iL x) i 0)*(List.getD (iL y) j 0)))+c)%1000000000)) ?_ ?_ (sb Z Z Z))))))))
   · exact⟨aa,mu_next hI1.2 hx hy aa aa⟩
   · omega
  have hwz:=mu_l hI1.2
  have hw0:=mu_0 hI1.2
  have hcc:=mu_c hI1.2
  refine E Z (B.jp Z qY) (E Z (B.add Z Z bg) (E Z (B.jp Z qY) (E Z (B.add Z Z bg) (E Z (B.ZO (n:=(i+(iL y).length)) Z Z Z qY sz3 aa cJ) (E Z (B.loadE (z0:=0) Z Z ag3 sz3 cJ Z) (E Z (B.add Z Z bg) (E Z (B.ZO (n:=(i+(iL y).length)) Z Z Z qY sz3 aa cJ) (E Z (B.setE (z0:=((w.getD (i+(iL y).length) 0)+c)) Z Z Z Z Z sz3 cJ (fun _=>rfl)) (E Z (B.add Z Z bg) (pk Z (L2 (i+1) (List.set w (i+(iL y).length) ((w.getD (i+(iL y).length) 0)+c)) ?_ ?_ (sb Z Z Z))))))))))))
  · exact⟨aa,mo_next hI1.2 aa aa hI1.1⟩
  · omega
 have hw:=mu_end hI0.2 aa
 have hwl:out.length<=1000000000:=by have:=mo_l hI0.2;omega
 exact Fz 13 5 Z Z Z (C Z (w259w hw hwl) Z Z Z (Rt Z (lF Z (lsl bz))))
end Go.Lens.Tb
end
section
namespace Go.Lens.Un.R
abbrev b9:Int:=1000000000
def vI:List Int->Int
 | []=>0
 | x::l=>x+b9*vI l
theorem vI_iL:∀ l:List Nat,vI (iL l)=((val K9 l:Nat):Int)
 | []=>rfl
 | x::l=>by
  show (x:Int)+b9*vI (iL l)=_
  rw[vI_iL l,val,Int.natCast_add,Int.natCast_mul];rfl
theorem vI_set:∀ {w:List Int} {k:Nat} (x:Int),k<w.length->vI (w.set k x)=vI w+b9 ^ k*(x-w.getD k 0)
 | [],k,x,h=>by cases h
 | y::w,0,x,h=>by
  simp only[List.set_cons_zero,vI,List.getD_cons_zero,Int.pow_zero,Int.one_mul];omega
 | y::w,k+1,x,h=>by
  simp only[List.set_cons_succ,vI,List.getD_cons_succ,Int.pow_succ]
  rw[vI_set x ai]
  generalize b9=b at*
  grind
def DI (w:List Int):Prop:=∀ k,0<=w.getD k 0/\w.getD k 0<1000000000
theorem DI_iL {l:List Nat} (h:Dg K9 l):DI (iL l):=fun k=>Zg h k
theorem jX {w:List Int} {k i:Nat} {x:Int} (h:k≠i):(w.set k x).getD i 0=w.getD i 0:=by grind
theorem DI_nat:∀ {w:List Int},DI w->∃ o,w=iL o/\Dg K9 o
 | [],_=>⟨[],rfl,dg_nil _⟩
 | x::w,h=>by
  obtain⟨o,e,ho⟩:=DI_nat (w:=w) fun k=>by have:=h (k+1);simpa using this
  have h0:=h 0
  simp only[List.getD_cons_zero] at h0
  refine⟨x.toNat::o,?_,fun y hy=>?_⟩
  ·show x::w=(x.toNat:Int)::iL o
   rw[<-e,Int.toNat_of_nonneg h0.1]
  rcases zF.1 hy with rfl|hy
  ·grind
  exact ho y hy
theorem vI_cut:∀ {w:List Int} {m:Nat},(∀ k,k<m->0<=w.getD k 0/\w.getD k 0<1000000000)->(∀ k,m<k->w.getD k 0=0)->∃ X,0<=X/\X<b9 ^ m/\vI w=X+b9 ^ m*w.getD m 0
 | [],m,_,_=>⟨0,aa,Int.pow_pos ah,by simp[vI]⟩
 | x::w,0,_,h=>⟨0,aa,ah,by
   have hz:∀ (w:List Int),(∀ k,w.getD k 0=0)->vI w=0:=by
    intro w
    induction w with
    | nil=>intro _;rfl
    | cons y w ih=>
     intro h
     have h0:=h 0
     simp only[List.getD_cons_zero] at h0
     rw[vI,ih (fun k=>by have:=h (k+1);simpa using this),h0];rfl
   have:=hz w (fun k=>by have:=h (k+1) aa;simpa using this)
   rw[vI,this];simp⟩
 | x::w,m+1,h,g=>by
  obtain⟨X,h1,h2,h3⟩:=vI_cut (w:=w) (m:=m) (fun k hk=>by have:=h (k+1) aa;simpa using this) (fun k hk=>by have:=g (k+1) aa;simpa using this)
  have h0:=h 0 aa
  simp only[List.getD_cons_zero] at h0
  refine⟨x+b9*X,?_,?_,?_⟩
  ·have:0<=b9*X:=Int.mul_nonneg ah h1
   omega
  ·rw[Int.pow_succ]
   have:b9*(X+1)<=b9*b9 ^ m:=Int.mul_le_mul_of_nonneg_left aa ah
   have e:b9 ^ m*b9=b9*b9 ^ m:=Int.mul_comm _ _
   have e2:b9*(X+1)=b9*X+b9:=by rw[Int.mul_add,Int.mul_one]
   have e3:b9=1000000000:=rfl
   omega
  simp only[vI,List.getD_cons_succ,Int.pow_succ]
  rw[h3]
  generalize b9=b at*
  grind
structure SbI (v:List Nat) (un:List Nat) (t:Int) (j n:Nat) (i:Nat) (c:Int) (w:List Int):Prop where
 len:w.length=un.length
 dig:DI w
 c0:0<=c
 c1:c<=1000000000
 le:i<=n
 eq:vI w=vI (iL un)-b9 ^ j*(t*((val K9 (v.take i):Nat):Int))+c*b9 ^ (j+i)
 up:∀ k,j+i<=k->w.getD k 0=(iL un).getD k 0
section
variable {v un:List Nat} {t:Int} {j n i:Nat} {c p:Int} {w:List Int}
theorem sb_init (hu:Dg K9 un):SbI v un t j n 0 0 (iL un):=
 ⟨by rw[qG],DI_iL hu,aa,aa,aa,by simp[val],fun _ _=>rfl⟩
theorem sb_gen {e:Int} (h:SbI v un t j n i c w) (hi:i<n) (hl:j+i<un.length) (hp:p=t*(iL v).getD i 0+c) (hc0:0<=p / 1000000000+e) (hc1:p / 1000000000+e<=1000000000)
  (hx0:0<=w.getD (i+j) 0-p%1000000000+e*1000000000) (hx1:w.getD (i+j) 0-p%1000000000+e*1000000000<1000000000) :
  SbI v un t j n (i+1) (p / 1000000000+e) (w.set (i+j) (w.getD (i+j) 0-p%1000000000+e*1000000000)):=by
 have hk:i+j=j+i:=Nat.add_comm ..
 rw[hk] at hx0 hx1 ⊢
 refine⟨by rw[List.length_set];exact h.len,fun k=>?_,hc0,hc1,aa,?_,fun k hk=>?_⟩
 ·by_cases hk:j+i=k
  ·grind
  rw[jX hk];exact h.dig k
 ·rw[vI_set _ (by rw[h.len];exact hl),h.eq,je,<-Nat.add_assoc,Int.pow_succ,Int.natCast_add,Int.natCast_mul,Int.natCast_pow]
  have d:=Int.emod_add_mul_ediv p 1000000000
  rw[jQ] at hp
  grind
 rw[jX aa];exact h.up k aa
theorem sb_p (h:SbI v un t j n i c w) (ht:0<=t/\t<1000000000) (hv:Dg K9 v):0<=t*(iL v).getD i 0/\t*(iL v).getD i 0<=999999999*999999999:=by
 have hx:=Zg hv i
 exact⟨Int.mul_nonneg ht.1 hx.1,Int.mul_le_mul aa aa hx.1 ah⟩
theorem sb_1 (h:SbI v un t j n i c w) (ht:0<=t/\t<1000000000) (hv:Dg K9 v) (hi:i<n) (hl:j+i<un.length) (hn:w.getD (i+j) 0-(t*(iL v).getD i 0+c)%1000000000<0) :
  SbI v un t j n (i+1) ((t*(iL v).getD i 0+c) / 1000000000+1) (w.set (i+j) (w.getD (i+j) 0-(t*(iL v).getD i 0+c)%1000000000+1000000000)):=by
 have h1:=sb_p h ht hv
 have h2:=h.c0
 have h3:=h.c1
 have h4:=h.dig (i+j)
 have:=sb_gen (e:=1) h hi hl Z aa aa aa aa
 grind
theorem sb_2 (h:SbI v un t j n i c w) (ht:0<=t/\t<1000000000) (hv:Dg K9 v) (hi:i<n) (hl:j+i<un.length) (hn:¬w.getD (i+j) 0-(t*(iL v).getD i 0+c)%1000000000<0) :
  SbI v un t j n (i+1) ((t*(iL v).getD i 0+c) / 1000000000) (w.set (i+j) (w.getD (i+j) 0-(t*(iL v).getD i 0+c)%1000000000)):=by
 have h1:=sb_p h ht hv
 have h2:=h.c0
 have h3:=h.c1
 have h4:=h.dig (i+j)
 have:=sb_gen (e:=0) h hi hl Z aa aa aa aa
 grind
end
structure MdI (v:List Nat) (un:List Nat) (t:Int) (j n:Nat) (w:List Int):Prop where
 len:w.length=un.length
 dig:∀ k,k≠j+n->0<=w.getD k 0/\w.getD k 0<1000000000
 top:w.getD (j+n) 0<1000000000
 low: -1000000000<=w.getD (j+n) 0
 eq:vI w=vI (iL un)-b9 ^ j*(t*((val K9 v:Nat):Int))
 up:∀ k,j+n<k->w.getD k 0=(iL un).getD k 0
section
variable {v un:List Nat} {t:Int} {j n i:Nat} {c p:Int} {w:List Int}
theorem md_of (h:SbI v un t j n i c w) (hi:¬i<n) (hn:v.length=n) (hl:j+n<un.length):MdI v un t j n (w.set (j+n) (w.getD (j+n) 0-c)):=by
 have e:i=n:=by have:=h.le;omega
 subst e
 have h1:=h.dig (j+i)
 have h2:=h.c0
 have h3:=h.c1
 refine⟨by rw[List.length_set];exact h.len,fun k hk=>?_,?_,?_,?_,fun k hk=>?_⟩
 ·rw[jX aa];exact h.dig k
 ·grind
 ·grind
 ·rw[vI_set _ (by rw[h.len];exact hl),h.eq,zz aa]
  generalize b9=b at*
  grind
 rw[jX aa];exact h.up k aa
end
structure AbI (v:List Nat) (w1:List Int) (j n:Nat) (i:Nat) (d:Int) (w:List Int):Prop where
 len:w.length=w1.length
 dig:∀ k,k≠j+n->0<=w.getD k 0/\w.getD k 0<1000000000
 d0:0<=d
 d1:d<=1
 le:i<=n
 eq:vI w=vI w1+b9 ^ j*((val K9 (v.take i):Nat):Int)-d*b9 ^ (j+i)
 up:∀ k,j+i<=k->w.getD k 0=w1.getD k 0
section
variable {v un:List Nat} {w1:List Int} {t:Int} {j n i:Nat} {d p:Int} {w:List Int}
theorem ab_init (h:MdI v un t j n w1):AbI v w1 j n 0 0 w1:=
 ⟨rfl,h.dig,aa,aa,aa,by simp[val],fun _ _=>rfl⟩
theorem ab_next (h:AbI v w1 j n i d w) (hv:Dg K9 v) (hi:i<n) (hl:j+n<w1.length) :
  AbI v w1 j n (i+1) ((w.getD (i+j) 0+(iL v).getD i 0+d) / 1000000000) (w.set (i+j) ((w.getD (i+j) 0+(iL v).getD i 0+d)%1000000000)):=by
 have hk:i+j=j+i:=Nat.add_comm ..
 rw[hk]
 have h1:=h.dig (j+i) aa
 have h2:=Zg hv i
 have h3:=h.d0
 have h4:=h.d1
 refine⟨by rw[List.length_set];exact h.len,fun k hk=>?_,aa,aa,aa,?_,fun k hk=>?_⟩
 ·by_cases hk2:j+i=k
  ·grind
  rw[jX hk2];exact h.dig k hk
 ·rw[vI_set _ (by rw[h.len];omega),h.eq,je,<-Nat.add_assoc,Int.pow_succ,Int.natCast_add,Int.natCast_mul,Int.natCast_pow]
  have q:=Int.emod_add_mul_ediv (w.getD (j+i) 0+(iL v).getD i 0+d) 1000000000
  rw[jQ] at q ⊢
  grind
 rw[jX aa];exact h.up k aa
end
def gsl (v1 v2 u2 t r:Int):Int:=
 if h:(1000000000<=t\/r*1000000000+u2<t*v2)/\0<v1 then
  if h2:1000000000<=r+v1 then t-1 else gsl v1 v2 u2 (t-1) (r+v1)
 else t
termination_by (1000000000-r).toNat
decreasing_by omega
section
variable {β W V top u2 v1 v2 w0 v0 m:Nat}
theorem gsl_ok (hk:(β:Int)=1000000000) (hW:W=(top*β+u2)*β ^ m+w0) (hV:V=(v1*β+v2)*β ^ m+v0) (hu:u2<β) (hw:w0<β ^ m) (hv0:v0<β ^ m) (h1:0<v1) (hv2:v2<β) (hQ:W<β*V) :
  ∀ (k q r:Nat),(1000000000-(r:Int)).toNat<=k->q*v1+r=top->W / V<=q->r<β->∃ g:Nat,gsl v1 v2 u2 q r=(g:Int)/\W / V<=g/\g<=W / V+1/\g<β:=by
 have hβ:2<=β:=aa
 have hp:0<β ^ m:=Nat.pow_pos aa
 have hVp:0<V:=by grind
 have hlt:W / V<β:=Nat.div_lt_of_lt_mul (by rw[Nat.mul_comm];exact hQ)
 have htop:top<=v1*β+v2:=by
  rcases Nat.lt_or_ge (v1*β+v2) top with h|h
  ·have a1:(v1*β+v2+1)*β*β ^ m<=top*β*β ^ m:=Nat.mul_le_mul_right _ (Nat.mul_le_mul_right _ h)
   have a2:top*β*β ^ m<=W:=by rw[hW,Nat.add_mul];omega
   have a3:β*V<β*((v1*β+v2+1)*β ^ m):=by
    refine Nat.mul_lt_mul_of_pos_left ?_ aa
    grind
   grind
  exact h
 intro k
 induction k with
 | zero=>
  intro q r h2 h3 h4 h5
  omega
 | succ k ih=>
  intro q r h2 h3 h4 h5
  by_cases hc:1000000000<=(q:Int)\/(r:Int)*1000000000+u2<q*v2
  ·have hstep:1<=q/\W / V<=q-1:=by
    by_cases hq:β<=q
    ·omega
    rcases hc with hc|hc
    ·omega
    have hc':r*β+u2<q*v2:=by
     have:((r*β+u2:Nat):Int)<((q*v2:Nat):Int):=by rw[Int.natCast_add,Int.natCast_mul,Int.natCast_mul,hk];exact hc
     omega
    have:=guess_less hW hV hw (show GI β v1 top (W / V) q r from ⟨h3,h4,aa⟩) hc'
    exact⟨this.1,this.2.2.1⟩
   obtain⟨s1,s2⟩:=hstep
   have hs:(q-1)*v1+(r+v1)=top:=by
    obtain⟨p,rfl⟩:∃ p,q=p+1:=⟨q-1,aa⟩
    rw[Nat.add_sub_cancel];rw[Nat.add_mul] at h3;omega
   by_cases h6:(1000000000:Int)<=(r:Int)+v1
   ·refine⟨q-1,?_,?_⟩
    ·rw[gsl,dif_pos ⟨hc,aa⟩,dif_pos h6];omega
    have hlt2:q-1<β:=by
     refine Nat.lt_of_mul_lt_mul_right (a:=v1) ?_
     rw[Nat.mul_comm β v1]
     omega
    exact guess_end hβ hW hV hv2 hv0 h1 ⟨hs,s2,hlt2⟩ (.inl aa)
   obtain⟨g,e,h7⟩:=ih (q-1) (r+v1) aa hs s2 aa
   refine⟨g,?_,h7⟩
   rw[gsl,dif_pos ⟨hc,aa⟩,dif_neg h6,<-e]
   congr 1<;>omega
  refine⟨q,?_,?_⟩
  ·rw[gsl,dif_neg (fun h=>hc h.1)]
  have hq:q<β:=aa
  have hc':q*v2<=r*β+u2:=by
   have:((q*v2:Nat):Int)<=((r*β+u2:Nat):Int):=by rw[Int.natCast_add,Int.natCast_mul,Int.natCast_mul,hk];omega
   omega
  exact guess_end hβ hW hV hv2 hv0 h1 ⟨h3,h4,hq⟩ (.inr hc')
end
theorem val_3 {l:List Nat} {m:Nat} (h:m+2<l.length) (hl:l.length=m+3):val K9 l=((l.getD (m+2) 0*K9+l.getD (m+1) 0)*K9+l.getD m 0)*K9 ^ m+val K9 (l.take m):=by
 rw[kl hl,je,je,Nat.pow_succ,Nat.pow_succ]
 generalize K9=b at*
 grind
theorem val_2 {l:List Nat} {m:Nat} (hl:l.length=m+2):val K9 l=(l.getD (m+1) 0*K9+l.getD m 0)*K9 ^ m+val K9 (l.take m):=by
 rw[kl hl,je,Nat.pow_succ]
 generalize K9=b at*
 grind
def gsT (un v:List Nat) (j:Nat):Int:=
 gsl ((iL v).getD (v.length-1) 0) ((iL v).getD (v.length-2) 0) ((iL un).getD (j+v.length-2) 0)
  (Int.tdiv ((iL un).getD (j+v.length) 0*1000000000+(iL un).getD (j+v.length-1) 0) ((iL v).getD (v.length-1) 0))
  (Int.tmod ((iL un).getD (j+v.length) 0*1000000000+(iL un).getD (j+v.length-1) 0) ((iL v).getD (v.length-1) 0))
section
variable {un v q:List Nat} {A j n:Nat}
theorem win_get {l:List Nat} {j n i:Nat} (hi:i<=n):((l.drop j).take (n+1)).getD i 0=l.getD (j+i) 0:=by grind
theorem gsT_ok (h:LdI K9 A v (j+1) un q) (hv:Dg K9 v) (hn:v.length=n) (h2:2<=n) (hl:j+n+1<=un.length) (h1:0<v.getD (n-1) 0) :
  ∃ g:Nat,gsT un v j=(g:Int)/\val K9 ((un.drop j).take (n+1)) / val K9 v<=g/\g<=val K9 ((un.drop j).take (n+1)) / val K9 v+1/\g<K9:=by
 obtain⟨w1,w2,w3⟩:=ld_win jx h hv hn hl
 have hud:=h.1
 obtain⟨m,rfl⟩:∃ m,n=m+2:=⟨n-2,aa⟩
 have hwl:((un.drop j).take (m+2+1)).length=m+3:=by grind
 have hwd:Dg K9 ((un.drop j).take (m+2+1)):=(hud.drop _).take _
 have hW:=val_3 aa hwl
 rw[win_get aa,win_get aa,win_get aa] at hW
 have hV:=val_2 hn
 have lw:=jR (hwd.take m)
 rw[zn,Nat.min_eq_left aa] at lw
 have lv:=jR (hv.take m)
 rw[zn,Nat.min_eq_left aa] at lv
 have b1:=hud.get ah (j+m)
 have b2:=hv.get ah m
 have hv1:0<v.getD (m+1) 0:=h1
 have hv1l:=hv.get (show 0<K9 by decide) (m+1)
 generalize val K9 ((un.drop j).take (m+2+1))=W at*
 generalize val K9 v=V at*
 have key:=gsl_ok (β:=K9) Z hW hV b1 lw lv hv1 b2 w1 _ ((un.getD (j+(m+2)) 0*K9+un.getD (j+(m+1)) 0) / v.getD (m+1) 0) ((un.getD (j+(m+2)) 0*K9+un.getD (j+(m+1)) 0)%v.getD (m+1) 0) (zB _) (Nat.div_add_mod' _ _) ?_ (Nat.lt_trans (Nat.mod_lt _ hv1) hv1l)
 ·obtain⟨g,e,h7⟩:=key
  refine⟨g,?_,h7⟩
  rw[<-e]
  unfold gsT
  rw[hn,show m+2-1=m+1 by omega,show m+2-2=m by omega,show j+(m+2)-1=j+(m+1) by omega,show j+(m+2)-2=j+m by omega,jQ,jQ,jQ,jQ,jQ]
  have et:((un.getD (j+(m+2)) 0:Nat):Int)*1000000000+((un.getD (j+(m+1)) 0:Nat):Int)=((un.getD (j+(m+2)) 0*K9+un.getD (j+(m+1)) 0:Nat):Int):=by rw[Int.natCast_add,Int.natCast_mul];rfl
  rw[et,Int.tdiv_eq_ediv_of_nonneg aa,Int.tmod_eq_emod_of_nonneg aa]
  rfl
 by_cases hq:(un.getD (j+(m+2)) 0*K9+un.getD (j+(m+1)) 0) / v.getD (m+1) 0<K9
 ·exact (guess_div jx hW hV b1 lw hv1 hq).2.1
 have:W / V<K9:=Nat.div_lt_of_lt_mul aX
 omega
theorem ld_val (h:LdI K9 A v (j+1) un q) (hv:Dg K9 v) (hn:v.length=n) (hl:j+n+1<=un.length) (hq:j<q.length) (hV:0<val K9 v) {X:List Nat} (hX:Dg K9 X) (eX:val K9 X=val K9 (un.take j)+K9 ^ j*(val K9 ((un.drop j).take (n+1))%val K9 v)) :
  LdI K9 A v j X (q.set j (val K9 ((un.drop j).take (n+1)) / val K9 v)):=by
 obtain⟨w1,w2,w3⟩:=ld_win jx h hv hn hl
 obtain⟨h1,h2,h3,h4⟩:=h
 generalize val K9 ((un.drop j).take (n+1))=W at*
 have hR:=Nat.mod_lt W hV
 have hlt:W / val K9 v<K9:=Nat.div_lt_of_lt_mul aX
 have ht:=jR (h1.take j)
 rw[zn,Nat.min_eq_left aa] at ht
 refine⟨hX,h2.set hlt,?_,?_⟩
 ·rw[eX]
  have g:=Nat.mul_le_mul_left (K9 ^ j) (show W%val K9 v+1<=val K9 v from hR)
  generalize K9=b at*
  grind
 have hs:j<(q.set j (W / val K9 v)).length:=by rw[List.length_set];exact hq
 rw[ZN hs,jt hq,Qe aa,eX,h4,w2,Nat.pow_succ]
 have d:=Nat.mod_add_div W (val K9 v)
 grind
theorem b9K (k:Nat):((K9 ^ k:Nat):Int)=b9 ^ k:=by rw[Int.natCast_pow];rfl
theorem fin_eq (h:LdI K9 A v (j+1) un q) (hv:Dg K9 v) (hn:v.length=n) (hl:j+n+1<=un.length) {g:Nat} {w1:List Int} (h1:MdI v un g j n w1) :
  vI w1=((val K9 (un.take j):Nat):Int)+b9 ^ j*(((val K9 ((un.drop j).take (n+1)):Nat):Int)-(g:Int)*((val K9 v:Nat):Int)):=by
 obtain⟨w1,w2,w3⟩:=ld_win jx h hv hn hl
 grind [h1.eq,vI_iL,Int.natCast_add,Int.natCast_mul,b9K]
theorem fin_ok (h:LdI K9 A v (j+1) un q) (hv:Dg K9 v) (hn:v.length=n) (hl:j+n+1<=un.length) (hq:j<q.length) (hV:0<val K9 v) {g:Nat} {w1:List Int}
  (g1:val K9 ((un.drop j).take (n+1)) / val K9 v<=g) (h1:MdI v un g j n w1) (h0:¬w1.getD (j+n) 0<0):∃ o,w1=iL o/\LdI K9 A v j o (q.set j g)/\o.length=un.length:=by
 have e:=fin_eq h hv hn hl h1
 have hD:DI w1:=fun k=>by
  by_cases hk:k=j+n
  ·subst hk;exact⟨aa,h1.top⟩
  exact h1.dig k hk
 obtain⟨o,rfl,ho⟩:=DI_nat hD
 have hlen:=h1.len
 rw[qG] at hlen
 refine⟨o,rfl,?_,hlen⟩
 rw[vI_iL] at e
 have ht:=jR (h.1.take j)
 rw[zn,Nat.min_eq_left aa] at ht
 have ht':((val K9 (un.take j):Nat):Int)<b9 ^ j:=by rw[<-b9K];omega
 have hp:0<b9 ^ j:=Int.pow_pos ah
 have hR:=Nat.mod_add_div (val K9 ((un.drop j).take (n+1))) (val K9 v)
 have hle:g*val K9 v<=val K9 ((un.drop j).take (n+1)):=by
  rcases Nat.lt_or_ge (val K9 ((un.drop j).take (n+1))) (g*val K9 v) with hc|hc
  ·have a:b9 ^ j*(((val K9 ((un.drop j).take (n+1)):Nat):Int)-(g:Int)*((val K9 v:Nat):Int))<=b9 ^ j*(-1):=by
    refine Int.mul_le_mul_of_nonneg_left ?_ (Int.le_of_lt hp)
    omega
   omega
  exact hc
 have hg:g=val K9 ((un.drop j).take (n+1)) / val K9 v:=Nat.le_antisymm ((Nat.le_div_iff_mul_le hV).2 hle) g1
 rw[hg]
 refine ld_val h hv hn hl hq hV ho ?_
 have:((val K9 o:Nat):Int)=((val K9 (un.take j)+K9 ^ j*(val K9 ((un.drop j).take (n+1))%val K9 v):Nat):Int):=by
  rw[e,Int.natCast_add,Int.natCast_mul,b9K,hg]
  congr 2
  grind
 omega
theorem fin_ab (h:LdI K9 A v (j+1) un q) (hv:Dg K9 v) (hn:v.length=n) (hl:j+n+1<=un.length) (hq:j<q.length) (hV:0<val K9 v) {g i:Nat} {d:Int} {w1 w:List Int}
  (g1:g<=val K9 ((un.drop j).take (n+1)) / val K9 v+1) (h1:MdI v un g j n w1) (h0:w1.getD (j+n) 0<0) (h2:AbI v w1 j n i d w) (hi:¬i<n) :
  1<=g/\∃ o,w.set (j+n) (w.getD (j+n) 0+d)=iL o/\LdI K9 A v j o (q.set j (g-1))/\o.length=un.length:=by
 have e:=fin_eq h hv hn hl h1
 obtain⟨_,_,w3⟩:=ld_win jx h hv hn hl
 have ei:i=n:=by have:=h2.le;omega
 subst ei
 have hzero:∀ k,j+i<k->w1.getD k 0=0:=fun k hk=>by rw[h1.up k hk,jQ,w3 k aa];rfl
 have ht:=jR (h.1.take j)
 rw[zn,Nat.min_eq_left aa] at ht
 have ht':((val K9 (un.take j):Nat):Int)<b9 ^ j:=by rw[<-b9K];omega
 have hp:0<b9 ^ j:=Int.pow_pos ah
 have hR:=Nat.mod_add_div (val K9 ((un.drop j).take (i+1))) (val K9 v)
 have hRl:=Nat.mod_lt (val K9 ((un.drop j).take (i+1))) hV
 obtain⟨X,x1,x2,x3⟩:=vI_cut (m:=j+i) (fun k hk=>h1.dig k aa) hzero
 have hneg:vI w1<0:=by
  have:b9 ^ (j+i)*w1.getD (j+i) 0<=b9 ^ (j+i)*(-1):=Int.mul_le_mul_of_nonneg_left aa (Int.le_of_lt (Int.pow_pos ah))
  omega
 have hlt:val K9 ((un.drop j).take (i+1))<g*val K9 v:=by
  rcases Nat.lt_or_ge (val K9 ((un.drop j).take (i+1))) (g*val K9 v) with hc|hc
  ·exact hc
  have a:0<=b9 ^ j*(((val K9 ((un.drop j).take (i+1)):Nat):Int)-(g:Int)*((val K9 v:Nat):Int)):=by
   refine Int.mul_nonneg (Int.le_of_lt hp) ?_
   rw[<-Int.natCast_mul];omega
  omega
 have hg:g=val K9 ((un.drop j).take (i+1)) / val K9 v+1:=by
  have:val K9 ((un.drop j).take (i+1)) / val K9 v<g:=Nat.div_lt_of_lt_mul (by rw[Nat.mul_comm];exact hlt)
  omega
 have hwl:w.length=un.length:=h2.len.trans h1.len
 have e2:vI (w.set (j+i) (w.getD (j+i) 0+d))=((val K9 (un.take j)+K9 ^ j*(val K9 ((un.drop j).take (i+1))%val K9 v):Nat):Int):=by
  rw[vI_set _ aa,h2.eq,e,show v.take i=v from zz aa,Int.natCast_add,Int.natCast_mul,b9K,hg]
  have:((val K9 ((un.drop j).take (i+1)):Nat):Int)=((val K9 ((un.drop j).take (i+1))%val K9 v+val K9 v*(val K9 ((un.drop j).take (i+1)) / val K9 v):Nat):Int):=by rw[hR]
  rw[Int.natCast_add,Int.natCast_mul] at this
  rw[Int.natCast_add]
  generalize ((val K9 ((un.drop j).take (i+1)) / val K9 v:Nat):Int)=a at*
  generalize ((val K9 ((un.drop j).take (i+1))%val K9 v:Nat):Int)=b at*
  generalize ((val K9 ((un.drop j).take (i+1)):Nat):Int)=c at*
  generalize ((val K9 v:Nat):Int)=f at*
  generalize ((val K9 (un.take j):Nat):Int)=l at*
  generalize w.getD (j+i) 0=y at*
  generalize b9 ^ (j+i)=p at*
  generalize b9 ^ j=r at*
  rw[show ((1:Nat):Int)=1 from rfl,this]
  grind
 have hdg:∀ k,k≠j+i->0<=(w.set (j+i) (w.getD (j+i) 0+d)).getD k 0/\(w.set (j+i) (w.getD (j+i) 0+d)).getD k 0<1000000000:=fun k hk=>by
  rw[jX (Ne.symm hk)];exact h2.dig k hk
 obtain⟨Y,y1,y2,y3⟩:=vI_cut (w:=w.set (j+i) (w.getD (j+i) 0+d)) (m:=j+i) (fun k hk=>hdg k aa) (fun k hk=>by
  rw[jX aa,h2.up k aa];exact hzero k hk)
 have hVn:=jR hv
 rw[hn] at hVn
 have hsmall:val K9 (un.take j)+K9 ^ j*(val K9 ((un.drop j).take (i+1))%val K9 v)<K9 ^ (j+i):=by
  have a:=Nat.mul_le_mul_left (K9 ^ j) (show val K9 ((un.drop j).take (i+1))%val K9 v+1<=K9 ^ i by omega)
  rw[<-Nat.pow_add,Nat.mul_add,Nat.mul_one] at a
  omega
 have hsmall':vI (w.set (j+i) (w.getD (j+i) 0+d))<b9 ^ (j+i):=by rw[e2,<-b9K];omega
 have hnn:0<=vI (w.set (j+i) (w.getD (j+i) 0+d)):=by rw[e2];omega
 have hgt:(w.set (j+i) (w.getD (j+i) 0+d)).getD (j+i) 0=0:=by
  generalize (w.set (j+i) (w.getD (j+i) 0+d)).getD (j+i) 0=z at*
  have hpp:0<b9 ^ (j+i):=Int.pow_pos ah
  rcases Int.lt_trichotomy z 0 with hz|hz|hz
  ·have:b9 ^ (j+i)*z<=b9 ^ (j+i)*(-1):=Int.mul_le_mul_of_nonneg_left aa (Int.le_of_lt hpp)
   rw[Int.mul_neg,Int.mul_one] at this
   omega
  ·exact hz
  have:b9 ^ (j+i)*1<=b9 ^ (j+i)*z:=Int.mul_le_mul_of_nonneg_left aa (Int.le_of_lt hpp)
  rw[Int.mul_one] at this
  omega
 have hD:DI (w.set (j+i) (w.getD (j+i) 0+d)):=fun k=>by
  by_cases hk:k=j+i
  ·rw[hk,hgt];decide
  exact hdg k hk
 obtain⟨o,eo,ho⟩:=DI_nat hD
 refine⟨by rw[hg];exact Nat.succ_pos _,o,eo,?_,?_⟩
 ·rw[hg,Nat.add_sub_cancel]
  refine ld_val h hv hn hl hq hV ho ?_
  rw[eo,vI_iL] at e2
  exact Int.ofNat.inj e2
 have:=congrArg List.length eo
 rw[List.length_set,qG] at this
 omega
end
end Go.Lens.Un.R
end
section
namespace Go.Lens.Tb
open Go.Proofs Go.Lens.Un
variable [Lz] [Dn]
attribute [local irreducible] TK PK T RG EfR Body CG
open Un Un.R
def D9I (x:List Nat) (d:Nat) (i:Int) (q:List Int) (r:Int):Prop:= -1<=i/\i<x.length/\∃ (p:List Nat) (s:Nat),q=iL p/\r=(s:Int)/\DivI K9 x d (i+1).toNat p s
section
variable {x:List Nat} {d:Nat} {i r:Int} {q:List Int}
theorem d9_0 (hd:0<d):D9I x d ((((iL x).length:Nat):Int)-1) (List.replicate (iL x).length 0) 0:=by
 rw[qG]
 exact⟨aa,aa,_,0,iL_rep,rfl,by rw[show (((x.length:Int)-1+1).toNat)=x.length by omega];exact div_init jx hd⟩
theorem d9_l (h:D9I x d i q r):q.length=x.length:=by
 obtain⟨_,_,p,s,rfl,_,h⟩:=h
 rw[qG];exact h.1
theorem d9_r (h:D9I x d i q r):0<=r/\r<d:=by
 obtain⟨_,_,p,s,rfl,rfl,h⟩:=h
 have:=h.2.2.1
 omega
theorem d9_q {a:Int} (hd:0<d) (h0:0<=r) (hr:r<d) (hk:(d:Int)<1000000000) (ha:0<=a/\a<1000000000):R64 (Int.tdiv (r*1000000000+a) d):=by
 have h1:0<=r*1000000000+a:=aa
 rw[Int.tdiv_eq_ediv_of_nonneg h1]
 have h2:=Int.ediv_nonneg h1 (show (0:Int)<=d by omega)
 have h3:=Int.ediv_le_self (d:Int) h1
 unfold R64;omega
theorem d9_n (h:D9I x d i q r) (hx:Dg K9 x) (hd0:0<d) (hd:d<K9) (h0:0<=i):D9I x d (i-1) (q.set i.toNat (Int.tdiv (r*1000000000+(iL x).getD i.toNat 0) d)) (Int.tmod (r*1000000000+(iL x).getD i.toNat 0) d):=by
 obtain⟨h1,h2,p,s,rfl,rfl,h⟩:=h
 rw[show (i+1).toNat=i.toNat+1 by omega] at h
 have hn:=div_next jx h aa hx hd
 have e:(s:Int)*1000000000+(iL x).getD i.toNat 0=((s*K9+x.getD i.toNat 0:Nat):Int):=by rw[jQ,Int.natCast_add,Int.natCast_mul];rfl
 refine⟨aa,aa,_,_,?_,?_,by rw[show (i-1+1).toNat=i.toNat by omega];exact hn⟩
 ·rw[<-iL_set,e,Int.tdiv_eq_ediv_of_nonneg aa];rfl
 rw[e,Int.tmod_eq_emod_of_nonneg aa];rfl
theorem d9_e (h:D9I x d i q r) (h0:¬0<=i):∃ o,q=iL o/\Dg K9 o/\val K9 o=val K9 x / d:=by
 obtain⟨h1,h2,p,s,rfl,rfl,h⟩:=h
 rw[show (i+1).toNat=0 by omega] at h
 exact⟨p,rfl,h.2.1,(div_end h).1⟩
theorem d9_f (h:D9I x d i q r) (h0:¬0<=i):r=((val K9 x%d:Nat):Int):=by
 obtain⟨h1,h2,p,s,rfl,rfl,h⟩:=h
 rw[show (i+1).toNat=0 by omega] at h
 rw[(div_end h).2]
end
def GsI (v1 v2 u2 top t r:Int):Prop:=0<=t/\0<=r/\r<1000000000/\t<=999999999999999999/\0<=u2/\gsl v1 v2 u2 t r=gsl v1 v2 u2 (Int.tdiv top v1) (Int.tmod top v1)
section
variable {v1 v2 u0 u1 u2 top t r:Int}
theorem gs_0 (h0:0<=u0/\u0<1000000000) (h1:0<=u1/\u1<1000000000) (hv:0<v1):0<=Int.tdiv (u0*1000000000+u1) v1/\Int.tdiv (u0*1000000000+u1) v1<=999999999999999999/\0<=Int.tmod (u0*1000000000+u1) v1/\Int.tmod (u0*1000000000+u1) v1<v1:=by
 have h:0<=u0*1000000000+u1:=aa
 rw[Int.tdiv_eq_ediv_of_nonneg h,Int.tmod_eq_emod_of_nonneg h]
 have a:=Int.ediv_nonneg h (show (0:Int)<=v1 by omega)
 have b:=Int.ediv_le_self v1 h
 exact⟨a,aa,Int.emod_nonneg _ aa,Int.emod_lt_of_pos _ hv⟩
theorem gs_q {x:Int} (h:0<=x/\x<=999999999999999999/\0<=Int.tmod top v1/\Int.tmod top v1<v1):R64 x:=by unfold R64;omega
theorem gs_i (h0:0<=u0/\u0<1000000000) (h1:0<=u1/\u1<1000000000) (h2:0<=u2/\u2<1000000000) (hv1:0<=v1/\v1<1000000000) (hv:0<v1):GsI v1 v2 u2 (u0*1000000000+u1) (Int.tdiv (u0*1000000000+u1) v1) (Int.tmod (u0*1000000000+u1) v1):=by
 have h:=gs_0 h0 h1 hv
 exact⟨h.1,h.2.2.1,aa,h.2.1,h2.1,rfl⟩
theorem gs_b (h:GsI v1 v2 u2 top t r):t<=999999999999999999:=h.2.2.2.1
theorem gs_m (hc:decide (1000000000<=t)=false) (h0:0<=t) (hv:0<=v2/\v2<1000000000):R64 (t*v2):=by
 have h:=of_decide_eq_false hc
 have:=mu_p (a:=t) (b:=v2) ⟨h0,aa⟩ hv
 unfold R64;omega
theorem gs_or (h1:(bif decide (1000000000<=t) then true else decide (r*1000000000+u2<t*v2))=true):1000000000<=t\/r*1000000000+u2<t*v2:=by
 by_cases h:1000000000<=t
 ·exact .inl h
 rw[zk h] at h1;exact .inr (of_decide_eq_true h1)
theorem gs_t (h:GsI v1 v2 u2 top t r) (h1:(bif decide (1000000000<=t) then true else decide (r*1000000000+u2<t*v2))=true):1<=t:=by
 rcases gs_or h1 with g|g
 ·omega
 obtain⟨a,b,c,d,e,_⟩:=h
 rcases Int.lt_or_le 0 t with k|k
 ·omega
 have:t=0:=aa
 rw[this,Int.zero_mul] at g;omega
theorem gs_n (h:GsI v1 v2 u2 top t r) (h1:(bif decide (1000000000<=t) then true else decide (r*1000000000+u2<t*v2))=true) (hv:0<v1) (h2:¬1000000000<=r+v1):GsI v1 v2 u2 top (t-1) (r+v1):=by
 have ht:=gs_t h h1
 obtain⟨a,b,c,d,e,f⟩:=h
 refine⟨aa,aa,aa,aa,e,?_⟩
 rw[gsl,dif_pos ⟨gs_or h1,hv⟩,dif_neg h2] at f
 exact f
theorem gs_a (h:GsI v1 v2 u2 top t r) (h1:(bif decide (1000000000<=t) then true else decide (r*1000000000+u2<t*v2))=true) (hv:0<v1) (h2:1000000000<=r+v1):t-1=gsl v1 v2 u2 (Int.tdiv top v1) (Int.tmod top v1):=by
 obtain⟨a,b,c,d,e,f⟩:=h
 rw[gsl,dif_pos ⟨gs_or h1,hv⟩,dif_pos h2] at f
 exact f
theorem gs_e (h:GsI v1 v2 u2 top t r) (h1:(bif decide (1000000000<=t) then true else decide (r*1000000000+u2<t*v2))=false):t=gsl v1 v2 u2 (Int.tdiv top v1) (Int.tmod top v1):=by
 obtain⟨a,b,c,d,e,f⟩:=h
 rw[gsl,dif_neg ?_] at f
 ·exact f
 rintro⟨g|g,_⟩
 ·rw[zl g] at h1;cases h1
 rw[zl g] at h1
 cases hq:decide (1000000000<=t)<;>rw[hq] at h1<;>cases h1
end
theorem w258 (x:List Nat) (d:Nat) (hx:Dg K9 x) (hxl:x.length<=1000000) (hd0:0<d) (hd:d<K9):CKa 218 [vL eI (iL x),vI (d:Int)] (.tup [vL eI (iL (dig K9 (val K9 x / d))),vI ((val K9 x%d:Nat):Int)]):=by
 refine cG qf218 Z (nB Z) Z (E Z (B.ZH (enc:=eI) Z) ?_)
 have hlx:=qG (l:=x)
 have hdk:(d:Int)<1000000000:=by have e:K9=1000000000:=rfl;omega
 refine E Z (B.jp Z qY) (E Z (B.makeSl (enc:=eI) (sz:=1) (z0:=0) Z Z Z qY in3 Z Z Z by3 cK Z Z) (E Z (B.jp Z qY) (E Z (B.sub Z Z cM) (l3 (fun (i:Int) (r:Int) (q:List Int)=>[(0,vL eI (iL x)),(1,vI (d:Int)),(6,.aref 13 0),(7,vI r),(8,vI i)]) (fun _ _ q=>[(13,.arr 0 1 3 (List.map eI q))]) (fun i r q=>D9I x d i q r) (fun i _ _=>Int.toNat (i+1)) ((((iL x).length:Nat):Int)-1) 0 (List.replicate ((iL x).length) 0) Z ?_ (sb Z Z Z) ?_))))
 · exact d9_0 hd0
 intro i r q hI0
 have hi1:=hI0.1
 have hi2:=hI0.2.1
 have hql:=d9_l hI0
 refine Cp Z Z (fun h1=>?_) (fun h1=>?_)
 ·have hxi:=Zg hx (Int.toNat i)
  have hrr:=d9_r hI0
  refine E Z (B.mul Z Z cM) (E Z (B.idx (z:=0) Z Z qY sz3 (fun _=>rfl) (Int.toNat_of_nonneg cK).symm cK) (E Z (B.add Z Z cM) ?_))
  have hqr:=d9_q hd0 hrr.1 hrr.2 hdk hxi
  refine E Z (B.quo Z Z ⟨cK,cM⟩) (E Z (B.ZO Z Z Z qY sz3 (Int.toNat_of_nonneg cK).symm cK) (E Z (B.setE (z0:=(Int.tdiv ((r*1000000000)+(List.getD (iL x) (Int.toNat i) 0)) (d:Int))) Z Z Z Z Z sz3 cK (fun _=>rfl)) (E Z (B.rem Z Z cK) (E Z (B.sub Z Z cM) (pk Z (L3 (i-1) (Int.tmod ((r*1000000000)+(List.getD (iL x) (Int.toNat i) 0)) (d:Int)) (List.set q (Int.toNat i) (Int.tdiv ((r*1000000000)+(List.getD (iL x) (Int.toNat i) 0)) (d:Int))) ?_ ?_ (sb Z Z Z)))))))
  · exact d9_n hI0 hx hd0 hd h1
  · omega
 have hw:=d9_e hI0 h1
 have hrv:=d9_f hI0 h1
 have hwl:q.length<=1000000000:=by have:=d9_l hI0;omega
 exact Fz 9 6 Z Z Z (C Z (w259w hw hwl) Z Z Z (Rt Z (lF Z (Zf (rfl) (li (by first|rfl|exact hrv))))))
theorem w260 (u v:List Nat) (k j:Nat) (hu:Dg K9 u) (hv:Dg K9 v) (hul:u.length<=10000000) (hvl:2<=v.length) (hj:j+v.length<u.length) (h0:0<(List.getD (iL v) (((iL v).length)-1) 0)):qD Tryz.prog 219 [.aref 59 k,vL eI (iL v),vI (j:Int)] (qx [(59,.arr k 1 3 (List.map eI (iL u)))]) (vI (gsl (List.getD (iL v) (((iL v).length)-1) 0) (List.getD (iL v) (((iL v).length)-2) 0) (List.getD (iL u) (Int.toNat (((j:Int)+(((iL v).length:Nat):Int))-2)) 0) (Int.tdiv ((List.getD (iL u) (j+((iL v).length)) 0)*1000000000+(List.getD (iL u) (Int.toNat (((j:Int)+(((iL v).length:Nat):Int))-1)) 0)) (List.getD (iL v) (((iL v).length)-1) 0)) (Int.tmod ((List.getD (iL u) (j+((iL v).length)) 0)*1000000000+(List.getD (iL u) (Int.toNat (((j:Int)+(((iL v).length:Nat):Int))-1)) 0)) (List.getD (iL v) (((iL v).length)-1) 0)))) [(59,.arr k 1 3 (List.map eI (iL u)))]:=by
 refine cL 60 [(59,.arr k 1 3 (List.map eI (iL u)))] qf219 Z (nB Z) Z Z (kc ?_)
 have hlv:=qG (l:=v)
 have hlu:=qG (l:=u)
 refine E Z (B.jp Z qY) ?_
 have hv1:=Zg hv (((iL v).length)-1)
 have hv2:=Zg hv (((iL v).length)-2)
 have hu0:=Zg hu (j+((iL v).length))
 have hu1:=Zg hu (Int.toNat (((j:Int)+(((iL v).length:Nat):Int))-1))
 have hu2:=Zg hu (Int.toNat (((j:Int)+(((iL v).length:Nat):Int))-2))
 have hq0:=gs_0 hu0 hu1 h0
 refine E Z (B.add Z Z cN) (E Z (B.ZO (n:=(j+(iL v).length)) Z Z Z qY sz3 aa cP) (E Z (B.loadE (n:=(j+(iL v).length)) (z0:=0) Z Z ag3 sz3 cP Z) (E Z (B.mul Z Z cN) (E Z (B.add Z Z cN) (E Z (B.sub Z Z cN) (E Z (B.ZO (n:=(Int.toNat (((j:Int)+(((iL v).length:Nat):Int))-1))) Z Z Z qY sz3 (Int.toNat_of_nonneg cP).symm cP) (E Z (B.loadE (n:=(Int.toNat (((j:Int)+(((iL v).length:Nat):Int))-1))) (z0:=0) Z Z ag3 sz3 cP Z) (E Z (B.add Z Z cN) (Dr Z ae (E Z (B.sub Z Z cN) (E Z (B.idx (z:=0) (i:=((iL v).length-1)) Z Z qY sz3 (fun _=>rfl) cQ cP) (E Z (B.quo Z Z ⟨cP,cN⟩) (E Z (B.sub Z Z cN) ?_)))))))))))))
 refine E Z (B.idx (z:=0) (i:=((iL v).length-1)) Z Z qY sz3 (fun _=>rfl) cQ cP) (E Z (B.rem Z Z cP) (Dr Z ae (l2 (fun (t:Int) (r:Int)=>[(0,.aref 59 k),(1,vL eI (iL v)),(2,vI (j:Int)),(7,vI (((iL v).length:Nat):Int)),(9,vI t),(10,vI r)]) (fun _ _=>[(59,.arr k 1 3 (List.map eI (iL u)))]) (fun t r=>GsI (List.getD (iL v) (((iL v).length)-1) 0) (List.getD (iL v) (((iL v).length)-2) 0) (List.getD (iL u) (Int.toNat (((j:Int)+(((iL v).length:Nat):Int))-2)) 0) ((List.getD (iL u) (j+((iL v).length)) 0)*1000000000+(List.getD (iL u) (Int.toNat (((j:Int)+(((iL v).length:Nat):Int))-1)) 0)) t r) (fun _ r=>Int.toNat (1000000000-r)) (Int.tdiv ((List.getD (iL u) (j+((iL v).length)) 0)*1000000000+(List.getD (iL u) (Int.toNat (((j:Int)+(((iL v).length:Nat):Int))-1)) 0)) (List.getD (iL v) (((iL v).length)-1) 0)) (Int.tmod ((List.getD (iL u) (j+((iL v).length)) 0)*1000000000+(List.getD (iL u) (Int.toNat (((j:Int)+(((iL v).length:Nat):Int))-1)) 0)) (List.getD (iL v) (((iL v).length)-1) 0)) Z ?_ (sb Z Z Z) ?_)))
 · exact gs_i hu0 hu1 hu2 hv1 h0
 intro t r hI0
 have ht0:=hI0.1
 have hr0:=hI0.2.1
 have hr1:=hI0.2.2.1
 have hte:=gs_b hI0
 refine Em Z Z Z Z ?_
 refine Em Z Z Z Z ?_
 refine Em Z Z Z Z ?_
 refine Eg Z Z (fun hc=>B.sub (qz Z hc) Z cN) Z (Eg Z Z (fun hc=>B.idx (z:=0) (i:=((iL v).length-2)) (qz Z hc) (qz Z hc) qY sz3 (fun _=>rfl) aa cP) Z (Eg Z Z (fun hc=>B.loadP (qz Z hc) ag3 sz3) Z (Eg Z Z (fun hc=>B.mul (qz Z hc) (qz Z hc) cN) Z ?_)))
 refine Em Z Z Z Z ?_
 refine Eg Z Z (fun hc=>B.mul (qz Z hc) Z cN) Z (Eg Z Z (fun hc=>B.run Z) Z ?_)
 refine Em Z Z Z Z ?_
 refine Em Z Z Z Z ?_
 refine Eg Z Z (fun hc=>B.add (qz Z hc) (qz Z hc) cN) Z (Eg Z Z (fun hc=>B.sub (qz Z hc) Z cN) Z (Eg Z Z (fun hc=>B.ZO (n:=(Int.toNat (((j:Int)+(((iL v).length:Nat):Int))-2))) (qz Z hc) Z (qz Z hc) qY sz3 (Int.toNat_of_nonneg cP).symm cP) Z (Eg Z Z (fun hc=>B.loadE (n:=(Int.toNat (((j:Int)+(((iL v).length:Nat):Int))-2))) (z0:=0) (qz Z hc) Z ag3 sz3 cP Z) Z (Eg Z Z (fun hc=>B.add (qz Z hc) (qz Z hc) cN) Z (Eg Z Z (fun hc=>B.gtr (qz Z hc) (qz Z hc)) Z (E Z (B.pO Z Z Z Z Z) (Dr Z ae (Cb Z Z (fun h1=>?_) (fun h1=>?_)))))))))
 ·have htp:=gs_t hI0 h1
  refine E Z (B.sub Z Z cN) (E Z (B.sub Z Z cN) (E Z (B.idx (z:=0) (i:=((iL v).length-1)) Z Z qY sz3 (fun _=>rfl) cQ cP) (E Z (B.add Z Z cN) (Cp Z Z (fun h2=>?_) (fun h2=>?_)))))
  ·exact Rt Z (leafL (val0:=vI (t-1)) (out0:=[(59,.arr k 1 3 (List.map eI (iL u)))]) (.inr Z) ae (by first|rfl|exact li cR) Z)
  refine pk Z (L2 (t-1) (r+(List.getD (iL v) ((iL v).length-1) 0)) ?_ ?_ (sb Z Z Z))
  · exact gs_n hI0 h1 h0 h2
  · omega
 exact Rt Z (leafL (val0:=vI t) (out0:=[(59,.arr k 1 3 (List.map eI (iL u)))]) (.inr Z) ae (by first|rfl|exact li cR) Z)
end Go.Lens.Tb
end
