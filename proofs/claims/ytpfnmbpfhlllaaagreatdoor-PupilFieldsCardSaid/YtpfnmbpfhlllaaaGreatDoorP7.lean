/- A part of the proof of PupilFieldsCardSaid, without conditions. -/
import Derived.Test.YtpfnmbpfhlllaaaGreatDoorP6
import Derived.Test.YtpfnmbpfhlllaaaGreatDoorP5
import Derived.Test.YtpfnmbpfhlllaaaGreatDoorP3
set_option linter.unusedVariables false
set_option linter.unusedSimpArgs false
set_option linter.unusedSectionVars false
set_option maxRecDepth 100000
set_option maxHeartbeats 4000000
open Int (natAbs)
open List (take drop)
open Nat (gcd)
open Go.Proofs.Tryz (prog)
open Go.Lib (decDigits)
section
namespace Go.Lens.Tb
open Go.Proofs Go.Lens.Un
variable [Lz] [Dn]
attribute [local irreducible] TK PK T RG EfR Body CG
open Un Un.R
def frq (x y:Int):Rat:=(x:Rat) / (y:Rat)
section
variable {x y X Y:Int} {a b c d g:Nat} {e f:Bool}
theorem fr_m (h:(dig K9 x.natAbs).length<=100000):(dig K9 (-x).natAbs).length<=100000:=by rw[JX];exact h
theorem fr_l (h0:0<b) (h:(dig K9 b).length<=100000):(dig K9 (gcd a b)).length<=100000:=qd (dv_al' (Nat.gcd_le_right a h0)) h
theorem fr_d (h:(dig K9 a).length<=100000):(dig K9 (a / b)).length<=1000000000:=qd (dv_al' (JG a b)) (qd h ah)
theorem fr_t (h:(dig K9 a).length<=100000):(dig K9 (sgn e (a / b)).natAbs).length<=100000:=by
 rw[Un.R.sgn_abs];exact qd (dv_al' (JG a b)) h
theorem fr_i (h:(dig K9 a).length<=100000):(Lib.itoa (sgn e (a / b))).length<=900010:=by
 have h1:=fr_t (e:=e) (b:=b) h
 have h2:=XJ (jB js (sgn e (a / b)).natAbs) (Xj (show 0<K9 by decide) h1)
 have h3:=dec_k9 ah h2
 unfold Lib.itoa
 split
 ·rw[zb];omega
 rw[show (sgn e (a / b)).toNat=(sgn e (a / b)).natAbs by omega];omega
theorem fr_q (h:0<Y):(frq X Y).num=sgn (decide (X<0)) (X.natAbs / gcd X.natAbs Y.natAbs)/\(frq X Y).den=Y.natAbs / gcd X.natAbs Y.natAbs:=by
 have hg:0<gcd X.natAbs Y.natAbs:=QN _ aa
 have hY:0<Y.natAbs / gcd X.natAbs Y.natAbs:=Wb (Nat.gcd_le_right _ aa) hg
 have key:frq X Y=⟨sgn (decide (X<0)) (X.natAbs / gcd X.natAbs Y.natAbs),Y.natAbs / gcd X.natAbs Y.natAbs,aa,by rw[Un.R.sgn_abs];exact Qo hg⟩:=by
  rw[Jp,X3]
  have e1:X*((Y.natAbs / gcd X.natAbs Y.natAbs:Nat):Int)=sgn (decide (X<0)) (X.natAbs / gcd X.natAbs Y.natAbs)*Y:=by
   have hx:=Nat.div_mul_cancel (Nat.gcd_dvd_left X.natAbs Y.natAbs)
   have hy:=Nat.div_mul_cancel (X0 X.natAbs Y.natAbs)
   have hX:=Un.R.sgn_self X
   have hYY:Y=(Y.natAbs:Int):=aa
   generalize gcd X.natAbs Y.natAbs=g at*
   generalize Y.natAbs / g=q at*
   generalize X.natAbs / g=p at*
   generalize decide (X<0)=t at*
   rw[hYY,<-hy,<-hX,<-hx]
   unfold sgn
   cases t<;>simp only[Jx,ql,qm,qk]<;>grind
  have e2:(X:Rat)*(((Y.natAbs / gcd X.natAbs Y.natAbs:Nat):Int):Rat)=((sgn (decide (X<0)) (X.natAbs / gcd X.natAbs Y.natAbs):Int):Rat)*(Y:Rat):=by rw[<-Rat.intCast_mul,e1,JR]
  have n1:(Y:Rat)≠0:=icast_ne aa
  have n2:(((Y.natAbs / gcd X.natAbs Y.natAbs:Nat):Int):Rat)≠0:=icast_ne aa
  show (X:Rat) / (Y:Rat)=((sgn (decide (X<0)) (X.natAbs / gcd X.natAbs Y.natAbs):Int):Rat) / (((Y.natAbs / gcd X.natAbs Y.natAbs:Nat):Int):Rat)
  generalize (((Y.natAbs / gcd X.natAbs Y.natAbs:Nat):Int):Rat)=u at*
  generalize ((sgn (decide (X<0)) (X.natAbs / gcd X.natAbs Y.natAbs):Int):Rat)=v at*
  generalize (X:Rat)=w at*
  generalize (Y:Rat)=z at*
  grind
 rw[key]
 exact⟨rfl,rfl⟩
theorem fr_c1 (h:(dig K9 a).length<=100000):(Lib.itoa (sgn e (a / b))).length+([47]:Nb).length<=9223372036854775807:=by
 have:=fr_i (e:=e) (b:=b) h
 simp only[zb,zd];omega
theorem fr_c2 (h:(dig K9 a).length<=100000) (h2:(dig K9 c).length<=100000):(Lib.itoa (sgn e (a / b))++[47]).length+(Lib.itoa (sgn f (c / d))).length<=9223372036854775807:=by
 have:=fr_i (e:=e) (b:=b) h
 have:=fr_i (e:=f) (b:=d) h2
 rw[za]
 simp only[zb,zd];omega
theorem fr_one {n:Nat} (h:(bif decide ((((iL (dig K9 n)).length:Nat):Int)=1) then decide ((iL (dig K9 n)).getD 0 0=1) else false)=true):n=1:=by
 obtain⟨h1,h2⟩:=tr_p h
 have hn:=dv_b1 h1
 by_cases h0:n=0
 ·rw[h0,jL] at h1;cases h1
 rw[j7 js h0 hn] at h2
 have h3:(n:Int)=1:=h2
 omega
theorem fr_no {n:Nat} (h:(bif decide ((((iL (dig K9 n)).length:Nat):Int)=1) then decide ((iL (dig K9 n)).getD 0 0=1) else false)=false):n≠1:=by
 intro e
 have hd:=j7 (β:=K9) (n:=n) js aa (by rw[e];decide)
 rw[hd,e] at h
 exact absurd h ah
theorem fq_1 (h:0<Y) (h2:(bif decide ((((iL (dig K9 (Y.natAbs / gcd X.natAbs Y.natAbs))).length:Nat):Int)=1) then decide ((iL (dig K9 (Y.natAbs / gcd X.natAbs Y.natAbs))).getD 0 0=1) else false)=true) :
  Lib.itoa (sgn (decide (X<0)) (X.natAbs / gcd X.natAbs Y.natAbs))=txt (frq X Y):=by
 obtain⟨e1,e2⟩:=fr_q (X:=X) h
 rw[txt_1 (by rw[e2];exact fr_one h2),e1]
theorem fq_2 (h:0<Y) (h2:(bif decide ((((iL (dig K9 (Y.natAbs / gcd X.natAbs Y.natAbs))).length:Nat):Int)=1) then decide ((iL (dig K9 (Y.natAbs / gcd X.natAbs Y.natAbs))).getD 0 0=1) else false)=false) :
  Lib.itoa (sgn (decide (X<0)) (X.natAbs / gcd X.natAbs Y.natAbs))++[47]++Lib.itoa (sgn false (Y.natAbs / gcd X.natAbs Y.natAbs))=txt (frq X Y):=by
 obtain⟨e1,e2⟩:=fr_q (X:=X) h
 rw[txt_2 (by rw[e2];exact fr_no h2),e1,e2,zZ]
 show _++([47]++Lib.itoa ((Y.natAbs / gcd X.natAbs Y.natAbs:Nat):Int))=_
 rw[itoa_nat];rfl
theorem frq_neg:frq (-x) (-y)=frq x y:=by
 unfold frq
 rw[JS,JS]
 grind
theorem fr_a1 (_:y≠0) (h1:y<0) (h2:(bif decide ((((iL (dig K9 ((-y).natAbs / gcd (-x).natAbs (-y).natAbs))).length:Nat):Int)=1) then decide ((iL (dig K9 ((-y).natAbs / gcd (-x).natAbs (-y).natAbs))).getD 0 0=1) else false)=true) :
  vS (bsO (Lib.itoa (sgn (decide (-x<0)) ((-x).natAbs / gcd (-x).natAbs (-y).natAbs))))=vS (bsO (txt (frq x y))):=by
 rw[fq_1 aa h2,frq_neg]
theorem fr_a2 (_:y≠0) (h1:y<0) (h2:(bif decide ((((iL (dig K9 ((-y).natAbs / gcd (-x).natAbs (-y).natAbs))).length:Nat):Int)=1) then decide ((iL (dig K9 ((-y).natAbs / gcd (-x).natAbs (-y).natAbs))).getD 0 0=1) else false)=false) :
  vS (bsO (Lib.itoa (sgn (decide (-x<0)) ((-x).natAbs / gcd (-x).natAbs (-y).natAbs))++[47]++Lib.itoa (sgn false ((-y).natAbs / gcd (-x).natAbs (-y).natAbs))))=vS (bsO (txt (frq x y))):=by
 rw[fq_2 aa h2,frq_neg]
theorem fr_b1 (hy:y≠0) (h1:¬y<0) (h2:(bif decide ((((iL (dig K9 (y.natAbs / gcd x.natAbs y.natAbs))).length:Nat):Int)=1) then decide ((iL (dig K9 (y.natAbs / gcd x.natAbs y.natAbs))).getD 0 0=1) else false)=true) :
  vS (bsO (Lib.itoa (sgn (decide (x<0)) (x.natAbs / gcd x.natAbs y.natAbs))))=vS (bsO (txt (frq x y))):=by
 rw[fq_1 aa h2]
theorem fr_b2 (hy:y≠0) (h1:¬y<0) (h2:(bif decide ((((iL (dig K9 (y.natAbs / gcd x.natAbs y.natAbs))).length:Nat):Int)=1) then decide ((iL (dig K9 (y.natAbs / gcd x.natAbs y.natAbs))).getD 0 0=1) else false)=false) :
  vS (bsO (Lib.itoa (sgn (decide (x<0)) (x.natAbs / gcd x.natAbs y.natAbs))++[47]++Lib.itoa (sgn false (y.natAbs / gcd x.natAbs y.natAbs))))=vS (bsO (txt (frq x y))):=by
 rw[fq_2 aa h2]
end
theorem w152 (x y:Int) (hy:y≠0) (ha:(dig K9 (natAbs x)).length<=100000) (hb:(dig K9 (natAbs y)).length<=100000):CKa 84 [.pv (.agg [pB (decide (x<0)),pL eI (iL (dig K9 (natAbs x)))]),.pv (.agg [pB (decide (y<0)),pL eI (iL (dig K9 (natAbs y)))])] (vS (bsO (txt (frq x y)))):=by
 refine cG qf84 Z (nB Z) Z ?_
 have ha2:=fr_m ha
 have hb2:=fr_m hb
 refine Cp Z Z (fun h1=>?_) (fun h1=>?_)
 ·refine C Z (w213 x ha) Z Z Z (C Z (w213 y hb) Z Z Z (Dr Z ae (C Z (w195 (natAbs (-x)) (natAbs (-y)) ab ab) Z Z Z (C Z (w214 (natAbs (-x)) (gcd (natAbs (-x)) (natAbs (-y))) (QN _ aa) ab (fr_l aa ab)) Z Z Z (C Z (w214 (natAbs (-y)) (gcd (natAbs (-x)) (natAbs (-y))) (QN _ aa) ab (fr_l aa ab)) Z Z Z (C Z (w215d (decide ((-x)<0)) ((natAbs (-x)) / (gcd (natAbs (-x)) (natAbs (-y)))) (fr_d ab)) Z Z Z (C Z (w161 (sgn (decide ((-x)<0)) ((natAbs (-x)) / (gcd (natAbs (-x)) (natAbs (-y))))) (fr_t ab)) Z Z Z (E Z (B.ju Z jy) ?_))))))))
  refine Em Z Z Z Z ?_
  refine Eg Z Z (fun hc=>B.idx (z:=0) (i:=0) (qu Z hc) Z jy sz3 (fun _=>rfl) Z dH) Z (Eg Z Z (fun hc=>B.loadP (qu Z hc) ag3 sz3) Z (Eg Z Z (fun hc=>B.eql (qu Z hc) Z) Z (E Z (B.pA Z Z Z Z Z) (Cb Z Z (fun h2=>?_) (fun h2=>?_)))))
  ·exact Rt Z (lF Z dI)
  exact E Z (B.catB Z Z dJ) (C Z (w215d false ((natAbs (-y)) / (gcd (natAbs (-x)) (natAbs (-y)))) (fr_d ab)) Z Z Z (C Z (w161 (sgn false ((natAbs (-y)) / (gcd (natAbs (-x)) (natAbs (-y))))) (fr_t ab)) Z Z Z (E Z (B.catB Z Z dJ) (Rt Z (lF Z dI)))))
 refine C Z (w195 (natAbs x) (natAbs y) ab ab) Z Z Z (C Z (w214 (natAbs x) (gcd (natAbs x) (natAbs y)) (QN _ aa) ab (fr_l aa ab)) Z Z Z (C Z (w214 (natAbs y) (gcd (natAbs x) (natAbs y)) (QN _ aa) ab (fr_l aa ab)) Z Z Z (C Z (w215d (decide (x<0)) ((natAbs x) / (gcd (natAbs x) (natAbs y))) (fr_d ab)) Z Z Z (C Z (w161 (sgn (decide (x<0)) ((natAbs x) / (gcd (natAbs x) (natAbs y)))) (fr_t ab)) Z Z Z (E Z (B.ju Z jy) ?_)))))
 refine Em Z Z Z Z ?_
 refine Eg Z Z (fun hc=>B.idx (z:=0) (i:=0) (qu Z hc) Z jy sz3 (fun _=>rfl) Z dH) Z (Eg Z Z (fun hc=>B.loadP (qu Z hc) ag3 sz3) Z (Eg Z Z (fun hc=>B.eql (qu Z hc) Z) Z (E Z (B.pA Z Z Z Z Z) (Cb Z Z (fun h3=>?_) (fun h3=>?_)))))
 ·exact Rt Z (lF Z dI)
 exact E Z (B.catB Z Z dJ) (C Z (w215d false ((natAbs y) / (gcd (natAbs x) (natAbs y))) (fr_d ab)) Z Z Z (C Z (w161 (sgn false ((natAbs y) / (gcd (natAbs x) (natAbs y)))) (fr_t ab)) Z Z Z (E Z (B.catB Z Z dJ) (Rt Z (lF Z dI)))))
def qkB (q:Rat):Bool:=decide ((decDigits q.num.natAbs).length<=9/\(q.den=1\/(decDigits q.den).length<=9))
def qk1 (q:Rat):Int:=bif qkB q then q.num else 0
def qk2 (q:Rat):Int:=bif qkB q then (q.den:Int) else 0
def Dq (q:Rat):Nb:=decDigits q.num.natAbs++(if q.den=1 then [] else 47::decDigits q.den)
section
variable {q:Rat} {s D:Nb} {b:Bool} {n d:Int}
theorem qk_x:txt q=if q.num<0 then 45::Dq q else Dq q:=by
 unfold txt Dq Lib.itoa
 grind
theorem dq_47:∀ x∈decDigits q.num.natAbs,x≠47:=by rw[<-itoa_nat];exact itoa_47 _
theorem dq_h:jW (Dq q) [45]=false:=by
 unfold jW Dq
 cases h:decDigits q.num.natAbs with
 | nil=>exact absurd h (Un.ZE _)
 | cons c l=>
  have hc:=jE q.num.natAbs c (by rw[h];exact qh ..)
  have:¬((c::l++(if q.den=1 then [] else 47::decDigits q.den)).take ([45]:Nb).length=[45]):=by
   intro e
   simp only[z6,zQ,Xu,J8,Jz,WC] at e
   rw[e] at hc
   exact absurd hc ah
  grind
theorem qk_s (hs:s=txt q) (hb:jW s [45]=b):b=decide (q.num<0):=by
 rw[<-hb,hs,qk_x]
 by_cases h:q.num<0
 ·rw[WK h,hp_mn,zl h]
 rw[WJ h,dq_h,zk h]
theorem qk_D (hs:s=txt q) (hD:D=qC s [45]):D=Dq q:=by
 rw[hD,hs,qk_x]
 unfold qC
 by_cases h:q.num<0
 ·rw[WK h,hp_mn];rfl
 rw[WJ h,dq_h];rfl
theorem qk_1 (hb:jW s [45]=b) (h:b=true):1<=s.length:=by
 rw[h] at hb;unfold jW at hb
 grind
theorem slN_le:∀ D:Nb,slN D<=D.length
 | []=>zB _
 | c::l=>by
  have:=slN_le l
  grind [slN,List.length_cons]
theorem qk_t (hb:jW s [45]=b) (h2:b=true) (hD:D=qC s [45]):drop 1 s=D:=by grind [qC]
theorem qk_f (hb:jW s [45]=b) (h2:b=false) (hD:D=qC s [45]):s=D:=by grind [qC]
theorem dq_sl:slN (Dq q)=(decDigits q.num.natAbs).length:=by
 unfold Dq
 split
 ·rw[zR,sl_no dq_47]
 exact sl_at dq_47
theorem dq_len:(Dq q).length=(decDigits q.num.natAbs).length+(if q.den=1 then 0 else (decDigits q.den).length+1):=by
 unfold Dq
 split<;>simp
theorem qk_len (h:qkB q=true):(txt q).length<=20:=by
 have h:=X6 h
 have e:=dq_len (q:=q)
 grind [qk_x,List.length_cons]
theorem qk_no (h:qkB q=false):DV.tup [vI 0,vI 0,vB false]=.tup [vI (qk1 q),vI (qk2 q),vB (qkB q)]:=by
 unfold qk1 qk2
 rw[h];rfl
theorem qk_0 (hs:s=txt q) (h1:20<(s.length:Int)):DV.tup [vI 0,vI 0,vB false]=.tup [vI (qk1 q),vI (qk2 q),vB (qkB q)]:=by
 refine qk_no ?_
 cases h:qkB q with
 | false=>rfl
 | true=>have:=qk_len h;rw[hs] at h1;omega
theorem qk_k (hD:D=Dq q) (h:(bif decide (9<((slN D:Nat):Int)) then true else decide (10<(D.length:Int)-((slN D:Nat):Int)))=false):qkB q=true:=by
 obtain⟨h1,h2⟩:=dc_no h
 rw[hD,dq_sl] at h1 h2
 rw[dq_len] at h2
 refine zl ⟨aa,?_⟩
 grind
theorem qk_3 (hD:D=Dq q) (h:(bif decide (9<((slN D:Nat):Int)) then true else decide (10<(D.length:Int)-((slN D:Nat):Int)))=true):DV.tup [vI 0,vI 0,vB false]=.tup [vI (qk1 q),vI (qk2 q),vB (qkB q)]:=by
 refine qk_no (zk ?_)
 rintro⟨g1,g2⟩
 rcases dc_or h with h|h
 ·rw[hD,dq_sl] at h;omega
 rw[hD,dq_sl,dq_len] at h
 by_cases hq:q.den=1
 ·rw[WK hq] at h;omega
 grind
theorem qk_v (h:qkB q=true) (hn:n=q.num) (hd:d=(q.den:Int)):DV.tup [vI n,vI d,vB true]=.tup [vI (qk1 q),vI (qk2 q),vB (qkB q)]:=by
 unfold qk1 qk2
 rw[h,hn,hd];rfl
theorem qk_n (hs:s=txt q) (hb:jW s [45]=b) (h:b=true):0-(q.num.natAbs:Int)=q.num:=by
 have:=X6 ((qk_s hs hb).symm.trans h)
 omega
theorem qk_p (hs:s=txt q) (hb:jW s [45]=b) (h:b=false):(q.num.natAbs:Int)=q.num:=by
 have:=XM ((qk_s hs hb).symm.trans h)
 omega
theorem qk_d (hD:D=Dq q) (h:¬((slN D:Nat):Int)<(D.length:Int)):(1:Int)=(q.den:Int):=by
 rw[hD,dq_sl,dq_len] at h
 grind
theorem qk_b (hD:D=Dq q) (h:(bif decide (9<((slN D:Nat):Int)) then true else decide (10<(D.length:Int)-((slN D:Nat):Int)))=false):q.num.natAbs<1000000000:=by
 have hk:=(X6 (qk_k hD h)).1
 have h1:=kq (jE q.num.natAbs)
 rw[jG] at h1
 exact XJ h1 (Xj ah hk)
theorem w216n (q:Rat) (D:Nb) (hD:D=Dq q) (h:(bif decide (9<((slN D:Nat):Int)) then true else decide (10<(D.length:Int)-((slN D:Nat):Int)))=false):CKa 143 [vS (bsO (D.take (slN D)))] (vI (q.num.natAbs:Int)):=by
 have hk:=(X6 (qk_k hD h)).1
 have e:D.take (slN D)=decDigits q.num.natAbs:=by rw[hD,dq_sl,Dq,J6]
 rw[e]
 have:=w216 (decDigits q.num.natAbs) (jE _) aa
 rw[jG] at this
 exact this
theorem w216m (q:Rat) (D:Nb) (hD:D=Dq q) (h:(bif decide (9<((slN D:Nat):Int)) then true else decide (10<(D.length:Int)-((slN D:Nat):Int)))=false) (hl:slN D<D.length):CKa 143 [vS (bsO (D.drop (slN D+1)))] (vI (q.den:Int)):=by
 have hk:=(X6 (qk_k hD h)).2
 have hq:q.den≠1:=by grind [dq_sl,dq_len]
 have e:D.drop (slN D+1)=decDigits q.den:=by rw[hD,dq_sl,Dq,WJ hq,<-List.drop_drop,J1];rfl
 rw[e]
 have:=w216 (decDigits q.den) (jE _) (by rcases hk with g|g;exact absurd g hq;omega)
 rw[jG] at this
 exact this
end
theorem w157 (q:Rat) (s:Nb) (hs:s=txt q) (hl:s.length<=900000):CKa 81 [vS (bsO s)] (.tup [vI (qk1 q),vI (qk2 q),vB (qkB q)]):=by
 refine cG qf81 Z (nB Z) Z (E Z (B.ZM Z un9) (Cp Z Z (fun h1=>?_) (fun h1=>?_)))
 ·exact Rt Z (lF Z fg)
 refine E Z (B.ZM Z un9) ?_
 refine Em Z Z Z Z ?_
 refine Eg Z Z (fun hc=>B.sidx (qu Z hc) Z un9 Z (show 0<List.length s from dM)) Z (Eg Z Z (fun hc=>B.eql (qu Z hc) Z) Z (E Z (B.pA Z Z Z Z Z) ?_))
 refine tk 5 Z ?_
 refine tn ⟨[(5,vS (bsO s)),(6,vB (bif (decide (0<(s.length:Int))) then (decide ((byteAt (bsO s) 0)=45)) else false))],[]⟩ rfl rfl Z ?_
 rw[pr_h]
 generalize hb:jW s [45]=b
 obtain⟨D,hD⟩:∃ D,D=qC s [45]:=⟨_,rfl⟩
 have hb1:=qk_1 hb
 refine kc (Cb Z Z (fun h2=>?_) (fun h2=>?_))
 ·refine E Z (B.slLB Z Z un9 Z dM) ?_
  refine tk 7 Z ?_
  refine tn ⟨[(5,vS (bsO (drop 1 s))),(6,vB b)],[]⟩ rfl rfl Z ?_
  have hDs:=qk_D hs hD
  have hDl:D.length<=20:=by rw[hD];have:=trimP_len s [45];omega
  have hsl:=slN_le D
  rw[qk_t hb h2 hD]
  refine kc (C Z (w193 D aa) Z Z Z ?_)
  refine Em Z Z Z Z ?_
  refine Eg Z Z (fun hc=>B.ZM (qu Z hc) un9) Z ?_
  refine Em Z Z Z Z ?_
  refine Eg Z Z (fun hc=>B.sub (qu Z hc) (qu Z hc) dN) Z (Eg Z Z (fun hc=>B.gtr (qu Z hc) Z) Z (E Z (B.pO Z Z Z Z Z) (Cb Z Z (fun h3=>?_) (fun h3=>?_))))
  ·exact Rt Z (lF Z fg)
  refine E Z (B.slHB Z Z un9 Z dM) (C Z (w216n q D hDs ab) Z Z Z (E Z (B.ZM Z un9) (Cp Z Z (fun h4=>?_) (fun h4=>?_))))
  ·refine E Z (B.add Z Z dN) (E Z (B.slLB (i:=((slN D)+1)) Z Z un9 aa dM) (C Z (w216m q D hDs ab aa) Z Z Z (Cb Z Z (fun h5=>?_) (fun h5=>?_))))
   ·exact E Z (B.sub Z Z dN) (Rt Z (lF Z fg))
   grind
  refine Cb Z Z (fun h6=>?_) (fun h6=>?_)
  ·exact E Z (B.sub Z Z dN) (Rt Z (lF Z fg))
  grind
 refine tk 7 Z ?_
 refine tn ⟨[(5,vS (bsO s)),(6,vB b)],[]⟩ rfl rfl Z ?_
 have hDs:=qk_D hs hD
 have hDl:D.length<=20:=by rw[hD];have:=trimP_len s [45];omega
 have hsl:=slN_le D
 rw[qk_f hb h2 hD]
 refine kc (C Z (w193 D aa) Z Z Z ?_)
 refine Em Z Z Z Z ?_
 refine Eg Z Z (fun hc=>B.ZM (qu Z hc) un9) Z ?_
 refine Em Z Z Z Z ?_
 refine Eg Z Z (fun hc=>B.sub (qu Z hc) (qu Z hc) dN) Z (Eg Z Z (fun hc=>B.gtr (qu Z hc) Z) Z (E Z (B.pO Z Z Z Z Z) (Cb Z Z (fun h7=>?_) (fun h7=>?_))))
 ·exact Rt Z (lF Z fg)
 refine E Z (B.slHB Z Z un9 Z dM) (C Z (w216n q D hDs ab) Z Z Z (E Z (B.ZM Z un9) (Cp Z Z (fun h8=>?_) (fun h8=>?_))))
 ·refine E Z (B.add Z Z dN) (E Z (B.slLB (i:=((slN D)+1)) Z Z un9 aa dM) (C Z (w216m q D hDs ab aa) Z Z Z (Cb Z Z (fun h9=>?_) (fun h9=>?_))))
  ·grind
  exact Rt Z (lF Z fg)
 refine Cb Z Z (fun h10=>?_) (fun h10=>?_)
 ·grind
 exact Rt Z (lF Z fg)
section
variable {n d X Y:Int} {q:Rat}
theorem of_c (hn: -4000000000000000000<=n/\n<=4000000000000000000) (hd: -4000000000000000000<=d/\d<=4000000000000000000):¬(bif (bif (bif decide (n<(-4000000000000000000)) then true else decide (4000000000000000000<n)) then true else decide (d<(-4000000000000000000))) then true else decide (4000000000000000000<d))=true:=by
 rw[zk (show ¬n < -4000000000000000000 by omega),zk (show ¬4000000000000000000<n by omega),zk (show ¬d < -4000000000000000000 by omega),zk (show ¬4000000000000000000<d by omega)]
 decide
theorem of_xy (n d:Int):∃ X Y:Int,(d<0->X=0-n/\Y=0-d)/\(¬d<0->X=n/\Y=d):=by
 by_cases h:d<0
 ·exact⟨_,_,fun _=>⟨rfl,rfl⟩,fun g=>absurd h g⟩
 exact⟨_,_,fun g=>absurd g h,fun _=>⟨rfl,rfl⟩⟩
theorem of_b (hX:(d<0->X=0-n/\Y=0-d)/\(¬d<0->X=n/\Y=d)) (hn: -4000000000000000000<=n/\n<=4000000000000000000) (hd: -4000000000000000000<=d/\d<=4000000000000000000) (h0:d≠0):0<Y/\Y<=4000000000000000000/\ -4000000000000000000<=X/\X<=4000000000000000000:=by
 by_cases h:d<0
 ·have:=hX.1 h;omega
 have:=hX.2 h;omega
theorem of_f (hX:(d<0->X=0-n/\Y=0-d)/\(¬d<0->X=n/\Y=d)):frq X Y=frq n d:=by
 by_cases h:d<0
 ·obtain⟨rfl,rfl⟩:=hX.1 h;rw[Kx,Kx,frq_neg]
 obtain⟨rfl,rfl⟩:=hX.2 h;rfl
theorem of_pos (hY:0<Y):0<gcd X.natAbs Y.natAbs:=QN _ aa
theorem of_p (hX:(d<0->X=0-n/\Y=0-d)/\(¬d<0->X=n/\Y=d)) (h0:d≠0):Int.tdiv X ((gcd X.natAbs Y.natAbs:Nat):Int)=(frq n d).num/\Int.tdiv Y ((gcd X.natAbs Y.natAbs:Nat):Int)=((frq n d).den:Int):=by
 have hY:0<Y:=by
  by_cases h:d<0
  ·have:=hX.1 h;omega
  have:=hX.2 h;omega
 obtain⟨e1,e2⟩:=fr_q (X:=X) hY
 rw[<-of_f hX,e1,e2]
 constructor
 ·unfold sgn
  by_cases h:X<0
  ·rw[zl h,WK rfl,show X= -(X.natAbs:Int) by omega,Int.neg_tdiv,JX,XA];rfl
  rw[zk h,WJ ao,show Int.tdiv X _=Int.tdiv (X.natAbs:Int) ((gcd X.natAbs Y.natAbs:Nat):Int) by rw[show (X.natAbs:Int)=X by omega]];rfl
 rw[show Int.tdiv Y _=Int.tdiv (Y.natAbs:Int) ((gcd X.natAbs Y.natAbs:Nat):Int) by rw[show (Y.natAbs:Int)=Y by omega]];rfl
theorem w154m (X Y:Int) (hY:0<Y) (hY2:Y<=4000000000000000000) (hX: -4000000000000000000<=X/\X<=4000000000000000000):CKa 144 [vI (max X (0-X)),vI Y] (vI ((gcd X.natAbs Y.natAbs:Nat):Int)):=by
 have:=w154 X.natAbs Y.natAbs aa aa
 rwa [show (X.natAbs:Int)=max X (0-X) by omega,show (Y.natAbs:Int)=Y by omega] at this
theorem w155m (X:Int) (h:X.natAbs<9223372036854775808):CKa 145 [vI (max X (0-X)),vI 1] (vS (bsO (padN 1 X.natAbs))):=by
 have:=w155 X.natAbs 1 h ah ah
 rwa [show (X.natAbs:Int)=max X (0-X) by omega] at this
theorem of_g (hY:0<Y):((gcd X.natAbs Y.natAbs:Nat):Int)≠0:=by have:=of_pos (X:=X) hY;omega
theorem of_g2 (hY:0<Y):0<((gcd X.natAbs Y.natAbs:Nat):Int):=by have:=of_pos (X:=X) hY;omega
theorem of_t (x:Int) (g:Nat):(Int.tdiv x (g:Int)).natAbs<=x.natAbs:=by rw[Int.natAbs_tdiv];exact JG _ _
theorem of_rn (hB:0<Y/\Y<=4000000000000000000/\ -4000000000000000000<=X/\X<=4000000000000000000): -9223372036854775808<=Int.tdiv X ((gcd X.natAbs Y.natAbs:Nat):Int)/\Int.tdiv X ((gcd X.natAbs Y.natAbs:Nat):Int)<9223372036854775808:=by
 have:=of_t X (gcd X.natAbs Y.natAbs);omega
theorem of_rd (hB:0<Y/\Y<=4000000000000000000/\ -4000000000000000000<=X/\X<=4000000000000000000): -9223372036854775808<=Int.tdiv Y ((gcd X.natAbs Y.natAbs:Nat):Int)/\Int.tdiv Y ((gcd X.natAbs Y.natAbs:Nat):Int)<9223372036854775808:=by
 have:=of_t Y (gcd X.natAbs Y.natAbs);omega
theorem of_n (hX:(d<0->X=0-n/\Y=0-d)/\(¬d<0->X=n/\Y=d)) (hn: -4000000000000000000<=n/\n<=4000000000000000000) (hd: -4000000000000000000<=d/\d<=4000000000000000000) (h0:d≠0):(frq n d).num.natAbs<9223372036854775808:=by
 rw[<-(of_p hX h0).1]
 have:=of_t X (gcd X.natAbs Y.natAbs);have:=of_b hX hn hd h0;omega
theorem of_d (hX:(d<0->X=0-n/\Y=0-d)/\(¬d<0->X=n/\Y=d)) (hn: -4000000000000000000<=n/\n<=4000000000000000000) (hd: -4000000000000000000<=d/\d<=4000000000000000000) (h0:d≠0):(frq n d).den<9223372036854775808:=by
 have e:=(of_p hX h0).2
 have:=of_t Y (gcd X.natAbs Y.natAbs);have:=of_b hX hn hd h0;omega
theorem ofs_1 (h:q.num<0):sgT q.num=[45]:=WK h
theorem ofs_2 (h:¬q.num<0):sgT q.num=[]:=WJ h
theorem pad1 (n:Nat):padN 1 n=decDigits n:=by
 unfold padN
 have:=Xr.2 (Un.ZE n)
 rw[show 1-(decDigits n).length=0 by omega];rfl
theorem of_l1 {n:Nat} (h:n<9223372036854775808):(padN 1 n).length<=20:=by
 rw[pad_len]
 have:=dec_len (n:=n) (k:=20) ah (KK h ah)
 omega
theorem of_l3 (z:Int):(sgT z).length<=1:=by unfold sgT;split<;>decide
theorem sg_i (z:Int):sgT z++padN 1 z.natAbs=Lib.itoa z:=by
 rw[pad1];unfold sgT Lib.itoa
 by_cases h:z<0
 ·rw[WK h,WK h];rfl
 rw[WJ h,WJ h,show z.natAbs=z.toNat by omega];rfl
theorem of_e1 (h:1<(q.den:Int)):vS (bsO (((sgT q.num++padN 1 q.num.natAbs)++[47])++padN 1 q.den))=vS (bsO (txt q)):=by
 rw[sg_i,pad1,txt_2 aa,zZ];rfl
theorem of_e2 (h:¬1<(q.den:Int)):vS (bsO (sgT q.num++padN 1 q.num.natAbs))=vS (bsO (txt q)):=by
 have:=q.den_pos
 rw[sg_i,txt_1 aa]
end
theorem w59 (n d:Int) (hd0:d≠0) (hn: -4000000000000000000<=n/\n<=4000000000000000000) (hd: -4000000000000000000<=d/\d<=4000000000000000000):CKa 82 [vI n,vI d] (vS (bsO (txt (frq n d)))):=by
 refine cG qf82 Z (nB Z) Z ?_
 refine Em Z Z Z Z ?_
 refine Eg Z Z (fun hc=>B.gtr (qu Z hc) Z) Z (E Z (B.pO Z Z Z Z Z) ?_)
 refine Em Z Z Z Z ?_
 refine Eg Z Z (fun hc=>B.lss (qu Z hc) Z) Z (E Z (B.pO Z Z Z Z Z) ?_)
 refine Em Z Z Z Z ?_
 refine Eg Z Z (fun hc=>B.gtr (qu Z hc) Z) Z (E Z (B.pO Z Z Z Z Z) (Cb Z Z (fun h1=>?_) (fun h1=>?_)))
 ·exact absurd h1 (of_c hn hd)
 obtain⟨X,Y,hX⟩:=of_xy n d
 have hB:=of_b hX hn hd hd0
 have hP:=of_p hX hd0
 refine Cj [(0,vI X),(1,vI Y)] [] Z Z Z (fun h2=>?_) (fun h2=>?_) ?_
 ·replace h2:=X6 h2
  refine E Z (B.sub Z Z dO) (E Z (B.sub Z Z dO) (pk Z ?_))
  show Sub _ _ _
  first|rw[(hX.1 ab).1,(hX.1 ab).2]|rw[(hX.2 ab).1,(hX.2 ab).2]
  exact sb Z Z rfl
 ·replace h2:=XM h2
  refine pk Z ?_
  show Sub _ _ _
  first|rw[(hX.1 ab).1,(hX.1 ab).2]|rw[(hX.2 ab).1,(hX.2 ab).2]
  exact sb Z Z rfl
 refine E Z (B.sub Z Z dO) (E Z (B.max Z Z) (C Z (w154m X Y hB.1 hB.2.1 hB.2.2) Z Z Z (E Z (B.quo Z Z ⟨dP,dO⟩) (E Z (B.quo Z Z ⟨dP,dO⟩) (Dr Z ae ?_)))))
 refine tk 7 Z ?_
 refine tn ⟨[(0,vI (Int.tdiv X (((gcd (natAbs X) (natAbs Y)):Nat):Int))),(1,vI (Int.tdiv Y (((gcd (natAbs X) (natAbs Y)):Nat):Int)))],[]⟩ rfl rfl Z ?_
 rw[hP.1,hP.2]
 refine kc (Cj [(0,vI (Rat.num (frq n d))),(1,vI ((Rat.den (frq n d):Nat):Int)),(6,vS (bsO (sgT (Rat.num (frq n d)))))] [] Z Z Z (fun h3=>?_) (fun h3=>?_) ?_)
 ·replace h3:=X6 h3
  refine pk Z ?_
  show Sub _ _ _
  first|rw[ofs_1 ab]|rw[ofs_2 ab]
  exact sb Z Z rfl
 ·replace h3:=XM h3
  refine pk Z ?_
  show Sub _ _ _
  first|rw[ofs_1 ab]|rw[ofs_2 ab]
  exact sb Z Z rfl
 refine E Z (B.sub Z Z dO) (E Z (B.max Z Z) (C Z (w155m (Rat.num (frq n d)) (of_n hX hn hd hd0)) Z Z Z (E Z (B.catB Z Z dQ) (Cp Z Z (fun h4=>?_) (fun h4=>?_)))))
 ·exact E Z (B.catB Z Z dQ) (C Z (w155 (Rat.den (frq n d)) 1 (of_d hX hn hd hd0) ah ah) Z Z Z (E Z (B.catB Z Z dQ) (Rt Z (lF Z dR))))
 exact Rt Z (lF Z dR)
section
variable {q r:Rat} {z:Int}
theorem tz_0:txt 0=[48]:=ae
theorem tz_1:txt q=[48]↔q.num=0:=by
 constructor
 ·intro h
  rw[qk_x] at h
  by_cases g:q.num<0
  ·rw[WK g] at h;cases h
  rw[WJ g] at h
  unfold Dq at h
  have h1:decDigits q.num.natAbs=[48]:=by
   cases e:decDigits q.num.natAbs with
   | nil=>exact absurd e (Un.ZE _)
   | cons a l=>
    rw[e,zQ] at h
    simp only[Jz,QW] at h
    rw[h.1,h.2.1]
  have h2:=jG q.num.natAbs
  rw[h1] at h2
  have h3:q.num.natAbs=0:=h2.symm.trans ah
  omega
 intro h
 have e:q=0:=JT.1 h
 rw[e];exact tz_0
theorem sn_1 (h:txt q=[48]):0=j8 q.num:=by rw[tz_1.1 h];rfl
theorem sn_c:(bif decide (0<(((txt q).length:Nat):Int)) then decide (byteAt (bsO (txt q)) 0=45) else false)=decide (q.num<0):=by
 have e0:∀ (a:UInt8) (l:Nb),decide (byteAt (bsO (a::l)) 0=45)=decide (a=45):=fun a l=>by
  refine Jq.2 ?_
  rw[byteAt_bsO]
  show (a.toNat:Int)=45↔_
  constructor
  ·intro h;exact JU.1 (by have:(45:UInt8).toNat=45:=rfl;omega)
  intro h;rw[h];rfl
 by_cases g:q.num<0
 ·rw[qk_x,WK g,zl g,e0];simp
 rw[qk_x,WJ g,zk g]
 have:=dq_h (q:=q)
 unfold jW at this
 cases e:Dq q with
 | nil=>rfl
 | cons a l=>
  grind
theorem sn_2 (h0:¬txt q=[48]) (h:(bif decide (0<(((txt q).length:Nat):Int)) then decide (byteAt (bsO (txt q)) 0=45) else false)=true): -1=j8 q.num:=by grind [sn_c,j8]
theorem sn_3 (h0:¬txt q=[48]) (h:(bif decide (0<(((txt q).length:Nat):Int)) then decide (byteAt (bsO (txt q)) 0=45) else false)=false):1=j8 q.num:=by
 rw[sn_c] at h
 have h1:¬q.num=0:=fun e=>h0 (tz_1.2 e)
 grind [j8]
theorem sg_lt {z:Int}:j8 z<0↔z<0:=by grind [j8]
theorem sg_0 {z:Int}:j8 z=0↔z=0:=by grind [j8]
theorem ng_l (h:j8 q.num<0):1<=(txt q).length:=by rw[qk_x,WK (sg_lt.1 h)];simp
theorem dq_ng:Dq (-q)=Dq q:=by unfold Dq;rw[Wo,Rat.neg_den,JX]
theorem ng_1 (h:j8 q.num<0):(txt q).drop 1=txt (-q):=by rw[qk_x,qk_x,WK (sg_lt.1 h),WJ (by rw[Wo];have:=sg_lt.1 h;omega),dq_ng];rfl
theorem ng_2 (h:j8 q.num=0):txt q=txt (-q):=by rw[JT.1 (sg_0.1 h)];rfl
theorem ng_3 (h:¬j8 q.num<0) (h2:¬j8 q.num=0):[45]++txt q=txt (-q):=by
 have h3:¬q.num<0:=fun e=>h (sg_lt.2 e)
 have h4:¬q.num=0:=fun e=>h2 (sg_0.2 e)
 rw[qk_x,qk_x,WJ h3,WK (by rw[Wo];omega),dq_ng];rfl
theorem itoa_txt (z:Int):Lib.itoa z=txt (z:Rat):=(txt_1 (q:=(z:Rat)) Z).symm
theorem ab_l (h:j8 z<0):1<=(Lib.itoa z).length:=by unfold Lib.itoa;rw[WK (sg_lt.1 h)];simp
theorem ab_1 (h:j8 z<0):(Lib.itoa z).drop 1=decDigits z.natAbs:=by unfold Lib.itoa;rw[WK (sg_lt.1 h)];rfl
theorem ab_2 (h:¬j8 z<0):Lib.itoa z=decDigits z.natAbs:=by
 have h3:¬z<0:=fun e=>h (sg_lt.2 e)
 unfold Lib.itoa;rw[WJ h3,show z.toNat=z.natAbs by omega]
theorem tx_sl:slN (txt q)=(Lib.itoa q.num).length:=by
 by_cases h:q.den=1
 ·rw[txt_1 h,sl_no (itoa_47 _)]
 rw[txt_2 h,sl_at (itoa_47 _)]
theorem rnu_1:(txt q).take (slN (txt q))=Lib.itoa q.num:=by
 rw[tx_sl]
 by_cases h:q.den=1
 ·rw[txt_1 h,Jg]
 rw[txt_2 h,J6]
theorem rnu_2 (h:((slN (txt q):Nat):Int)=(((txt q).length:Nat):Int)):[49]=decDigits q.den:=by
 rw[tx_sl] at h
 by_cases g:q.den=1
 ·rw[g];kernel_rfl
 rw[txt_2 g,za,zb] at h;omega
theorem rnu_3 (h:¬((slN (txt q):Nat):Int)=(((txt q).length:Nat):Int)):(txt q).drop (slN (txt q)+1)=decDigits q.den:=by
 rw[tx_sl] at h ⊢
 by_cases g:q.den=1
 ·rw[txt_1 g] at h;exact absurd Z h
 rw[txt_2 g,<-List.drop_drop,J1];rfl
theorem dig_bl {n B:Nat} (h:q9 n<=B):(dig K9 n).length<=B / 29+1:=by
 refine je js (XJ (kw n) ?_)
 refine qd (Xj ah (show q9 n<=29*(B / 29+1) by omega)) ?_
 rw[Wi]
 exact Xx ah _
theorem dig_b2 {n:Nat} (h:q9 n<=2000000):(dig K9 n).length<=100000:=qd (dig_bl h) ah
theorem ar_n (h:sz q<=1000000):(dig K9 q.num.natAbs).length<=100000:=dig_b2 (by have:=sz_n q;omega)
theorem ar_d (h:sz q<=1000000):(dig K9 (q.den:Int).natAbs).length<=100000:=dig_b2 (by rw[XA];have:=sz_d q;omega)
theorem ar_m {x y:Int} (h:q9 x.natAbs+q9 y.natAbs<=1999999):(dig K9 (x*y).natAbs).length<=100000:=dig_b2 (by rw[JW];have:=bl_mul x.natAbs y.natAbs;omega)
theorem ar_g {x y u v:Int} {k:Nat} (h:q9 x.natAbs+q9 y.natAbs<=k/\q9 u.natAbs+q9 v.natAbs<=k):(x*y+u*v).natAbs<2 ^ (k+1):=by
 have h1:=kw (x*y).natAbs
 have h2:=kw (u*v).natAbs
 have h3:=bl_mul x.natAbs y.natAbs
 have h4:=bl_mul u.natAbs v.natAbs
 rw[JW] at h1 h2
 have h5:2 ^ q9 (x.natAbs*y.natAbs)<=2 ^ k:=Xj ah aa
 have h6:2 ^ q9 (u.natAbs*v.natAbs)<=2 ^ k:=Xj ah aa
 have h7:(2:Nat) ^ (k+1)=2 ^ k*2:=KN ..
 have h8:=XS (x*y) (u*v)
 grind [Int.natAbs_mul]
theorem ar_s {x y u v:Int} (h:q9 x.natAbs+q9 y.natAbs<=1999999/\q9 u.natAbs+q9 v.natAbs<=1999999):(dig K9 (x*y+u*v).natAbs).length<=100000:=
 dig_b2 (jj (k:=1999999+1) (ar_g (k:=1999999) h))
theorem ar_t (h:sz q<=1000000):(txt q).length<=900000:=by
 have key:∀ n:Nat,q9 n<=1000000->(decDigits n).length<=9*34483:=fun n hn=>by
  have h1:=dig_bl hn
  have h2:=XJ (jB js n) (Xj (show 0<K9 by decide) (show (dig K9 n).length<=34483 by omega))
  exact dec_k9 ah h2
 have h1:=key q.num.natAbs (by have:=sz_n q;omega)
 have h2:=key q.den (by have:=sz_d q;omega)
 have h3:=dq_len (q:=q)
 grind [qk_x,List.length_cons]
theorem Zt {a b:Bool} (h:(bif a then b else false)=true):a=true/\b=true:=by cases a<;>simp_all
theorem qk_e (h:qkB q=true):qk1 q=q.num/\qk2 q=(q.den:Int):=by grind [qk1,qk2]
theorem qk_bd (h:qkB q=true):q.num.natAbs<1000000000/\q.den<1000000000:=by
 have hk:=X6 h
 have h1:=kq (jE q.num.natAbs)
 have h2:=kq (jE q.den)
 rw[jG] at h1 h2
 refine⟨XJ h1 (Xj ah hk.1),?_⟩
 rcases hk.2 with g|g
 ·rw[g];decide
 exact XJ h2 (Xj ah g)
theorem ar_p {x y:Int} (hx:x.natAbs<1000000000) (hy:y.natAbs<1000000000): -1000000000000000000<=x*y/\x*y<=1000000000000000000:=by
 have h:(x*y).natAbs<=1000000000*1000000000:=by rw[JW];exact Ka aa aa
 omega
theorem ar_q (h1:qkB q=true) (h2:qkB r=true):(q.den:Int)*(r.den:Int)≠0/\(-1000000000000000000<=(q.den:Int)*(r.den:Int)/\(q.den:Int)*(r.den:Int)<=1000000000000000000)/\(-1000000000000000000<=q.num*(r.den:Int)/\q.num*(r.den:Int)<=1000000000000000000)/\(-1000000000000000000<=r.num*(q.den:Int)/\r.num*(q.den:Int)<=1000000000000000000)/\ -1000000000000000000<=q.num*r.num/\q.num*r.num<=1000000000000000000:=by
 have a:=qk_bd h1
 have b:=qk_bd h2
 have n1:=q.den_nz
 have n2:=r.den_nz
 exact⟨Ju aa aa,ar_p aa aa,ar_p aa aa,ar_p aa aa,ar_p aa aa⟩
theorem ar_0:(q.den:Int)*(r.den:Int)≠0:=by
 have n1:=q.den_nz
 have n2:=r.den_nz
 exact Ju aa aa
theorem dn_c (q:Rat):(((q.den:Nat):Int):Rat)≠0:=icast_ne aZ
theorem dn_e (q:Rat):q=(q.num:Rat) / (((q.den:Nat):Int):Rat):=(Rat.num_divInt_den q).symm.trans (X3 _ _)
theorem ad_1:frq (q.num*(r.den:Int)+r.num*(q.den:Int)) (((q.den:Nat):Int)*(r.den:Int))=q+r:=by
 unfold frq
 rw[JP,JR,JR,JR]
 conv=>rhs;rw[dn_e q,dn_e r]
 have h1:=dn_c q
 have h2:=dn_c r
 grind
theorem rmu_1:frq (q.num*r.num) (((q.den:Nat):Int)*(r.den:Int))=q*r:=by
 unfold frq
 rw[JR,JR]
 conv=>rhs;rw[dn_e q,dn_e r]
 grind
end
theorem un23:tab.underlying 23=some (.string):=ae
theorem w137 (q:Rat) (hl:(txt q).length<=900000):CKa 87 [vS (bsO (txt q))] (vI (j8 (Rat.num q))):=by
 refine cG qf87 Z (nB Z) Z (E Z (B.seqB Z Z) (Cp Z Z (fun h1=>?_) (fun h1=>?_)))
 ·exact Rt Z (lF Z dS)
 refine E Z (B.ZM Z un23) ?_
 refine Em Z Z Z Z ?_
 refine Eg Z Z (fun hc=>B.sidx (qu Z hc) Z un23 Z (show 0<List.length (txt q) from bh)) Z (Eg Z Z (fun hc=>B.eql (qu Z hc) Z) Z (E Z (B.pA Z Z Z Z Z) (Cb Z Z (fun h2=>?_) (fun h2=>?_))))
 ·exact Rt Z (lF Z dS)
 exact Rt Z (lF Z dS)
theorem w137z (z:Int) (hl:(Lib.itoa z).length<=900000):CKa 87 [vS (bsO (Lib.itoa z))] (vI (j8 z)):=by
 rw[itoa_txt] at hl ⊢
 exact w137 (z:Rat) hl
theorem w87 (q:Rat) (hl:(txt q).length<=900000):CKa 36 [vS (bsO (txt q))] (vS (bsO (txt (-q)))):=by
 refine cG qf36 Z (nB Z) Z (C Z (w137 q hl) Z Z Z (Cp Z Z (fun h1=>?_) (fun h1=>?_)))
 ·exact E Z (B.slLB Z Z un23 Z (by exact ng_l ab)) (Rt Z (lF Z dT))
 refine C Z (w137 q hl) Z Z Z (Cp Z Z (fun h2=>?_) (fun h2=>?_))
 ·exact Rt Z (lF Z dT)
 exact E Z (B.catB Z Z cg) (Rt Z (lF Z dT))
theorem w63 (z:Int) (hl:(Lib.itoa z).length<=900000):CKa 140 [vS (bsO (Lib.itoa z))] (vS (bsO (decDigits (natAbs z)))):=by
 refine cG qf140 Z (nB Z) Z (C Z (w137z z hl) Z Z Z (Cp Z Z (fun h1=>?_) (fun h1=>?_)))
 ·exact E Z (B.slLB Z Z un23 Z (by exact ab_l ab)) (Rt Z (lF Z dU))
 exact Rt Z (lF Z dU)
theorem w207 (q:Rat) (hl:(txt q).length<=900000):CKa 141 [vS (bsO (txt q))] (vS (bsO (Lib.itoa (Rat.num q)))):=by
 exact cG qf141 Z (nB Z) Z (C Z (w193 (txt q) aa) Z Z Z (E Z (B.slHB Z Z un23 Z (by exact slN_le _)) (Rt Z (lF Z (by exact WD (fun a=>vS (bsO a)) rnu_1)))))
theorem w208 (q:Rat) (hl:(txt q).length<=900000):CKa 142 [vS (bsO (txt q))] (vS (bsO (decDigits (Rat.den q)))):=by
 refine cG qf142 Z (nB Z) Z (C Z (w193 (txt q) aa) Z Z Z (E Z (B.ZM Z un23) (Cp Z Z (fun h1=>?_) (fun h1=>?_))))
 ·exact Rt Z (lF Z dV)
 exact E Z (B.add Z Z (by unfold R64;have:=slN_le (txt q);omega)) (E Z (B.slLB (i:=((slN (txt q))+1)) Z Z un23 aa (by have:=slN_le (txt q);omega)) (Rt Z (lF Z dV)))
theorem w67 (q r:Rat) (hs:sz q+sz r<=1000000):CKa 32 [vS (bsO (txt q)),vS (bsO (txt r))] (vS (bsO (txt (q+r)))):=by
 refine cG qf32 Z (nB Z) Z (C Z (w157 q (txt q) Z (ar_t aa)) Z Z Z (C Z (w157 r (txt r) Z (ar_t aa)) Z Z Z ?_))
 refine Em Z Z Z Z ?_
 refine E Z (B.pA Z Z Z Z Z) (Cb Z Z (fun h1=>?_) (fun h1=>?_))
 ·refine tk 4 Z ?_
  refine tn ⟨[(5,vI (qk1 q)),(6,vI (qk2 q)),(8,vI (qk1 r)),(9,vI (qk2 r))],[]⟩ rfl rfl Z ?_
  have hk:=Zt h1
  rw[(qk_e hk.1).1,(qk_e hk.1).2,(qk_e hk.2).1,(qk_e hk.2).2]
  have hb:=ar_q hk.1 hk.2
  exact kc (E Z (B.mul Z Z bg) (E Z (B.mul Z Z bg) (E Z (B.add Z Z bg) (E Z (B.mul Z Z bg) (C Z (w59 (((Rat.num q)*((Rat.den r:Nat):Int))+((Rat.num r)*((Rat.den q:Nat):Int))) (((Rat.den q:Nat):Int)*((Rat.den r:Nat):Int)) hb.1 aa aa) Z Z Z (Rt Z (lF Z dW)))))))
 have z1:=sz_n q
 have z2:q9 (natAbs ((Rat.den q:Nat):Int))<=sz q:=sz_d q
 have z3:=sz_n r
 have z4:q9 (natAbs ((Rat.den r:Nat):Int))<=sz r:=sz_d r
 exact C Z (w158 q (ar_t aa)) Z Z Z (E Z (B.bN Z Z) (E Z (B.bN Z Z) (C Z (w158 r (ar_t aa)) Z Z Z (E Z (B.bN Z Z) (E Z (B.bN Z Z) (C Z (w160 (Rat.num q) ((Rat.den r:Nat):Int) (ar_n aa) (ar_d aa)) Z Z Z (C Z (w160 (Rat.num r) ((Rat.den q:Nat):Int) (ar_n aa) (ar_d aa)) Z Z Z (C Z (w159 ((Rat.num q)*((Rat.den r:Nat):Int)) ((Rat.num r)*((Rat.den q:Nat):Int)) (ar_m aa) (ar_m aa)) Z Z Z (C Z (w160 ((Rat.den q:Nat):Int) ((Rat.den r:Nat):Int) (ar_d aa) (ar_d aa)) Z Z Z (C Z (w152 (((Rat.num q)*((Rat.den r:Nat):Int))+((Rat.num r)*((Rat.den q:Nat):Int))) (((Rat.den q:Nat):Int)*((Rat.den r:Nat):Int)) ar_0 (ar_s aa) (ar_m aa)) Z Z Z (Dr Z ae (Rt Z (lF Z dW)))))))))))))
theorem w69 (q r:Rat) (hs:sz q+sz r<=1000000):CKa 33 [vS (bsO (txt q)),vS (bsO (txt r))] (vS (bsO (txt (q*r)))):=by
 refine cG qf33 Z (nB Z) Z (C Z (w157 q (txt q) Z (ar_t aa)) Z Z Z (C Z (w157 r (txt r) Z (ar_t aa)) Z Z Z ?_))
 refine Em Z Z Z Z ?_
 refine E Z (B.pA Z Z Z Z Z) (Cb Z Z (fun h1=>?_) (fun h1=>?_))
 ·refine tk 4 Z ?_
  refine tn ⟨[(5,vI (qk1 q)),(6,vI (qk2 q)),(8,vI (qk1 r)),(9,vI (qk2 r))],[]⟩ rfl rfl Z ?_
  have hk:=Zt h1
  rw[(qk_e hk.1).1,(qk_e hk.1).2,(qk_e hk.2).1,(qk_e hk.2).2]
  have hb:=ar_q hk.1 hk.2
  exact kc (E Z (B.mul Z Z bg) (E Z (B.mul Z Z bg) (C Z (w59 ((Rat.num q)*(Rat.num r)) (((Rat.den q:Nat):Int)*((Rat.den r:Nat):Int)) hb.1 aa aa) Z Z Z (Rt Z (lF Z dX)))))
 have z1:=sz_n q
 have z2:q9 (natAbs ((Rat.den q:Nat):Int))<=sz q:=sz_d q
 have z3:=sz_n r
 have z4:q9 (natAbs ((Rat.den r:Nat):Int))<=sz r:=sz_d r
 exact C Z (w158 q (ar_t aa)) Z Z Z (E Z (B.bN Z Z) (E Z (B.bN Z Z) (C Z (w158 r (ar_t aa)) Z Z Z (E Z (B.bN Z Z) (E Z (B.bN Z Z) (C Z (w160 (Rat.num q) (Rat.num r) (ar_n aa) (ar_n aa)) Z Z Z (C Z (w160 ((Rat.den q:Nat):Int) ((Rat.den r:Nat):Int) (ar_d aa) (ar_d aa)) Z Z Z (C Z (w152 ((Rat.num q)*(Rat.num r)) (((Rat.den q:Nat):Int)*((Rat.den r:Nat):Int)) ar_0 (ar_m aa) (ar_m aa)) Z Z Z (Dr Z ae (Rt Z (lF Z dX)))))))))))
end Go.Lens.Tb
end
section
namespace Go.Lens.Tb
open Go.Proofs Go.Lens.Un
variable [Lz] [Dn]
attribute [local irreducible] TK PK T RG EfR Body CG
section
variable {n m low high:Int}
theorem wn_1 (h:(bif decide (n<low) then true else decide (high<n))=true):3=ja n low high:=by
 unfold ja outF j5
 rcases dc_or h with h|h
 ·rw[zl h];rfl
 rw[zl h,Ko];rfl
theorem wn_2 (h:(bif decide (n<low) then true else decide (high<n))=false):0=ja n low high:=by
 obtain⟨h1,h2⟩:=dc_no h
 unfold ja outF j5
 rw[zk h1,zk h2];rfl
end
theorem fa63_0:fadQ tab 63 0=some 0:=ae
theorem w62b (s:Nb):CKa 60 [vS (bsO s)] (vB (decide (s=[48]))):=by
 exact cG qf60 Z (nB Z) Z (E Z (B.seqB Z Z) (Rt Z (lF Z Z)))
theorem w27 (l:List Int) (hl:l.length<=1000000000000000):CKa 14 [vL eI l] (vI (qK l)):=by
 refine cG qf14 Z (nB Z) Z (l1 (fun (k:Nat)=>[(0,vL eI l),(3,vI (k:Int))]) (fun _=>[]) (fun k=>k<=l.length/\qK l=qK (drop k l)) (fun k=>l.length-k) 0 Z ?_ (sb Z Z Z) ?_)
 · exact⟨zt _,rfl⟩
 intro k hI0
 refine E Z (B.ju Z jy) (Cp Z Z (fun h1=>?_) (fun h1=>?_))
 ·refine E Z (B.idx (z:=0) Z Z jy sz3 (fun _=>rfl) Z aa) (Cp Z Z (fun h2=>?_) (fun h2=>?_))
  ·exact E Z (B.idx (z:=0) Z Z jy sz3 (fun _=>rfl) Z aa) (Rt Z (lF Z (li cp)))
  refine E Z (B.add Z Z bg) (pk Z (L1 (k+1) ?_ ?_ (sb Z Z Z)))
  · (refine⟨aa,?_⟩;rw[hI0.2,drop_at l k 0 aa,qK,WK aa])
  · omega
 exact Rt Z (lF Z (li cp))
theorem w105 (n low high:Int):CKa 61 [vI n,vI low,vI high] (vI (ja n low high)):=by
 refine cG qf61 Z (nB Z) Z ?_
 refine Em Z Z Z Z ?_
 refine Em Z Z Z Z ?_
 refine Eg Z Z (fun hc=>B.gtr (qu Z hc) (qu Z hc)) Z (E Z (B.pO Z Z Z Z Z) (Cb Z Z (fun h1=>?_) (fun h1=>?_)))
 ·exact Rt Z (lF Z (li dY))
 exact Rt Z (lF Z (li dY))
structure RfOk (P:PL):Prop where
 k:∀ p∈P,(0<=p.1.1/\p.1.1<=1000)/\0<=p.1.2/\p.1.2<=1000
 l:P.length<=700
 s:szP P<=240000
instance {P:PL}:Decidable (RfOk P):=decidable_of_iff ((∀ p∈P,(0<=p.1.1/\p.1.1<=1000)/\0<=p.1.2/\p.1.2<=1000)/\P.length<=700/\szP P<=240000) ⟨fun h=>⟨h.1,h.2.1,h.2.2⟩,fun h=>⟨h.k,h.l,h.s⟩⟩
end Go.Lens.Tb
end
section
namespace Go.Lens.Tb
open Go.Proofs Go.Lens.Un
variable [Lz] [Dn]
attribute [local irreducible] TK PK T RG EfR Body CG
open Un.R
def dgB (s:Nb):Bool:=s.all fun c=>decide (48<=c.toNat)&&decide (c.toNat<=57)
section
variable {s D:Nb} {i:Nat} {b:Bool} {C0:Int}
theorem dgb_iff:dgB s=true↔Dgs s:=by
 unfold dgB Dgs
 grind
theorem dgb_s (hi:i<s.length):dgB (drop i s)=(decide (48<=byteAt (bsO s) i)&&decide (byteAt (bsO s) i<=57)&&dgB (drop (i+1) s)):=by grind [List.drop_eq_getElem_cons,by_at,dgB]
theorem dgb_n (e:dgB s=dgB (drop i s)) (hi:i<s.length) (h:(bif decide (byteAt (bsO s) i<48) then true else decide (57<byteAt (bsO s) i))=false):dgB s=dgB (drop (i+1) s):=by grind [dgb_s,decide_eq_true]
theorem dgb_f (e:dgB s=dgB (drop i s)) (hi:i<s.length) (h:(bif decide (byteAt (bsO s) i<48) then true else decide (57<byteAt (bsO s) i))=true):false=dgB s:=by
 rw[e,dgb_s hi]
 grind
theorem dgb_e (e:dgB s=dgB (drop i s)) (hi:s.length<=i):true=dgB s:=by rw[e,zV hi];rfl
theorem cano_d:ku s=(decide (s≠[])&&dgB s&&(decide (s.head?≠some 48)||decide (s=[48]))):=by
 unfold ku
 rw[show decide (Lib.trimS s Zc=[])=dgB s from zL.2 (by rw[zf,trim_nil,dgb_iff])]
theorem df_1 (h:(bif decide (((s.length:Nat):Int)=0) then true else bif decide (1<(s.length:Int)) then decide (byteAt (bsO s) 0=48) else false)=true):false=ku s:=by
 symm
 cases hc:ku s with
 | false=>rfl
 | true=>
  have hc:=Zw.1 hc
  cases s with
  | nil=>exact absurd Z hc.2.1
  | cons c l=>
   have e1:decide ((((c::l).length:Nat):Int)=0)=false:=zk d8
   rw[e1,Ww] at h
   obtain⟨h1,h2⟩:=Zt h
   have h1:=X6 h1
   have h2:=X6 h2
   rw[by_at (show 0<(c::l).length by simp)] at h2
   have e:c=48:=JU.1 (show c.toNat=48 by simp only[QX] at h2;omega)
   have:=hc.2.2 (by rw[e];rfl)
   omega
theorem df_2 (h:(bif decide (((s.length:Nat):Int)=0) then true else bif decide (1<(s.length:Int)) then decide (byteAt (bsO s) 0=48) else false)=false):dgB s=ku s:=by
 rw[cano_d]
 cases s with
 | nil=>cases h
 | cons c l=>
  have e1:decide ((((c::l).length:Nat):Int)=0)=false:=zk d8
  rw[e1,Ww] at h
  have e2:(decide ((c::l).head?≠some 48)||decide (c::l=[48]))=true:=by
   by_cases hc:c=48
   ·cases l with
    | nil=>rw[hc];rfl
    | cons d l=>
     rw[hc,by_at (show 0<((48:UInt8)::d::l).length by simp),zl (show (1:Int)<_ by simp only[zb];omega)] at h
     simp only[QX] at h
     cases h
   grind
  grind
theorem dgs_t (h:Dgs s):qC s [45]=s:=by unfold qC;rw[hp_dg h];rfl
theorem w217d (s:Nb) (h:Dgs s) (hl:s.length<=900000):CKa 146 [vS (bsO s)] (.pv (.agg [pB (decide ((((jp s):Nat):Int)<0)),pL eI (iL (dig K9 (natAbs (((jp s):Nat):Int))))])):=by
 have g:=w217 s (by rw[dgs_t h];exact h) hl
 have e:rdZ s=((jp s:Nat):Int):=by unfold rdZ;rw[dgs_t h,hp_dg h];rfl
 rwa [e] at g
theorem cut_sl (D:Nb):q0 D=(D.take (slN D),D.drop (slN D+1),decide (slN D<D.length)):=by
 by_cases h:(47:UInt8)∈D
 ·obtain⟨a,t,e,ha⟩:=List.eq_append_cons_of_mem h
  have ha:∀ x∈a,x≠47:=fun x hx e=>ha (e▸hx)
  rw[e,cut_at ha,sl_at ha,J6,<-List.drop_drop,J1,zl ao];rfl
 grind [cut_no,sl_no,List.take_length,List.drop_eq_nil_of_le,decide_eq_false]
end
section
variable {s D X:Nb} {i n:Nat} {b:Bool} {C0:Int}
theorem gk_t (hD:D=qC s [45]) (h:(bif decide (0<(s.length:Int)) then decide (byteAt (bsO s) 0=45) else false)=true):drop 1 s=D:=(pr_t h).symm.trans hD.symm
theorem gk_f (hD:D=qC s [45]) (h:(bif decide (0<(s.length:Int)) then decide (byteAt (bsO s) 0=45) else false)=false):s=D:=(pr_f h).symm.trans hD.symm
theorem gk_0 (h:ku (D.take (slN D))=true):0<D.length:=by
 have:=(Zw.1 h).2.1
 grind
theorem gk_xt (h:(bif decide (0<(s.length:Int)) then decide (byteAt (bsO s) 0=45) else false)=true):ku (D.take (slN D))=true->decide (byteAt (bsO s) 0=45)=true:=fun _=>(Zt h).2
theorem gk_xf (hD:D=qC s [45]) (h:(bif decide (0<(s.length:Int)) then decide (byteAt (bsO s) 0=45) else false)=false):ku (D.take (slN D))=true->decide (byteAt (bsO D) 0=45)=false:=fun hc=>by
 have:=gk_0 hc
 rw[gk_f hD h,zl (show (0:Int)<_ by omega)] at h
 exact h
theorem gk_F1 (hx:ku (D.take (slN D))=true->decide (byteAt (bsO X) 0=45)=b) (h:(bif !ku (D.take (slN D)) then true else bif decide (byteAt (bsO X) 0=45) then decide (D.take (slN D)=[48]) else false)=false):Dgs (D.take (slN D))/\ku (D.take (slN D))=true/\(!b||decide (D.take (slN D)≠[48]))=true:=by
 cases hc:ku (D.take (slN D)) with
 | false=>rw[hc] at h;cases h
 | true=>
  rw[hc,hx hc] at h
  refine⟨(Zw.1 hc).1,rfl,?_⟩
  grind
theorem gk_F2 (h:(bif decide (((slN D:Nat):Int)<(D.length:Int)) then bif bif !ku (D.drop (slN D+1)) then true else decide (D.drop (slN D+1)=[48]) then true else decide (D.drop (slN D+1)=[49]) else false)=false) (hl:slN D<D.length):Dgs (D.drop (slN D+1))/\ku (D.drop (slN D+1))=true/\D.drop (slN D+1)≠[48]/\D.drop (slN D+1)≠[49]:=by
 rw[zl (show ((slN D:Nat):Int)<(D.length:Int) by omega)] at h
 cases hc:ku (D.drop (slN D+1)) with
 | false=>rw[hc] at h;cases h
 | true=>
  rw[hc] at h
  have h:=dc_no h
  exact⟨(Zw.1 hc).1,rfl,h.1,h.2⟩
theorem gk_ff (hD:D=qC s [45]) (hb:jW s [45]=b):j1 s=((ku (D.take (slN D))&&(!b||decide (D.take (slN D)≠[48])))&&(!decide (slN D<D.length)||(ku (D.drop (slN D+1))&&decide (D.drop (slN D+1)≠[48])&&decide (D.drop (slN D+1)≠[49])))):=by
 unfold j1
 rw[<-hD,cut_sl,hb]
theorem gk_ft (hD:D=qC s [45]) (hb:jW s [45]=b) (F1:Dgs (D.take (slN D))/\ku (D.take (slN D))=true/\(!b||decide (D.take (slN D)≠[48]))=true) (F2:slN D<D.length->Dgs (D.drop (slN D+1))/\ku (D.drop (slN D+1))=true/\D.drop (slN D+1)≠[48]/\D.drop (slN D+1)≠[49]):j1 s=true:=by
 rw[gk_ff hD hb,F1.2.1,F1.2.2]
 grind
theorem jD (hD:D=qC s [45]) (hsl:slN D<=D.length) (B:Bool) (h:(bif decide (600<((slN D:Nat):Int)) then true else decide (600<(D.length:Int)-((slN D:Nat):Int)-1))=B):ZD s=B:=by grind [ZD,cut_sl,bif_or2,List.length_take,List.length_drop]
theorem ch_1 (hE:C0=jr s) (h:j1 s=false):1=C0:=by rw[hE,jr,WK h]
theorem gk_A (hE:C0=jr s) (hD:D=qC s [45]) (hb:jW s [45]=b) (hx:ku (D.take (slN D))=true->decide (byteAt (bsO X) 0=45)=b) (h:(bif !ku (D.take (slN D)) then true else bif decide (byteAt (bsO X) 0=45) then decide (D.take (slN D)=[48]) else false)=true):1=C0:=by
 refine ch_1 hE ?_
 rw[gk_ff hD hb]
 grind
theorem gk_B (hE:C0=jr s) (hD:D=qC s [45]) (hb:jW s [45]=b) (h:(bif decide (((slN D:Nat):Int)<(D.length:Int)) then bif bif !ku (D.drop (slN D+1)) then true else decide (D.drop (slN D+1)=[48]) then true else decide (D.drop (slN D+1)=[49]) else false)=true):1=C0:=by
 refine ch_1 hE ?_
 obtain⟨h1,h2⟩:=Zt h
 have h1:=X6 h1
 rw[gk_ff hD hb,zl (show slN D<D.length by omega)]
 grind
theorem gk_C (hE:C0=jr s) (hf:j1 s=true) (hl:ZD s=true):4=C0:=by rw[hE,jr,WJ (by rw[hf];decide),WK hl]
theorem ch_3 (hE:C0=jr s) (hD:D=qC s [45]) (hf:j1 s=true) (hl:ZD s=false):C0=if (decide (slN D<D.length)&&decide (gcd (jp (D.take (slN D))) (jp (D.drop (slN D+1)))≠1))=true then 1 else 0:=by rw[hE,jr,WJ (by rw[hf];decide),WJ (by rw[hl];decide),<-hD,cut_sl]
theorem gk_1 (h1:(iL (dig K9 n)).length=1) (h2:(iL (dig K9 n)).getD 0 0=1):n=1:=by
 have e:=qO (show 2<=K9 by decide) n
 unfold iL at h1 h2
 generalize dig K9 n=l at*
 match l,h1,h2,e with
 | [x],_,h2,e=>
  have:x=1:=Int.ofNat.inj h2
  rw[<-e,this];rfl
theorem gk_D (hE:C0=jr s) (hD:D=qC s [45]) (hf:j1 s=true) (hl:ZD s=false) (h5:((slN D:Nat):Int)<(D.length:Int)) (h:(bif decide ((((iL (dig K9 (gcd (jp (D.take (slN D))) (jp (D.drop (slN D+1)))))).length:Nat):Int)≠1) then true else decide ((iL (dig K9 (gcd (jp (D.take (slN D))) (jp (D.drop (slN D+1)))))).getD 0 0≠1))=true):1=C0:=by
 rw[ch_3 hE hD hf hl,WK]
 rw[zl (show slN D<D.length by omega),Kf]
 refine zl fun e=>?_
 rw[e] at h
 rw[j7 ah ah ah] at h
 exact absurd h ah
theorem gk_E (hE:C0=jr s) (hD:D=qC s [45]) (hf:j1 s=true) (hl:ZD s=false) (h:(bif decide ((((iL (dig K9 (gcd (jp (D.take (slN D))) (jp (D.drop (slN D+1)))))).length:Nat):Int)≠1) then true else decide ((iL (dig K9 (gcd (jp (D.take (slN D))) (jp (D.drop (slN D+1)))))).getD 0 0≠1))=false):0=C0:=by
 obtain⟨h1,h2⟩:=dc_no h
 have g:=gk_1 aa (zi.1 h2)
 rw[ch_3 hE hD hf hl,WJ]
 grind
theorem gk_G (hE:C0=jr s) (hD:D=qC s [45]) (hf:j1 s=true) (hl:ZD s=false) (h5:¬((slN D:Nat):Int)<(D.length:Int)):0=C0:=by rw[ch_3 hE hD hf hl,zk (show ¬slN D<D.length by omega),WJ ao]
theorem gk_l {t:Nb} (h:Dgs t) (hl:t.length<=10000):(dig K9 (natAbs ((jp t:Nat):Int))).length<=100000:=by
 have h1:=kq h
 have h2:10 ^ t.length<=K9 ^ t.length:=Xx ah _
 have:=je (show 2<=K9 by decide) (XJ h1 h2)
 rw[XA];omega
theorem gk_g (h:(decide ((((iL (dig K9 n)).length:Nat):Int)≠1)==false)=true):0<(iL (dig K9 n)).length:=by grind
theorem gk_n (h:((!ku (D.take (slN D)))==false)=true):0<D.length:=gk_0 (by revert h;cases ku (D.take (slN D))<;>decide)
end
theorem w249 (s:Nb) (hl:s.length<=1000000000):CKa 190 [vS (bsO s)] (vB (dgB s)):=by
 refine cG qf190 Z (nB Z) Z (l1 (fun (i:Nat)=>[(0,vS (bsO s)),(3,vI (i:Int))]) (fun _=>[]) (fun i=>i<=s.length/\dgB s=dgB (drop i s)) (fun i=>s.length-i) 0 Z ?_ (sb Z Z Z) ?_)
 · exact⟨zt _,rfl⟩
 intro i hI0
 refine E Z (B.ZM Z un9) (Cp Z Z (fun h1=>?_) (fun h1=>?_))
 ·refine E Z (B.sidx Z Z un9 Z (show i<List.length s from aa)) ?_
  refine Em Z Z Z Z ?_
  refine Em Z Z Z Z ?_
  refine Eg Z Z (fun hc=>B.sidx (qu Z hc) (qu Z hc) un9 Z (show i<List.length s from aa)) Z (Eg Z Z (fun hc=>B.gtr (qu Z hc) Z) Z (E Z (B.pO Z Z Z Z Z) (Cb Z Z (fun h2=>?_) (fun h2=>?_))))
  ·exact Rt Z (lF Z dZ)
  refine E Z (B.add Z Z bg) (pk Z (L1 (i+1) ?_ ?_ (sb Z Z Z)))
  · exact⟨aa,dgb_n hI0.2 aa ab⟩
  · omega
 exact Rt Z (lF Z dZ)
theorem w194 (s:Nb) (hl:s.length<=1000000000):CKa 123 [vS (bsO s)] (vB (ku s)):=by
 refine cG qf123 Z (nB Z) Z (E Z (B.ZM Z un9) ?_)
 refine Em Z Z Z Z ?_
 refine Eg Z Z (fun hc=>B.ZM (qu Z hc) un9) Z (Eg Z Z (fun hc=>B.gtr (qu Z hc) Z) Z (Eg Z Z (fun hc=>B.move (qu Z hc)) Z ?_))
 refine Em Z Z Z Z ?_
 refine Eg Z Z (fun hc=>B.sidx (qu Z hc) Z un9 Z (show 0<List.length s from (by have hc2:=hc;simp at hc2;omega))) Z (Eg Z Z (fun hc=>B.eql (qu Z hc) Z) Z (Eg Z Z (fun hc=>B.pick (qu Z hc) Z Z (gdB Z) Z (pick_and2 hc)) Z (E Z (B.pO Z Z Z Z Z) (Cb Z Z (fun h1=>?_) (fun h1=>?_)))))
 ·exact Rt Z (lF Z ed)
 exact C Z (w249 s hl) Z Z Z (Rt Z (lF Z ed))
theorem w158g (D:Nb) (hd1:Dgs (take (slN D) D)) (hd2:Dgs (drop (slN D+1) D)) (hs:slN D<D.length) (hl:D.length<=10000):CKa 83 [vS (bsO D)] (.tup [.pv (.agg [pB (decide (((jp (take (slN D) D):Nat):Int)<0)),pL eI (iL (dig K9 (natAbs ((jp (take (slN D) D):Nat):Int))))]),.pv (.agg [pB (decide (((jp (drop (slN D+1) D):Nat):Int)<0)),pL eI (iL (dig K9 (natAbs ((jp (drop (slN D+1) D):Nat):Int))))])]):=by
 refine cG qf83 Z (nB Z) Z (E Z (B.bN Z Z) (E Z (B.bN Z Z) (C Z (w193 D aa) Z Z Z (E Z (B.ZM Z un9) (Cp Z Z (fun h1=>?_) (fun h1=>?_))))))
 ·exact absurd h1 aa
 exact E Z (B.slHB Z Z un9 Z aa) (C Z (w217d (take (slN D) D) hd1 cN) Z Z Z (E Z (B.add Z Z bg) (E Z (B.slLB (i:=((slN D)+1)) Z Z un9 aa aa) (C Z (w217d (drop ((slN D)+1) D) hd2 dB) Z Z Z (Dr Z ae (Rt Z (lF Z (by first|rfl|rw[hE]))))))))
theorem w120 (s:Nb) (hl:s.length<=10000):CKa 59 [vS (bsO s)] (vI (jr s)):=by
 refine cG qf59 Z (nB Z) Z ?_
 refine tk 2 Z ?_
 refine tn ⟨[(0,vS (bsO s)),(3,vS (bsO s))],[]⟩ rfl rfl Z ?_
 obtain⟨C0,hE⟩:∃ C0,C0=jr s:=⟨_,rfl⟩
 rw[<-hE]
 obtain⟨D,hD⟩:∃ D,D=qC s [45]:=⟨_,rfl⟩
 have hsl:=slN_le D
 have hDl:D.length<=s.length:=by rw[hD];exact trimP_len s [45]
 refine kc (E Z (B.ZM Z un9) ?_)
 refine Em Z Z Z Z ?_
 refine Eg Z Z (fun hc=>B.sidx (qu Z hc) Z un9 Z (show 0<List.length s from eg)) Z (Eg Z Z (fun hc=>B.eql (qu Z hc) Z) Z (E Z (B.pA Z Z Z Z Z) (Cb Z Z (fun h1=>?_) (fun h1=>?_))))
 ·refine E Z (B.slLB Z Z un9 Z eg) ?_
  refine tk 4 Z ?_
  refine tn ⟨[(0,vS (bsO s)),(3,vS (bsO (drop 1 s)))],[]⟩ rfl rfl Z ?_
  have hb:jW s [45]=true:=pr_h.symm.trans h1
  have hx:=gk_xt (D:=D) h1
  have h0:=pr_g h1
  rw[gk_t hD h1]
  refine kc (C Z (w193 D aa) Z Z Z (E Z (B.slHB Z Z un9 Z eg) (C Z (w194 (take (slN D) D) cN) Z Z Z ?_)))
  refine Em Z Z Z Z ?_
  refine Eg Z Z (fun hc=>B.sidx (qu Z hc) Z un23 Z (show 0<List.length s from eg)) Z (Eg Z Z (fun hc=>B.eql (qu Z hc) Z) Z (Eg Z Z (fun hc=>B.move (qu Z hc)) Z ?_))
  refine Em Z Z Z Z ?_
  refine Em Z Z Z Z ?_
  refine Eg Z Z (fun hc=>B.slHB (qu Z hc) (qu Z hc) un9 Z eg) Z (Eg Z Z (fun hc=>B.seqB (qu Z hc) Z) Z (Eg Z Z (fun hc=>B.pick (qu Z hc) Z Z (gdB Z) Z (pick_and2 hc)) Z (E Z (B.pO Z Z Z Z Z) (Cb Z Z (fun h2=>?_) (fun h2=>?_)))))
  ·exact Rt Z (lF Z eh)
  have F1:=gk_F1 hx ab
  refine E Z (B.ZM Z un9) ?_
  refine Em Z Z Z Z ?_
  refine Em Z Z Z Z ?_
  refine Eg Z Z (fun hc=>B.add (qu Z hc) Z bg) Z (Eg Z Z (fun hc=>B.slLB (i:=((slN D)+1)) (qu Z hc) (qu Z hc) un9 aa eg) Z (Eg Z Z (fun hc=>B.call (w194 (drop ((slN D)+1) D) dB) Z (ds1 (qu Z hc)) Z) Z (Eg Z Z (fun hc=>B.not (qu Z hc)) Z (Eg Z Z (fun hc=>B.move (qu Z hc)) Z ?_))))
  refine Em Z Z Z Z ?_
  refine Em Z Z Z Z ?_
  refine Eg Z Z (fun hc=>B.add (qu Z hc) Z bg) Z (Eg Z Z (fun hc=>B.slLB (i:=((slN D)+1)) (qu Z hc) (qu Z hc) un9 aa eg) Z (Eg Z Z (fun hc=>B.seqB (qu Z hc) Z) Z (Eg Z Z (fun hc=>B.pick (qu Z hc) Z Z Z (gdB Z) (pick_or2 hc)) Z (Eg Z Z (fun hc=>B.move (qu Z hc)) Z ?_))))
  refine Em Z Z Z Z ?_
  refine Em Z Z Z Z ?_
  refine Eg Z Z (fun hc=>B.add (qu Z hc) Z bg) Z (Eg Z Z (fun hc=>B.slLB (i:=((slN D)+1)) (qu Z hc) (qu Z hc) un9 aa eg) Z (Eg Z Z (fun hc=>B.seqB (qu Z hc) Z) Z (Eg Z Z (fun hc=>B.pick (qu Z hc) Z Z Z (gdB Z) (pick_or2 hc)) Z (E Z (B.pA Z Z Z Z Z) (Cb Z Z (fun h3=>?_) (fun h3=>?_))))))
  ·exact Rt Z (lF Z eh)
  have F2:=gk_F2 ab
  have hf:=gk_ft hD hb F1 F2
  refine Em Z Z Z Z ?_
  refine Eg Z Z (fun hc=>B.ZM (qu Z hc) un9) Z ?_
  refine Em Z Z Z Z ?_
  refine Eg Z Z (fun hc=>B.sub (qu Z hc) (qu Z hc) bg) Z (Eg Z Z (fun hc=>B.sub (qu Z hc) Z bg) Z (Eg Z Z (fun hc=>B.gtr (qu Z hc) Z) Z (E Z (B.pO Z Z Z Z Z) (Cb Z Z (fun h4=>?_) (fun h4=>?_)))))
  ·exact Rt Z (lF Z eh)
  refine E Z (B.ZM Z un9) (Cp Z Z (fun h5=>?_) (fun h5=>?_))
  ·refine C Z (w158g D F1.1 (F2 aa).1 aa aa) Z Z Z (E Z (B.bN Z Z) (E Z (B.bN Z Z) (C Z (w195 (natAbs ((jp (take (slN D) D):Nat):Int)) (natAbs ((jp (drop (slN D+1) D):Nat):Int)) (gk_l F1.1 cN) (gk_l (F2 aa).1 dB)) Z Z Z (E Z (B.ju Z jy) ?_))))
   refine Em Z Z Z Z ?_
   refine Eg Z Z (fun hc=>B.idx (z:=0) (qu Z hc) Z jy sz3 (fun _=>rfl) Z eg) Z (Eg Z Z (fun hc=>B.loadP (qu Z hc) ag3 sz3) Z (Eg Z Z (fun hc=>B.neq (qu Z hc) Z) Z (E Z (B.pO Z Z Z Z Z) (Cb Z Z (fun h6=>?_) (fun h6=>?_)))))
   ·exact Rt Z (lF Z eh)
   exact Rt Z (lF Z eh)
  exact Rt Z (lF Z eh)
 refine tk 4 Z ?_
 refine tn ⟨[(0,vS (bsO s)),(3,vS (bsO s))],[]⟩ rfl rfl Z ?_
 have hb:jW s [45]=false:=pr_h.symm.trans h1
 have hx:=gk_xf hD h1
 rw[gk_f hD h1]
 refine kc (C Z (w193 D aa) Z Z Z (E Z (B.slHB Z Z un9 Z eg) (C Z (w194 (take (slN D) D) cN) Z Z Z ?_)))
 refine Em Z Z Z Z ?_
 refine Eg Z Z (fun hc=>B.sidx (qu Z hc) Z un23 Z (show 0<List.length D from eg)) Z (Eg Z Z (fun hc=>B.eql (qu Z hc) Z) Z (Eg Z Z (fun hc=>B.move (qu Z hc)) Z ?_))
 refine Em Z Z Z Z ?_
 refine Em Z Z Z Z ?_
 refine Eg Z Z (fun hc=>B.slHB (qu Z hc) (qu Z hc) un9 Z eg) Z (Eg Z Z (fun hc=>B.seqB (qu Z hc) Z) Z (Eg Z Z (fun hc=>B.pick (qu Z hc) Z Z (gdB Z) Z (pick_and2 hc)) Z (E Z (B.pO Z Z Z Z Z) (Cb Z Z (fun h7=>?_) (fun h7=>?_)))))
 ·exact Rt Z (lF Z eh)
 have F1:=gk_F1 hx ab
 refine E Z (B.ZM Z un9) ?_
 refine Em Z Z Z Z ?_
 refine Em Z Z Z Z ?_
 refine Eg Z Z (fun hc=>B.add (qu Z hc) Z bg) Z (Eg Z Z (fun hc=>B.slLB (i:=((slN D)+1)) (qu Z hc) (qu Z hc) un9 aa eg) Z (Eg Z Z (fun hc=>B.call (w194 (drop ((slN D)+1) D) dB) Z (ds1 (qu Z hc)) Z) Z (Eg Z Z (fun hc=>B.not (qu Z hc)) Z (Eg Z Z (fun hc=>B.move (qu Z hc)) Z ?_))))
 refine Em Z Z Z Z ?_
 refine Em Z Z Z Z ?_
 refine Eg Z Z (fun hc=>B.add (qu Z hc) Z bg) Z (Eg Z Z (fun hc=>B.slLB (i:=((slN D)+1)) (qu Z hc) (qu Z hc) un9 aa eg) Z (Eg Z Z (fun hc=>B.seqB (qu Z hc) Z) Z (Eg Z Z (fun hc=>B.pick (qu Z hc) Z Z Z (gdB Z) (pick_or2 hc)) Z (Eg Z Z (fun hc=>B.move (qu Z hc)) Z ?_))))
 refine Em Z Z Z Z ?_
 refine Em Z Z Z Z ?_
 refine Eg Z Z (fun hc=>B.add (qu Z hc) Z bg) Z (Eg Z Z (fun hc=>B.slLB (i:=((slN D)+1)) (qu Z hc) (qu Z hc) un9 aa eg) Z (Eg Z Z (fun hc=>B.seqB (qu Z hc) Z) Z (Eg Z Z (fun hc=>B.pick (qu Z hc) Z Z Z (gdB Z) (pick_or2 hc)) Z (E Z (B.pA Z Z Z Z Z) (Cb Z Z (fun h8=>?_) (fun h8=>?_))))))
 ·exact Rt Z (lF Z eh)
 have F2:=gk_F2 ab
 have hf:=gk_ft hD hb F1 F2
 refine Em Z Z Z Z ?_
 refine Eg Z Z (fun hc=>B.ZM (qu Z hc) un9) Z ?_
 refine Em Z Z Z Z ?_
 refine Eg Z Z (fun hc=>B.sub (qu Z hc) (qu Z hc) bg) Z (Eg Z Z (fun hc=>B.sub (qu Z hc) Z bg) Z (Eg Z Z (fun hc=>B.gtr (qu Z hc) Z) Z (E Z (B.pO Z Z Z Z Z) (Cb Z Z (fun h9=>?_) (fun h9=>?_)))))
 ·exact Rt Z (lF Z eh)
 refine E Z (B.ZM Z un9) (Cp Z Z (fun h10=>?_) (fun h10=>?_))
 ·refine C Z (w158g D F1.1 (F2 aa).1 aa aa) Z Z Z (E Z (B.bN Z Z) (E Z (B.bN Z Z) (C Z (w195 (natAbs ((jp (take (slN D) D):Nat):Int)) (natAbs ((jp (drop (slN D+1) D):Nat):Int)) (gk_l F1.1 cN) (gk_l (F2 aa).1 dB)) Z Z Z (E Z (B.ju Z jy) ?_))))
  refine Em Z Z Z Z ?_
  refine Eg Z Z (fun hc=>B.idx (z:=0) (qu Z hc) Z jy sz3 (fun _=>rfl) Z eg) Z (Eg Z Z (fun hc=>B.loadP (qu Z hc) ag3 sz3) Z (Eg Z Z (fun hc=>B.neq (qu Z hc) Z) Z (E Z (B.pO Z Z Z Z Z) (Cb Z Z (fun h11=>?_) (fun h11=>?_)))))
  ·exact Rt Z (lF Z eh)
  exact Rt Z (lF Z eh)
 exact Rt Z (lF Z eh)
end Go.Lens.Tb
end
section
namespace Go.Lens.Tb
open Go.Proofs Go.Lens.Un
variable [Lz] [Dn]
attribute [local irreducible] TK PK T RG EfR Body CG
theorem w61 (l:List Nb) (hl:l.length<=1000000) (hs:∀ s∈l,s.length<=10000):CKa 31 [vL eN l] (vI (eachE jr l)):=by
 refine cG qf31 Z (nB Z) Z (l1 (fun (k:Nat)=>[(0,vL eN l),(3,vI (k:Int))]) (fun _=>[]) (fun k=>k<=l.length/\eachE jr l=eachE jr (drop k l)) (fun k=>l.length-k) 0 Z ?_ (sb Z Z Z) ?_)
 · exact⟨zt _,rfl⟩
 intro k hI0
 refine E Z (B.ju Z un56) (Cp Z Z (fun h1=>?_) (fun h1=>?_))
 ·refine E Z (B.idx (z:=[]) Z Z un56 sz23 (fun _=>rfl) Z aa) (C Z (w120 (l.getD k []) (hs _ (ki aa))) Z Z Z (Cp Z Z (fun h2=>?_) (fun h2=>?_)))
  ·exact Rt Z (lF Z em)
  refine E Z (B.add Z Z bg) (pk Z (L1 (k+1) ?_ ?_ (sb Z Z Z)))
  · (exact⟨aa,by rw[hI0.2];exact ea_step aa ab⟩)
  · omega
 exact Rt Z (lF Z em)
def shFA (f:List Trm):Bool:=f.all fun t=>decide (t.c.length<=40)
def shF (f:List Trm):Bool:=!(decide (12<(f.length:Int)))&&shFA f
def afB (t u:Trm):Bool:=bif decide (t.i+t.j≠u.i+u.j) then decide (u.i+u.j<t.i+t.j) else decide (t.i<u.i)
section
variable {f:List Trm} {k:Nat} {t u:Trm} {p q:Prop} [Decidable p] [Decidable q]
theorem shf_n (h:12<(f.length:Int)):false=shF f:=by unfold shF;rw[zl h];rfl
theorem shf_0 (h:¬12<(f.length:Int)):shF f=shFA (drop 0 f):=by unfold shF;rw[zk h,J3];rfl
theorem shf_s (hk:k<f.length) (h:¬40<((((Trm.c (f.getD k trZ)).length:Nat):Int))):shFA (f.drop k)=shFA (f.drop (k+1)):=by
 rw[drop_at f k trZ hk,shFA,Kh,zl aa];rfl
theorem shf_f (e:shF f=shFA (f.drop k)) (hk:k<f.length) (h:40<((((Trm.c (f.getD k trZ)).length:Nat):Int))):false=shF f:=by
 rw[e,drop_at f k trZ hk,shFA,Kh,zk aa];rfl
theorem shf_e (e:shF f=shFA (f.drop k)) (hk:¬(k:Int)<(f.length:Int)):true=shF f:=by
 rw[e,zV aa];rfl
theorem af_1 (h:t.i+t.j≠u.i+u.j):decide (u.i+u.j<t.i+t.j)=afB t u:=by unfold afB;rw[zl h];rfl
theorem af_2 (h:¬t.i+t.j≠u.i+u.j):decide (t.i<u.i)=afB t u:=by unfold afB;rw[zk h];rfl
def cA0 (t:Trm):Int:=if jr t.c=0/\t.c=[48] then 6 else jr t.c
theorem ca0_1 (h:(bif decide (jr t.c=0) then decide (t.c=[48]) else false)=true):cA0 t=6:=by unfold cA0;rw[WK ⟨cg_1 h,cg_2 h⟩]
theorem ca0_2 (h:(bif decide (jr t.c=0) then decide (t.c=[48]) else false)=false):cA0 t=jr t.c:=by unfold cA0;rw[WJ (cg_4 h)]
theorem ca0_g {a:Int} {l:List Int}:qK (a::j5 (decide p) 6::l)=if (if a=0/\p then 6 else a)=0 then qK l else (if a=0/\p then (6:Int) else a):=by
 by_cases h1:a=0<;>by_cases h2:p<;>simp[qK,j5,h1,h2]
theorem ca0_x:cE0 t=if cA0 t=0 then qK [ja t.i 0 16,ja t.j 0 16] else cA0 t:=ca0_g
theorem ca0_3 (h:cA0 t=0):cE0 t=qK [ja t.i 0 16,ja t.j 0 16]:=by rw[ca0_x,WK h]
theorem ca0_4 (h:¬cA0 t=0):cE0 t=cA0 t:=by rw[ca0_x,WJ h]
theorem ca0_5 (h:cE0 t=0):cE1 t=ja (t.i+t.j) 0 16:=by unfold cE1;rw[WK h]
theorem ca0_6 (h:¬cE0 t=0):cE1 t=cE0 t:=by unfold cE1;rw[WJ h]
theorem cc_k (h:(bif decide (cE1 t=0) then decide (0<(k:Int)) else false)=true):KS (Zj t):=ks_e (cg_1 h)
theorem cc_p (hI:∀ j,j<k->chkA f j=0) (h:(bif decide (cE1 t=0) then decide (0<(k:Int)) else false)=true):KS (Zj (f.getD (k-1) trZ)):=ca_kp hI (cg_2 h)
theorem af_o:afB t u=true↔ordI (Zj u) (Zj t)<0:=by
 rw[ordI_lt];unfold afB Zj
 by_cases h:t.i+t.j≠u.i+u.j
 ·rw[zl h];simp only[Wy,zf];omega
 rw[zk h];simp only[Ww,zf];omega
theorem ckq_1 (h:(bif decide (cE1 (f.getD k trZ)=0) then decide (0<(k:Int)) else false)=true) (g:(!(afB (f.getD k trZ) (f.getD (k-1) trZ)))=true):chkA f k=11:=by
 unfold chkA
 refine WK ⟨cg_1 h,cg_2 h,?_⟩
 have:¬ordI (Zj (f.getD (k-1) trZ)) (Zj (f.getD k trZ))<0:=fun e=>by rw[af_o.2 e] at g;cases g
 unfold Zj at this;omega
theorem ckq_2 (h:(bif decide (cE1 (f.getD k trZ)=0) then decide (0<(k:Int)) else false)=true) (g:(!(afB (f.getD k trZ) (f.getD (k-1) trZ)))=false):chkA f k=cE1 (f.getD k trZ):=by
 unfold chkA
 rw[WJ fun e=>?_]
 have:ordI (Zj (f.getD (k-1) trZ)) (Zj (f.getD k trZ))<0:=af_o.1 (by simpa using g)
 have e3:=e.2.2
 unfold Zj at this;omega
theorem ckq_3 (h:(bif decide (cE1 (f.getD k trZ)=0) then decide (0<(k:Int)) else false)=false):chkA f k=cE1 (f.getD k trZ):=by
 unfold chkA
 rw[WJ fun e=>cg_4 h ⟨e.1,e.2.1⟩]
end
theorem w21 (f:List Trm) (hl:f.length<=4611686018427387904):CKa 7 [vL eY f] (vB (shF f)):=by
 refine cG qf7 Z (nB Z) Z (E Z (B.ju Z un22) (Cp Z Z (fun h1=>?_) (fun h1=>?_)))
 ·refine Rt Z ?_
  exact leaf (val0:=vB false) ae ep
 refine l1 (fun (k:Nat)=>[(0,vL eY f),(3,vI (k:Int))]) (fun _=>[]) (fun k=>k<=f.length/\shF f=shFA (drop k f)) (fun k=>f.length-k) 0 Z ?_ (sb Z Z Z) ?_
 · exact⟨zt _,shf_0 ab⟩
 intro k hI0
 refine E Z (B.ju Z un22) (Cp Z Z (fun h2=>?_) (fun h2=>?_))
 ·refine E Z (B.idx (z:=trZ) (i:=k) Z Z un22 sz63 (fun _=>rfl) Z aa) (E Z (B.ZM (a:=(Trm.c (f.getD k trZ))) Z un23) (Cp Z Z (fun h3=>?_) (fun h3=>?_)))
  ·refine Rt Z ?_
   exact leaf (val0:=vB false) ae ep
  refine E Z (B.add Z Z bg) (pk Z (L1 (k+1) ?_ ?_ (sb Z Z Z)))
  · (exact⟨aa,by rw[hI0.2];exact shf_s aa ab⟩)
  · omega
 refine Rt Z ?_
 exact leaf (val0:=vB true) ae ep
theorem w121 (t u:Trm) (ht:KS (Zj t)) (hu:KS (Zj u)):CKa 62 [.pv (.agg [pS (bsO (Trm.c t)),pI (Trm.i t),pI (Trm.j t)]),.pv (.agg [pS (bsO (Trm.c u)),pI (Trm.i u),pI (Trm.j u)])] (vB (afB t u)):=by
 refine cG qf62 Z (nB Z) Z (E Z (B.add Z Z eu) (E Z (B.add Z Z eu) (Cp Z Z (fun h1=>?_) (fun h1=>?_))))
 ·refine E Z (B.add Z Z eu) (E Z (B.add Z Z eu) ?_)
  refine Rt Z ?_
  exact leaf (val0:=vB (decide (((Trm.i u)+(Trm.j u))<((Trm.i t)+(Trm.j t))))) ae ew
 refine Rt Z ?_
 exact leaf (val0:=vB (decide ((Trm.i t)<(Trm.i u)))) ae ew
theorem w26 (f:List Trm) (hl:f.length<=1000000) (hs:∀ t∈f,(Trm.c t).length<=10000):CKa 13 [vL eY f] (vI (qZ f)):=by
 refine cG qf13 Z (nB Z) Z (l1 (fun (k:Nat)=>[(0,vL eY f),(3,vI (k:Int))]) (fun _=>[]) (fun k=>k<=f.length/\∀ j,j<k->chkA f j=0) (fun k=>f.length-k) 0 Z ?_ (sb Z Z Z) ?_)
 · exact⟨zt _,fun j hj=>aa⟩
 intro k hI0
 refine E Z (B.ju Z un22) (Cp Z Z (fun h1=>?_) (fun h1=>?_))
 ·refine E Z (B.idx (z:=trZ) (i:=k) Z Z un22 sz63 (fun _=>rfl) Z aa) (C Z (w120 (Trm.c (f.getD k trZ)) (hs _ (ki aa))) Z Z Z (Eg Z Z (fun hc=>B.move Z) Z (Eg Z Z (fun hc=>B.move Z) Z (Eg Z Z (fun hc=>B.idx (z:=trZ) (i:=k) (qu Z hc) (qu Z hc) un22 sz63 (fun _=>rfl) Z aa) Z (Eg Z Z (fun hc=>B.fadP (qu Z hc) fa63_0 Z) Z (Eg Z Z (fun hc=>B.loadP (qu Z hc) ag23 sz23) Z (Eg Z Z (fun hc=>B.call (w62b (Trm.c (f.getD k trZ))) Z (ds1 (qu Z hc)) Z) Z (E Z (B.pick Z Z Z (gdB Z) Z (pick_and _)) (Cj [(0,vL eY f),(3,vI (k:Int)),(4,vI (cA0 (f.getD k trZ)))] [] Z Z Z (fun h2=>?_) (fun h2=>?_) ?_)))))))))
  ·refine pk Z ?_
   show Sub _ _ _
   first|rw[ca0_1 ab]|rw[ca0_2 ab]
   exact sb Z Z rfl
  ·refine pk Z ?_
   show Sub _ _ _
   first|rw[ca0_1 ab]|rw[ca0_2 ab]
   exact sb Z Z rfl
  refine Cj [(0,vL eY f),(3,vI (k:Int)),(4,vI (cE0 (f.getD k trZ)))] [] Z Z Z (fun h3=>?_) (fun h3=>?_) ?_
  ·replace h3:=X6 h3
   refine E Z (B.idx (z:=trZ) (i:=k) Z Z un22 sz63 (fun _=>rfl) Z aa) (C Z (w105 (Trm.i (f.getD k trZ)) 0 16) Z Z Z (E Z (B.idx (z:=trZ) (i:=k) Z Z un22 sz63 (fun _=>rfl) Z aa) (C Z (w105 (Trm.j (f.getD k trZ)) 0 16) Z Z Z (E Z (B.runZ (val:=.pv (.slice (List.map eI [(ja (Trm.i (f.getD k trZ)) 0 16),(ja (Trm.j (f.getD k trZ)) 0 16)]))) Z (fun l=>Frz.arr l _ _ _ _ _) Z) (C Z (w27 [(ja (Trm.i (f.getD k trZ)) 0 16),(ja (Trm.j (f.getD k trZ)) 0 16)] (nB Z)) Z Z Z (Dr Z ae (pk Z ?_)))))))
   show Sub _ _ _
   first|rw[ca0_3 ab]|rw[ca0_4 ab]
   exact sb Z Z rfl
  ·replace h3:=XM h3
   refine pk Z ?_
   show Sub _ _ _
   first|rw[ca0_3 ab]|rw[ca0_4 ab]
   exact sb Z Z rfl
  refine Cj [(0,vL eY f),(3,vI (k:Int)),(4,vI (cE1 (f.getD k trZ)))] [] Z Z Z (fun h4=>?_) (fun h4=>?_) ?_
  ·replace h4:=X6 h4
   refine E Z (B.idx (z:=trZ) (i:=k) Z Z un22 sz63 (fun _=>rfl) Z aa) (E Z (B.idx (z:=trZ) (i:=k) Z Z un22 sz63 (fun _=>rfl) Z aa) (E Z (B.add Z Z cI) (C Z (w105 ((Trm.i (f.getD k trZ))+(Trm.j (f.getD k trZ))) 0 16) Z Z Z (Dr Z ae (pk Z ?_)))))
   show Sub _ _ _
   first|rw[ca0_5 ab]|rw[ca0_6 ab]
   exact sb Z Z rfl
  ·replace h4:=XM h4
   refine pk Z ?_
   show Sub _ _ _
   first|rw[ca0_5 ab]|rw[ca0_6 ab]
   exact sb Z Z rfl
  refine Eg Z Z (fun hc=>B.move Z) Z (Eg Z Z (fun hc=>B.gtr (qu Z hc) Z) Z (E Z (B.pick Z Z Z (gdB Z) Z (pick_and _)) ?_))
  refine ek Z ?_
  cases h5:(bif (decide ((cE1 (f.getD k trZ))=0)) then (decide (0<(k:Int))) else false)
  ·refine Ef' Z Z (Ef' Z Z (Ef' Z Z (Ef' Z Z (Ef' Z Z (Ef' Z Z (Ef' Z Z (Ef' Z Z (Ef' Z Z (Ef' Z Z (Ef' Z Z (E Z (B.pkF Z Z Z Z Z) (Dr Z ae (CF Z Z (Cp Z Z (fun h6=>?_) (fun h6=>?_)))))))))))))))
   ·refine Rt Z ?_
    exact leaf (val0:=vI (cE1 (f.getD k trZ))) ae ez
   refine E Z (B.add Z Z cI) (pk Z (L1 (k+1) ?_ ?_ (sb Z Z Z)))
   · (exact⟨aa,ca_nx hI0.2 e8⟩)
   · omega
  refine Et Z Z (B.move Z) (Et Z Z (B.move Z) (Et Z Z (B.idx (z:=trZ) (i:=k) Z Z un22 sz63 (fun _=>rfl) Z aa) (Et Z Z (B.loadA (ds:=[pS (bsO (Trm.c (f.getD k trZ))),pI (Trm.i (f.getD k trZ)),pI (Trm.j (f.getD k trZ))]) Z ag63 sz63 (zW Z) Z) (Et Z Z (B.move Z) (Et Z Z (B.move Z) (Et Z Z (B.sub Z Z cI) (Et Z Z (B.idx (z:=trZ) (i:=(k-1)) Z Z un22 sz63 (fun _=>rfl) cM aa) (Et Z Z (B.loadA (ds:=[pS (bsO (Trm.c (f.getD (k-1) trZ))),pI (Trm.i (f.getD (k-1) trZ)),pI (Trm.j (f.getD (k-1) trZ))]) Z ag63 sz63 (zW Z) Z) (Et Z Z (B.call (w121 (f.getD k trZ) (f.getD (k-1) trZ) (cc_k h5) (cc_p hI0.2 h5)) Z Z Z) (Et Z Z (B.not Z) (E Z (B.pkT Z Z Z Z Z) (Dr Z ae (Cj [(0,vL eY f),(3,vI (k:Int)),(4,vI (chkA f k))] [] Z Z Z (fun h7=>?_) (fun h7=>?_) ?_)))))))))))))
  ·refine pk Z ?_
   show Sub _ _ _
   first|rw[ckq_1 ab ab]|rw[ckq_2 ab ab]|rw[ckq_3 ab]
   exact sb Z Z rfl
  ·refine pk Z ?_
   show Sub _ _ _
   first|rw[ckq_1 ab ab]|rw[ckq_2 ab ab]|rw[ckq_3 ab]
   exact sb Z Z rfl
  refine Cp Z Z (fun h8=>?_) (fun h8=>?_)
  ·refine Rt Z ?_
   exact leaf (val0:=vI (chkA f k)) ae ez
  refine E Z (B.add Z Z cI) (pk Z (L1 (k+1) ?_ ?_ (sb Z Z Z)))
  · (exact⟨aa,ca_nx hI0.2 e8⟩)
  · omega
 refine Rt Z ?_
 exact leaf (val0:=vI 0) ae ez
theorem w23 (f:List Trm) (hl:f.length<=1000000):CKa 10 [vL eY f] (vL eY f):=by
 refine cL 10 [] qf10 Z (nB Z) Z Z (kc (E Z (B.nilS (enc:=eY) Z) (E Z (B.adopt 13 3 74 Z Z) (E Z (B.ju Z un22) (l2 (fun (k:Nat) (o:List Trm)=>[(3,.aref 13 k),(6,vL eY f),(7,vI (f.length:Int)),(8,vI (k:Int))]) (fun k o=>[(13,.arr k 3 74 (List.map eY o))]) (fun k o=>k<=f.length/\o=take k f) (fun k _=>f.length-k) 0 [] Z ?_ (sb Z Z Z) ?_)))))
 · exact⟨zt _,rfl⟩
 intro k o hI0
 have hol:o.length=k:=by rw[hI0.2,zn];omega
 refine Cp Z Z (fun h1=>?_) (fun h1=>?_)
 ·refine E Z (B.idx (z:=trZ) (i:=k) Z Z un22 sz63 (fun _=>rfl) Z cg) (E Z (B.runZ (val:=.pv (.slice (List.map eY [(f.getD k trZ)]))) (val0:=.aref 24 0) (m0:=[(24,.arr 0 3 74 [[pS (bsO (Trm.c (f.getD k trZ))),pI (Trm.i (f.getD k trZ)),pI (Trm.j (f.getD k trZ))]])]) (rd:=[]) ae (fun l=>Frz.arr l _ _ _ _ _) Z) (E Z (B.append (enc:=eY) (l:=o) (r:=[(f.getD k trZ)]) Z Z Z un32 in74 Z (fun _=>rfl) by74 cg) (E Z (B.add Z Z bg) (pk Z (L2 (k+1) (o++[(f.getD k trZ)]) ?_ ?_ (sb Z Z Z))))))
  · exact⟨aa,ow_s hI0.2 aa⟩
  · omega
 refine Fz 7 3 Z Z Z ?_
 refine Rt Z ?_
 exact ZG (val0:=vL eY o) (out0:=[]) (.inr Z) ae cA rfl
def qs (l:List Nb):List Rat:=l.map (fun s=>(qU s).q)
end Go.Lens.Tb
end
section
namespace Go.Lens.Tb
open Go.Proofs Go.Lens.Un
variable [Lz] [Dn]
open Un Un.R
theorem blen_dec (n:Nat):q9 n<=4*(decDigits n).length:=by
 refine jj ?_
 have h:=kq (jE n)
 rw[jG] at h
 refine XJ h ?_
 rw[Wi]
 exact Xx ah _
theorem sz_txt (q:Rat):sz q<=4*(txt q).length+1:=by
 have h1:=blen_dec q.num.natAbs
 have h2:=blen_dec q.den
 have e:=dq_len (q:=q)
 have hl:(Dq q).length<=(txt q).length:=by
  rw[qk_x]
  split
  ·rw[zb];omega
  omega
 unfold sz
 by_cases hd:q.den=1
 ·have h3:q9 q.den<=1:=by rw[hd];decide
  rw[WK hd] at e;omega
 rw[WJ hd] at e;omega
theorem sz_short {s:Nb} (h:jr s=0) (hs:s.length<=40):sz (qU s).q<=161:=by
 have:=sz_txt (qU s).q
 rw[ZP h] at this;omega
end Go.Lens.Tb
end
section
namespace Go.Lens.Tb
open Go.Proofs Go.Lens.Un
variable [Lz] [Dn]
attribute [local irreducible] TK PK T RG EfR Body CG
structure DvR (P:PL):Prop where
 k:∀ p∈P,(0<=p.1.1/\p.1.1<=16)/\0<=p.1.2/\p.1.2<=16
 l:P.length<=100
 s:∀ p∈P,sz p.2<=1000
structure VaR (P:PL) (x y:Rat):Prop extends DvR P where
 x:sz x<=200
 y:sz y<=200
end Go.Lens.Tb
end
section
namespace Go.Lens
variable [Lz]
section
variable {P:Program} {Y:Tab} [qH P Y] {nb:Nat} {s:St} {dst:Option Tmp} {ty:TypeId} {pos:String} {af:Array Edge} {gd:Option (Nat×Bool)} {t:TypeId} {x y:Operand}
theorem B.idxG {g n len:Nat} {m:Int} {e:TypeId} (ht:Y.underlying t=some (.array len e)) (hs:szT Y e=some 1) (hy:ev1 s y=.pv (.lit (.int .i64 m))) (h1:1<len) (hn:m=(n:Int)) (hlt:n<len) :
  Body P Y nb s ⟨dst,.indexAddr t (.global g) y,ty,pos,af,gd⟩ (.pv (.lit (.pointer (some ⟨g,n,none⟩)))) [] []:=by
 subst hn
 refine .inr (jS.of fun σ G a w hv _ I=>?_)
 have hY:=hv y aS
 rw[hy] at hY
 obtain⟨hY,_⟩:=qx hY
 have hx:a.eval (.global g)=.pointer (some ⟨g,0,none⟩):=rfl
 have hrun:(Instr.indexAt t (.pointer (some ⟨g,0,none⟩)) (.int .i64 (n:Int))).run P w=.ok (.pointer (some ⟨g,n,none⟩)) w:=by
  have hl:¬len<=1:=aa
  simp only[Instr.indexAt,qp,asIntOf,qq,qF ht,qo,Instr.sureAddr,Int.natCast_nonneg,Int.ofNat_lt,hlt,WB,ql,Sem.run_ite,qX hs,Addr.add_lit,hl,zT,KT,We]
 refine⟨.pointer (some ⟨g,n,none⟩),w,G,.inl ?_,qD I.ctxS (by simp[qt,qI,isLit]) (fun k hk=>by simp[DV.refs] at hk)⟩
 simp only[execOp,hx,hY,qp,hrun,qo,qq]
theorem B.loadG {g n:Nat} {tab:List Int} {T:TypeId} {fr:Nat×Nat} (hx:ev1 s x=.pv (.lit (.pointer (some ⟨g,n,none⟩)))) (hL:Lz.L g=some (.cells (tab.map fun z=>Value.int .i64 z).toArray T fr)) (ha:aggT Y t=some false) (hlt:n<tab.length) :
  Body P Y nb s ⟨dst,.load t x,ty,pos,af,gd⟩ (.pv (.lit (.int .i64 (tab.getD n 0)))) [] []:=by
 refine .inr (jS.of fun σ G a w hv _ I=>?_)
 have hX:=hv x aS
 rw[hx] at hX
 obtain⟨hX,_⟩:=qx hX
 have hc:w.cell? ⟨g,n,none⟩=some (.int .i64 (tab.getD n 0)):=by
  simp only[World.cell?,(I.laid _ _ hL).2]
  grind
 have hrun:(Instr.loadAt t (.pointer (some ⟨g,n,none⟩))).run P w=.ok (.int .i64 (tab.getD n 0)) w:=by
  simp only[Instr.loadAt,qp,Instr.sureAddr,qq,qo]
  exact kI ha hc
 refine⟨.int .i64 (tab.getD n 0),w,G,.inl ?_,qD I.ctxS (by simp[qt,qI,isLit]) (fun k hk=>by simp[DV.refs] at hk)⟩
 simp only[execOp,hX,qp,hrun,qo,qq]
end
section
variable [Fc] {P:Program} {Y:Tab} [qH P Y] {nb n:Nat} {ops ops':Array Oper} {p q:Nat}
def seqB (ops:Array Oper):Array Bool->List Nat->Bool
 | listed,[]=>(Region.ready .any ops listed).isEmpty
 | listed,i::l=>(Region.ready .any ops listed==[i])&&seqB ops (listed.setIfInBounds i true) l
theorem any_seq (r:Option Nat):∀ {os:List Oper} {l:List Nat} {listed:Array Bool} {s:St} {es:List Ef},efsR P Y nb ops os s es->l.map (fun i=>ops[i]?)=os.map some->os.all (fun o=>dstOk n o.dst)=true->seqB ops listed l=true->
  ∀ {G:Gh} {a:Act} {w:World} {Q:Exit->Act->World->Prop},Inv G s.vw a w->a.tmps.size=n->
  (∀ G' a' w',Inv G' (es.foldl stp s).vw a' w'->Since nb (qr s.ms) G w (qr (es.foldl stp s).ms) G' w'->a'.tmps.size=n->a'.defers=a.defers->Q .normal a' w')->wpAnyIn (fcR r) 0 P .any ops Q l.length listed a w
 | [],l,listed,s,es,h,hl,_,hq,G,a,w,Q,I,hn,hK=>by
  have:l=[]:=by cases l with|nil=>rfl|cons i l=>simp at hl
  subst this
  simp only[efsR] at h
  subst h
  simp only[seqB,List.isEmpty_iff] at hq
  exact⟨hq,hK G a w I (Since.refl _ _ _ _) hn rfl⟩
 | o::os,l,listed,s,es,h,hl,hda,hq,G,a,w,Q,I,hn,hK=>by
  obtain⟨e,es',rfl,he,hes⟩:=h
  cases l with
  | nil=>simp at hl
  | cons i l=>
  simp only[zy,Jz] at hl
  obtain⟨hi,hl⟩:=hl
  simp only[Kh,zj] at hda
  simp only[seqB,zj,Wv] at hq
  obtain⟨hq1,hq2⟩:=hq
  have pd:∀ v,(a.put o.dst v).defers=a.defers:=fun v=>by cases hd:o.dst<;>rfl
  refine⟨fun hr=>(by rw[hq1] at hr;cases hr),fun j hj=>?_⟩
  rw[hq1,zg] at hj
  subst hj
  have key:=EfR.sound (P:=P) (π:=s) he hda.1 (fun _ _=>rfl) (fun _ _=>rfl) I hn (Q:=Q) (next:=wpAnyIn (fcR r) 0 P .any ops Q l.length (listed.setIfInBounds j true)) ?_
  ·unfold wpOpIn
   rw[hi]
   simp only
   split
   ·grind
   rename_i hw;rw[WJ hw] at key;exact⟨fun _ _=>trivial,key⟩
  intro G1 v w1 I1 Sn1
  rw[<-he.dst] at I1 Sn1
  refine any_seq r hes hl hda.2 hq2 (G:=G1) aQ aP ?_
  intro G2 a2 w2 I2 Sn2 hn2 hd2
  exact hK G2 a2 w2 I2 (Sn1.trans Sn2) hn2 (hd2.trans (pd v))
def Fork (P:Program) (Y:Tab) (nb n:Nat) (ops ops':Array Oper) (p q:Nat) (s:St) (es:List Ef) (QF:St->Prop):Prop:=
 ∀ listed:Array Bool,listed.size=ops.size->Down ops' (fun k=>listed.getD k false)->listed.getD p false=false->q∈Region.ready .any ops listed->
  ∃ (oq:Oper) (e:Ef) (l:List Nat) (es2:List Ef),ops[q]? =some oq/\dstOk n oq.dst=true/\l.length+1=listed.toList.count false/\EfR P Y nb ops (stK s es (fun k=>listed.getD k false) ops.size) oq e/\
   efsR P Y nb ops (l.filterMap (fun i=>ops[i]?)) (stp (stK s es (fun k=>listed.getD k false) ops.size) e) es2/\l.map (fun i=>ops[i]?)=(l.filterMap (fun i=>ops[i]?)).map some/\(l.filterMap (fun i=>ops[i]?)).all (fun o=>dstOk n o.dst)=true/\seqB ops (listed.setIfInBounds q true) l=true/\
   QF (es2.foldl stp (stp (stK s es (fun k=>listed.getD k false) ops.size) e))
theorem fork_any {s:St} {es:List Ef} {QF:St->Prop} (hes:efsR P Y nb ops' ops'.toList s es) (hds:ops'.toList.all (fun o=>dstOk n o.dst)=true) (hsl:slotsOk ops'=true) (hef:Zf ops' 0 es=true) (hsz':ops'.size=ops.size) (hps:p<ops.size)
  (hr1:∀ (listed:Array Bool) (i:Nat),i∈Region.ready .any ops listed->i∈Region.ready .any ops' listed\/(i=q/\listed.getD p false=false)) (hr2:∀ (listed:Array Bool) (i:Nat),i∈Region.ready .any ops' listed->i∈Region.ready .any ops listed)
  (hw:∀ {F:Fence} {Q:Exit->Act->World->Prop} {i:Nat} {next:Act->World->Prop} {a:Act} {w:World},wpOpIn F 0 P ops' Q i next a w->wpOpIn F 0 P ops Q i next a w)
  (hA:QF (es.foldl stp s)) (hB:Fork P Y nb n ops ops' p q s es QF) {Q:Exit->Act->World->Prop} (r:Option Nat) :
  ∀ (fuel:Nat) (listed:Array Bool),listed.size=ops.size->listed.toList.count false=fuel->Down ops' (fun k=>listed.getD k false)->
  ∀ {G:Gh} {a:Act} {w:World},Inv G (stK s es (fun k=>listed.getD k false) ops.size).vw a w->a.tmps.size=n->
  (∀ sF G' a' w',QF sF->Inv G' sF.vw a' w'->Since nb (qr (stK s es (fun k=>listed.getD k false) ops.size).ms) G w (qr sF.ms) G' w'->a'.tmps.size=n->a'.defers=a.defers->Q .normal a' w')->
  wpAnyIn (fcR r) 0 P .any ops Q fuel listed a w:=by
 intro fuel
 induction fuel with
 | zero=>
  intro listed hsz hc D G a w I hn hK
  have h0:=drawnR_any (P:=P) hes hds hsl hef r 0 listed (by rw[hsz'];exact hsz) hc D (Q:=Q) eA hn (fun G' a' w' I' Sn=>hK _ G' a' w' hA I' (by rw[hsz'] at Sn;exact Sn))
  refine⟨?_,h0.2⟩
  refine Qi.2 fun i hi=>?_
  rcases hr1 listed i hi with h|⟨rfl,h⟩
  ·rw[h0.1] at h;cases h
  have hp:p<listed.size:=aa
  have:false∈listed.toList:=by
   have e:listed[p]=false:=by simpa [zC,hp] using h
   grind
  grind
 | succ fuel ih=>
  intro listed hsz hc D G a w I hn hK
  have h0:=drawnR_any (P:=P) hes hds hsl hef r (fuel+1) listed (by rw[hsz'];exact hsz) hc D (Q:=Q) eA hn (fun G' a' w' I' Sn=>hK _ G' a' w' hA I' (by rw[hsz'] at Sn;exact Sn))
  refine⟨fun hr=>h0.1 (Qi.2 fun i hi=>by have:=hr2 listed i hi;rw[hr] at this;cases this),fun i hi=>?_⟩
  by_cases hi':i∈Region.ready .any ops' listed
  ·refine hw ?_
   unfold Region.ready at hi'
   obtain⟨hi1,hi2⟩:=JC.1 hi'
   have hin:=J4.1 hi1
   have hil:i<listed.size:=aa
   simp only[zj,XP] at hi2
   obtain⟨h1,h2⟩:=hi2
   have h1':listed.getD i false=false:=by grind
   have ho:ops'[i]? =some ops'[i]:=Qz hin
   rw[ho] at h2
   simp only[qc,zO] at h2
   rw[<-Array.all_toList] at h2
   have hr:∀ e∈ops'[i].after.toList,Region.binds .any e=true->listed.getD e.on false=true:=by grind
   have hS:∀ k,(listed.setIfInBounds i true).getD k false=(listed.getD k false||Nat.beq k i):=by
    intro k
    simp only[zC,Qm]
    by_cases hk:i=k
    ·subst hk;simp[hil]
    have:Nat.beq k i=false:=Bool.eq_false_iff.mpr fun h=>hk (zD h).symm
    simp[hk,this]
   have hSf:(fun k=>(listed.setIfInBounds i true).getD k false)=(fun k=>listed.getD k false||Nat.beq k i):=funext hS
   refine drawnR_step (P:=P) hes hds hsl hef D ho h1' hr eA hn ?_ r
   rw[hsz']
   intro G' a' w' I' Sn hn' hd'
   refine ih (listed.setIfInBounds i true) (by simp[hsz]) ?_ ?_ (by rw[hSf];exact I') hn' ?_
   ·have:=count_set (l:=listed.toList) (i:=i) (by
      have:listed[i]? =some false:=by
       rw[Qz hil]
       simpa [zC,hil] using h1'
      simpa using this)
    grind
   ·rw[hSf]
    intro j o2 hj ho2 e2 he2 hb2
    simp only[Jr] at hj ⊢
    rcases hj with hj|hj
    ·exact .inl (D j o2 hj ho2 e2 he2 hb2)
    have:=zD hj
    subst this
    rw[ho] at ho2;cases ho2
    exact .inl (hr e2 he2 hb2)
   intro sF G2 a2 w2 hq2 I2 Sn2 hn2 hd2
   rw[hSf] at Sn2
   exact hK sF G2 a2 w2 hq2 I2 (Sn.trans Sn2) hn2 (hd2.trans hd')
  rcases hr1 listed i hi with h|⟨rfl,h⟩
  ·exact absurd h hi'
  have hp:listed.getD p false=false:=h
  obtain⟨oq,e,l,es2,k1,k2,k3,k4,k5,k6,k7,k8,k9⟩:=hB listed hsz D hp hi
  have hl:l.length=fuel:=aa
  have pd:∀ v,(a.put oq.dst v).defers=a.defers:=fun v=>by cases hd:oq.dst<;>rfl
  have key:=EfR.sound (P:=P) k4 k2 (fun _ _=>rfl) (fun _ _=>rfl) I hn (Q:=Q) (next:=wpAnyIn (fcR r) 0 P .any ops Q fuel (listed.setIfInBounds i true)) ?_
  ·unfold wpOpIn
   rw[k1]
   simp only
   split
   ·rename_i hw;rw[WK hw] at key;exact key r
   rename_i hw;rw[WJ hw] at key;exact⟨fun _ _=>trivial,key⟩
  intro G1 v w1 I1 Sn1
  rw[<-k4.dst] at I1 Sn1
  rw[<-hl]
  refine any_seq r k5 k6 k7 k8 (G:=G1) (by rw[<-k4.dst];exact I1) aP ?_
  intro G2 a2 w2 I2 Sn2 hn2 hd2
  exact hK _ G2 a2 w2 k9 I2 (Sn1.trans Sn2) hn2 (hd2.trans (pd v))
def addE (ops:Array Oper) (p q:Nat):Array Oper:=ops.modify q fun o=>{ o with after:=o.after.push ⟨p,.data⟩ }
theorem addE_get (i:Nat):(addE ops p q)[i]? =if q=i then (ops[i]?).map (fun o=>{ o with after:=o.after.push ⟨p,.data⟩ }) else ops[i]? :=Q0
theorem addE_size:(addE ops p q).size=ops.size:=by simp[addE]
theorem addE_ready {listed:Array Bool} {i:Nat}:i∈Region.ready .any (addE ops p q) listed↔i∈Region.ready .any ops listed/\(i=q->listed.getD p false=true):=by
 unfold Region.ready
 rw[JC,JC,addE_size,addE_get]
 by_cases e:q=i
 ·subst e
  cases h:ops[q]? with
  | none=>simp
  | some o=>
   simp only[ql,qc,zO,Array.all_push,zj,forall_const]
   have:Region.binds .any ⟨p,.data⟩=true:=rfl
   grind
 grind
theorem addE_yield (ts:Array Value):yielded (addE ops p q) ts=yielded ops ts:=by
 funext j
 unfold yielded
 rw[addE_get]
 grind
theorem addE_wp {F:Fence} {Q:Exit->Act->World->Prop} {i:Nat} {next:Act->World->Prop} {a:Act} {w:World} (h:wpOpIn F 0 P (addE ops p q) Q i next a w):wpOpIn F 0 P ops Q i next a w:=by
 unfold wpOpIn at h ⊢
 rw[addE_get,addE_yield] at h
 by_cases e:q=i
 ·rw[WK e] at h
  cases ho:ops[i]? with
  | none=>rw[ho] at h;exact h
  | some o=>
   rw[ho] at h
   obtain⟨d,op,ty,pos,af,gd⟩:=o
   exact h
 rw[WJ e] at h;exact h
theorem TK.fork (hm:P.follows .mixedOrders=true) {id:Nat} {s s0:St} {K:List Fr} {es:List Ef} {Q:Exit->St->Prop} (p q:Nat) (hps:p<ops.size) (hda:jh n (.region id (addE ops p q) true)=true) (hes:efsR P Y nb (addE ops p q) (addE ops p q).toList s es) (hef:Zf (addE ops p q) 0 es=true)
  (hA:Wk nb (es.foldl stp s) s0) (hB:Fork P Y nb n ops (addE ops p q) p q s es (fun s'=>Wk nb s' s0)) (k:PK P n nb Q K .normal s0):TK P n nb Q (.region id ops true) K s:=by
 intro G a w R I hn hK
 simp only[jh,zj] at hda
 have hsl:slotsOk (addE ops p q)=true:=by simpa using hda.2
 refine wpIn_region_any hm ?_
 have h0:∀ k,(Array.replicate ops.size false).getD k false=false:=by
  intro k
  simp only[zC,QL]
  split<;>rfl
 have hst:stK s es (fun k=>(Array.replicate ops.size false).getD k false) ops.size=s:=by
  rw[stK_congr (S':=fun _=>false) (fun k _=>h0 k)]
  have:∀ m,stK s es (fun _=>false) m=s:=by
   intro m
   induction m with
   | zero=>rfl
   | succ m ih=>simp only[stK];split<;>simp[ih]
  exact this _
 refine fork_any (P:=P) hes hda.1 hsl hef addE_size hps (fun listed i hi=>by by_cases e:i=q->listed.getD p false=true;exact .inl (addE_ready.2 ⟨hi,e⟩);(have e2:=Classical.not_imp.1 e;exact .inr ⟨e2.1,by simpa using e2.2⟩)) (fun listed i hi=>(addE_ready.1 hi).1) addE_wp (QF:=fun s'=>Wk nb s' s0) hA hB _ ops.size _ ao ao ?_ (G:=G) ?_ hn ?_
 ·intro j o hj;have hj':(Array.replicate ops.size false).getD j false=true:=hj;rw[h0] at hj';cases hj'
 ·rw[hst];exact I.drew _
 rw[hst]
 intro sF G0 a' w' hq I0 Sn0 hn' hd'
 obtain⟨G',I',Sn1⟩:=hq I0
 have Sn:=Sn0.trans Sn1
 exact hK _ _ _ _ _ k I' ⟨⟨Sn.later.base,Sn.later.R0,Sn.later.R0c,Sn.later.R0m,Sn.later.os,Sn.later.tape,Sn.later.output,Sn.later.size,Sn.later.cold,fun e=>qd (Wc _) (Sn.later.drawn e)⟩,Sn.keeps,Sn.newb⟩ hn' (Mks.of hd')
theorem Wk.trans {s s1 s2:St} (h:Wk nb s s1) (k:Wk nb s1 s2):Wk nb s s2:=fun I=>by
 obtain⟨G1,I1,S1⟩:=h I
 obtain⟨G2,I2,S2⟩:=k I1
 exact⟨G2,I2,S1.trans S2⟩
theorem wk_shutK {s:St} {h:Nat} {R R':List (PV×PV)->Prop} (hm:qr s.ms h=some (.kmap R)) (hR:∀ kv,R kv->R' kv):Wk nb s ⟨s.tm,(h,.kmap R')::s.ms⟩:=fun {G a w} I=>by
 have H:qW G w h (.kmap R'):=by
  have:=I.ms h _ hm
  grind [qW]
 have S:=q8 (m:=.kmap R') (val:=.dead) (r:=undef) I.ctxS (B:=G.ρ h) hm aU (w':=w) Z Z Z Z (fun _ _=>rfl) aB c6 ak am
 rw[Gh.qT] at S
 obtain⟨I1,Sn1⟩:=I.eff (s:=s) (K:=nb) S none ao
 exact⟨G,I1,Sn1⟩
theorem ready_after {listed:Array Bool} {i:Nat} (h:i∈Region.ready .any ops listed) {o:Oper} (ho:ops[i]? =some o):listed.getD i true=false/\∀ e∈o.after.toList,Region.binds .any e=true->listed.getD e.on false=true:=by
 unfold Region.ready at h
 have h2:=(JC.1 h).2
 rw[ho] at h2
 simp only[zj,XP,qc,zO] at h2
 obtain⟨h1,h2⟩:=h2
 rw[<-Array.all_toList] at h2
 grind
end
section
variable {P:Program} {Y:Tab} [qH P Y] {nb:Nat} {s:St} {dst:Option Tmp} {ty u:TypeId} {pos:String} {af:Array Edge} {gd:Option (Nat×Bool)} {t:TypeId} {x y:Operand} {a b:Int}
theorem B.idxB {h c n len:Nat} {m:Int} {e:TypeId} {o:MO} (ht:Y.underlying t=some (.array len e)) (hs:szT Y e=some 1) (hx:ev1 s x=.bref h c) (hm:qr s.ms h=some o) (hy:ev1 s y=lit (.int .i64 m)) (h1:1<len) (hn:m=(n:Int)) (hlt:n<len) :
  Body P Y nb s ⟨dst,.indexAddr t x y,ty,pos,af,gd⟩ (.bref h (c+n)) [] [h]:=by
 subst hn
 refine .inr (jS.of fun σ G a w hv hl I=>?_)
 have hX:=hv x aS
 have hY:=hv y aS
 rw[hx] at hX;rw[hy] at hY
 have hY:=(qx hY).1
 have hlk:qr σ.ms h=some o:=by grind
 simp only[qt] at hX
 obtain⟨ha,b,hb,hX⟩:=hX
 have hrun:(Instr.indexAt t (.pointer (some ⟨b,c,none⟩)) (.int .i64 (n:Int))).run P w=.ok (.pointer (some ⟨b,c+n,none⟩)) w:=by
  have hl:¬len<=1:=aa
  simp only[Instr.indexAt,qp,asIntOf,qq,qF ht,qo,Instr.sureAddr,Int.natCast_nonneg,Int.ofNat_lt,hlt,WB,ql,Sem.run_ite,qX hs,Addr.add_lit,hl,zT,We]
 refine⟨.pointer (some ⟨b,c+n,none⟩),w,G,.inl ?_,qD I.ctxS ?_ (fun k hk=>?_)⟩
 ·simp only[execOp,hX,hY,qp,hrun,qo,qq]
 ·grind [qt]
 grind [DV.refs]
theorem B.loadM {h c k:Nat} {T:TypeId} {ds:List DV} (hx:ev1 s x=.bref h c) (hm:qr s.ms h=some (.box T ds)) (ha:aggT Y t=some false) (hs:szT Y t=some 1) (hd:ds[c]? =some (.mref k)) :
  Body P Y nb s ⟨dst,.load t x,ty,pos,af,gd⟩ (.mref k) [] [h]:=by
 refine .inr (jS.of fun σ G a w hv hl I=>?_)
 have hX:=hv x aS
 rw[hx] at hX
 have hlk:qr σ.ms h=some (.box T ds):=by grind
 have hcl:=(QD.1 hd).1
 have hq:Z4 Y t (qr σ.ms) (.bref h c)=some (true,.mref k):=by grind [Z4]
 obtain⟨r,h1,h2⟩:=Z8 (P:=P) I.ctxS.sees hq hX
 refine⟨r,w,G,.inl ?_,qD I.ctxS h2 (fun j hj=>?_)⟩
 ·simp only[execOp,qp,h1,qo,qq]
 refine I.refsM h _ j hlk ?_
 have hk:(DV.mref k)∈ds:=Xe hd
 have:∀ (l:List DV),DV.mref k∈l->∀ j∈(DV.mref k).refs,j∈DV.qL l:=by
  intro l
  induction l with
  | nil=>intro h;cases h
  | cons d l ih=>
   grind [DV.qL]
 exact this ds hk j hj
end
section
variable [Fc] {P:Program} {Y:Tab} [qH P Y] {nb n:Nat} {Q:Exit->St->Prop} {K:List Fr} {ops:Array Oper} {B:List Oper}
def CutW (P:Program) (Y:Tab) (nb n:Nat) (Q:Exit->St->Prop) (K:List Fr) (ops:Array Oper) (B:List Oper) (s:St):Prop:=∃ s2,Wk nb s s2/\RG P Y nb ops false B s2 [] (PK P n nb Q K .normal)
theorem CutW.mk {s s2:St} (h:Wk nb s s2) (k:RG P Y nb ops false B s2 [] (PK P n nb Q K .normal)):CutW P Y nb n Q K ops B s:=⟨s2,h,k⟩
end
section
variable {P:Program} {Y:Tab} [qH P Y] {nb:Nat} {s:St} {dst:Option Tmp} {ty:TypeId} {pos:String} {af:Array Edge} {gd:Option (Nat×Bool)} {t:TypeId} {x y:Operand}
theorem B.arrP {e:TypeId} {c0 c1:PV} (ht:Y.underlying t=some (.array 2 e)) (hx:ev1 s x=.pv (.slice [[c0],[c1]])) :
  Body P Y nb s ⟨dst,.sliceToArrayPointer t x,ty,pos,af,gd⟩ (.pv (.box [c0,c1])) [] []:=by
 refine .inr (jS.of fun σ G a w hv _ I=>?_)
 have hX:=hv x aS
 rw[hx] at hX
 simp only[qt,qI] at hX
 obtain⟨p,cap,hX,hl,H⟩:=hX
 rcases H with H|⟨b,off,esz,rfl,H⟩
 ·cases H
 simp only[qQ,qY,zb,zd] at H
 obtain⟨rfl,⟨h0,_⟩,_,⟨h1,_⟩,_⟩:=H
 have hrun:(Instr.arrayAt t (.slice (some ⟨b,off,none⟩) 2 cap)).run P w=.ok (.pointer (some ⟨b,off,none⟩)) w:=by simp only[Instr.arrayAt,qp,qF ht,qo,Nat.lt_irrefl,qm,qq]
 refine⟨.pointer (some ⟨b,off,none⟩),w,G,.inl ?_,qD I.ctxS ?_ (fun k hk=>by simp[DV.refs] at hk)⟩
 ·grind [execOp,Sem.run_bind,List.length_cons,List.length_nil,Result.andThen_ok,Sem.run_pure]
 grind [qt,qI,qY]
theorem run_eqA2 {it:TypeId} {a0 a1 b0 b1:Value} {r0 r1:Bool} (hk:Y.underlying t=some (.array 2 it)) (ha:aggT Y it=some false) (hz:szT Y it=some 1) (h0:∀ n w,(Op.equalIn (n+1) it a0 b0).run P w=.ok r0 w) (h1:∀ n w,(Op.equalIn (n+1) it a1 b1).run P w=.ok r1 w) (w:World) :
  (Op.equalIn 10000 t (.agg #[a0,a1]) (.agg #[b0,b1])).run P w=.ok (r0&&r1) w:=by
 have p0:∀ (a b:Value) (w:World),(part it #[a,b] 0).run P w=.ok a w:=fun a b w=>by simp[part,qp,kA ha]
 have p1:∀ (a b:Value) (w:World),(part it #[a,b] 1).run P w=.ok b w:=fun a b w=>by simp[part,qp,kA ha]
 have key:∀ n:Nat,(Op.equalIn (n+1+1) t (.agg #[a0,a1]) (.agg #[b0,b1])).run P w=.ok (r0&&r1) w:=fun n=>by
  rw[Op.equalIn]
  simp only[qp,qF hk,qo,qX hz]
  cases r0<;>cases r1<;>simp[Qe,Std.Legacy.Range.size,List.range',p0,p1,h0,h1]
 exact key 9998
theorem B.eqA2 {it u:TypeId} {a0 a1 b0 b1:Value} {r0 r1:Bool} (hb:Y.eqBad t=false) (hk:Y.underlying t=some (.array 2 it)) (ha:aggT Y it=some false) (hz:szT Y it=some 1) (h0:∀ n w,(Op.equalIn (n+1) it a0 b0).run P w=.ok r0 w) (h1:∀ n w,(Op.equalIn (n+1) it a1 b1).run P w=.ok r1 w)
  (hx:ev1 s x=.pv (.agg [.lit a0,.lit a1])) (hy:ev1 s y=.pv (.agg [.lit b0,.lit b1])) (op:BinOp) (ho:op=.eql\/op=.neq) :
  Body P Y nb s ⟨dst,.binOp op t x y u,ty,pos,af,gd⟩ (lit (.bool (if op=.eql then r0&&r1 else !(r0&&r1)))) [] []:=by
 refine .inr (jS.of fun σ G a w hv _ I=>?_)
 have hX:=hv x aS
 have hY:=hv y aS
 rw[hx] at hX;rw[hy] at hY
 simp only[qt,qI,qw] at hX hY
 obtain⟨vx,hX,_,v1,l1,e1,⟨rfl,_⟩,v2,l2,e2,⟨rfl,_⟩,e3⟩:=hX
 obtain⟨vy,hY,_,u1,m1,f1,⟨rfl,_⟩,u2,m2,f2,⟨rfl,_⟩,f3⟩:=hY
 subst e3;subst e2;subst f3;subst f2
 have ex:vx= #[v1,v2]:=by grind
 have ey:vy= #[u1,u2]:=by grind
 subst ex;subst ey
 have hst:=qH.eqs P hb
 simp only[z7] at hst
 have key:=run_eqA2 (P:=P) hk ha hz h0 h1 w
 refine⟨.bool (if op=.eql then r0&&r1 else !(r0&&r1)),w,G,.inl ?_,qD I.ctxS (qG Z) (fun k hk=>by simp[lit,DV.refs] at hk)⟩
 rcases ho with rfl|rfl
 ·simp only[execOp,hX,hY,qp,run_eqGuard_agg w _ t x y _ _ hst.2,qo,run_eql_struct,key,ql]
  rfl
 simp only[execOp,hX,hY,qp,run_eqGuard_agg w _ t x y _ _ hst.2,qo,run_neq_struct,key]
 rfl
theorem eqI_run {it:TypeId} (hi:Y.underlying it=some (.int .i64)) (a b:Int) (n:Nat) (w:World):(Op.equalIn (n+1) it (.int .i64 a) (.int .i64 b)).run P w=.ok (a==b) w:=by rw[Op.equalIn];simp[qF hi]
theorem eqS_run {it:TypeId} (hi:Y.underlying it=some .string) (a b:ByteArray) (n:Nat) (w:World):(Op.equalIn (n+1) it (.string a) (.string b)).run P w=.ok (a==b) w:=by rw[Op.equalIn];simp[qF hi]
end
abbrev YOrc:=Nat->Array Tmp->Code->Code->List DV->List DV->Na->Option (DV×Na)
def YOrcOk (P:Program) (U:YOrc):Prop:=∀ h ps asg bd ds xs l val ms,U h ps asg bd ds xs l=some (val,ms)->YldOk P h ps asg bd ds xs (qr l) val ms
abbrev XOp:=Nat->St->Oper->Option (DV×Na×List Nat)
def XOpOk (P:Program) (Y:Tab) (X:XOp):Prop:=∀ nb s o val m rd,X nb s o=some (val,m,rd)->Body P Y nb s o val m rd
theorem SubL.sel {ms:Na}:∀ {ns:List Nat},SubL ms (sel ms ns)
 | []=>trivial
 | h::ns=>by
  simp only[Go.Lens.sel]
  split
  ·rename_i o ho;exact⟨ho,SubL.sel⟩
  exact SubL.sel
noncomputable def fitE (ms l:Na) (r:Option (DV×Na)):Option (DV×Na×List Nat):=match r with
 | some (val,out)=>bif q7 l&&out.all (fun p=>jH l p.1||!jH ms p.1) then some (val,out,l.map (·.1)) else none
 | none=>none
theorem fitE_ok {ms l:Na} {r:Option (DV×Na)} {val:DV} {m:Na} {rd:List Nat} (h:fitE ms l r=some (val,m,rd)):r=some (val,m)/\rd=l.map (·.1)/\q7 l=true/\m.all (fun p=>jH l p.1||!jH ms p.1)=true:=by
 unfold fitE at h
 split at h
 ·rename_i v o
  cases hb:(q7 l&&o.all (fun p=>jH l p.1||!jH ms p.1)) with
  | false=>rw[hb] at h;cases h
  | true=>
   rw[hb] at h
   simp only[Wy,zh,zx] at h
   obtain⟨rfl,rfl,rfl⟩:=h
   simp only[zj] at hb
   exact⟨rfl,rfl,hb.1,hb.2⟩
 cases h
noncomputable def yOp (O:Orc) (U:YOrc) (X:XOp) (Y:Tab) (nb:Nat) (s:St) (o:Oper):Option (DV×Na×List Nat):=
 match o.op with
 | .call ⟨.value f,args,_⟩=>match ev1 s f with
  | .yld h ps asg bd ds=>
   hfVs false false (args.toList.map (ev1 s)) fun xs=>
   hfSp (sel s.ms (jX s.ms 10000 (h::(DV.qL ds++DV.qL xs)) [])) fun l=>
   fitE s.ms l (U h ps asg bd ds xs l)
  | d=>match tgtX d with
   | some (fid,first,caps)=>
    hfVs false false (first++args.toList.map (ev1 s)++caps) fun ds=>
    hfSp (sel s.ms (jX s.ms 10000 (DV.qL ds) [])) fun l=>
    hfN (maxN s.ms nb) fun lo=>fitE s.ms l (O fid lo ds l)
   | none=>none
 | _=>match X nb s o with
  | some r=>some r
  | none=>bodyX Y nb s o
section
variable {P:Program} {Y:Tab} [qH P Y] {O:Orc} {U:YOrc} {X:XOp} {fr:Oper->Bool} {nb n:Nat}
theorem yOp_ok (hO:kX P O) (hZ:YOrcOk P U) (hX:XOpOk P Y X) {s:St} {o:Oper} {val:DV} {m:Na} {rd:List Nat} (h:yOp O U X Y nb s o=some (val,m,rd)):Body P Y nb s o val m rd:=by
 obtain⟨dst,op,ty,pos,af,gd⟩:=o
 unfold yOp at h
 simp only[hfVs_eq,hfSp_eq,kE] at h
 split at h
 ·split at h
  ·rename_i hf
   obtain⟨h1,rfl,h3,h4⟩:=fitE_ok h
   exact B.yieldS (hZ _ _ _ _ _ _ _ _ _ h1) hf Z SubL.sel h3 h4
  split at h
  ·rename_i ht
   obtain⟨h1,rfl,h3,h4⟩:=fitE_ok h
   exact B.jx (hO _ _ _ _ _ _ h1) ht Z SubL.sel h3 h4
  cases h
 split at h
 ·rename_i hr;cases h;exact hX _ _ _ _ _ _ hr
 exact B.run h
noncomputable def yRg (O:Orc) (U:YOrc) (X:XOp) (Y:Tab) (nb:Nat) (ops:Array Oper) (dr:Bool) (os:List Oper):St->List Ef->Option St:=
 List.rec (motive:=fun _=>St->List Ef->Option St) (fun s acc=>bif !dr||Zf ops 0 acc then some s else none)
  (fun o _ ih s acc=>match gcond ops s o.guard with
   | some true=>match yOp O U X Y nb s o with
    | some (v,m,rd)=>hfE s o.dst v m rd fun s e=>ih s (acc++[e])
    | none=>none
   | some false=>hfE s o.dst (.gd false (lit (.bool false))) [] [] fun s e=>ih s (acc++[e])
   | none=>none) os
theorem yRg_ok (hO:kX P O) (hZ:YOrcOk P U) (hX:XOpOk P Y X) {ops:Array Oper} {dr:Bool} {Q:St->Prop}:∀ (os:List Oper) {s s':St} {acc:List Ef},yRg O U X Y nb ops dr os s acc=some s'->Q s'->RG P Y nb ops dr os s acc Q
 | [],s,s',acc,h,q=>by
  replace h:(bif !dr||Zf ops 0 acc then some s else none)=some s':=h
  cases hb:(!dr||Zf ops 0 acc) with
  | false=>rw[hb] at h;cases h
  | true=>
   rw[hb] at h
   cases h
   exact RG.nil (fun hd=>by rw[hd] at hb;simpa using hb) q
 | o::os,s,s',acc,h,q=>by
  replace h:(match gcond ops s o.guard with
   | some true=>match yOp O U X Y nb s o with
    | some (v,m,rd)=>hfE s o.dst v m rd fun s e=>yRg O U X Y nb ops dr os s (acc++[e])
    | none=>none
   | some false=>hfE s o.dst (.gd false (lit (.bool false))) [] [] fun s e=>yRg O U X Y nb ops dr os s (acc++[e])
   | none=>none)=some s':=h
  simp only[hfE_eq] at h
  split at h
  ·rename_i hg
   split at h
   ·rename_i hy;exact RG.cons (EfR.on hg (yOp_ok hO hZ hX hy)) (yRg_ok hO hZ hX os h q)
   cases h
  ·rename_i hg;exact RG.cons (EfR.off hg) (yRg_ok hO hZ hX os h q)
  cases h
noncomputable def frz1 (s:St) (t:Nat):St:=match jJ s.tm t with
 | .aref h v=>match qr s.ms h with
  | some (.arr v' _ _ es)=>bif Nat.beq v v' then ⟨(t,.pv (.slice es))::s.tm,(h,.farr v es)::s.ms⟩ else s
  | _=>s
 | _=>s
theorem Wk.refl {nb:Nat} {s:St}:Wk nb s s:=fun I=>⟨_,I,Since.refl _ _ _ _⟩
theorem Wk.tr {nb:Nat} {s s1 s2:St} (h:Wk nb s s1) (k:Wk nb s1 s2):Wk nb s s2:=fun I=>by
 obtain⟨G1,I1,S1⟩:=h I
 obtain⟨G2,I2,S2⟩:=k I1
 exact⟨G2,I2,S1.trans S2⟩
theorem Wk.frz1 {nb:Nat} {s:St} {t:Nat}:Wk nb s (frz1 s t):=by
 unfold Go.Lens.frz1
 split
 ·rename_i h v ht
  split
  ·rename_i v' sz T es hm
   cases hb:Nat.beq v v' with
   | false=>exact Wk.refl
   | true=>
    have:=zD hb
    subst this
    simp only[Wy]
    exact @wk_frz _ nb s t h _ (.farr v es) (.slice es) ht ao aR (by simp[pvOf,qy])
  exact Wk.refl
 exact Wk.refl
noncomputable def frzR (fr:Oper->Bool) (ops:Array Oper) (s:St):St:=bif ops.toList.any fr then (s.tm.map (·.1)).foldl frz1 s else s
theorem Wk.frzR {fr:Oper->Bool} {nb:Nat} {ops:Array Oper} {s:St}:Wk nb s (frzR fr ops s):=by
 unfold Go.Lens.frzR
 cases ops.toList.any fr with
 | false=>exact Wk.refl
 | true=>
  have key:∀ (l:List Nat) (s:St),Wk nb s (l.foldl Go.Lens.frz1 s):=by
   intro l
   induction l with
   | nil=>intro s;exact Wk.refl
   | cons t l ih=>intro s;exact Wk.frz1.tr (ih _)
  simp only[Wy]
  exact @key _ _
def nodB:List Nat->Bool
 | []=>true
 | a::l=>!(l.any (Nat.beq a))&&nodB l
theorem nodB_ok:∀ {l:List Nat},nodB l=true->l.Nodup
 | [],_=>J5
 | a::l,h=>by
  simp only[nodB,zj,XP,XT] at h
  refine JD.2 ⟨fun hm=>?_,nodB_ok h.2⟩
  exact h.1 a hm (KE a)
noncomputable def rgEnd (h:Nat) (s:St) (r:Option (DV×Na)):Option (Exit×St):=match r with
 | some (_,out)=>bif !nodB (out.map (·.1)) then none else match qr out h with
  | some (.lrec .ready false)=>hfSt ⟨s.tm,(h,.gone)::(out.filter (fun p=>!Nat.beq p.1 h)++s.ms)⟩ fun s=>some (.normal,s)
  | some (.lrec .done true)=>hfSt ⟨s.tm,(h,.gone)::(out.filter (fun p=>!Nat.beq p.1 h)++s.ms)⟩ fun s=>some (.ret,s)
  | _=>none
 | none=>none
noncomputable def gcF (nb:Nat) (s:St):Option St:=match gcX nb s with
 | some s=>hfSt s some
 | none=>none
theorem gcF_eq:gcF nb=gcX nb:=funext fun s=>by
 unfold gcF
 split
 ·rename_i h;rw[hfSt_eq,h]
 rename_i h;rw[h]
variable (O U X fr Y n nb) in
noncomputable def yCode (en:FuncId->Bool) (rg:Bool) (kp:Nat) (c:Code) (s:St):Option (Exit×St):=
 Code.rec (motive:=fun _=>St->Option (Exit×St))
  (fun s=>some (.normal,s))
  (fun _ ops dr s=>match yRg O U X Y nb ops dr ops.toList (frzR fr ops s) [] with
   | some s'=>hfSp (keepF kp s'.tm) fun tm=>some (.normal,⟨tm,s'.ms⟩)
   | none=>none)
  (fun _ _ ix iy s=>match ix s with
   | some (.normal,s')=>iy s'
   | r=>r)
  (fun c _ _ ix iy s=>match evS s c with
   | .pv (.lit (.bool true))=>ix s
   | .pv (.lit (.bool false))=>iy s
   | _=>none)
  (fun id _ ic s=>match ic s with
   | some (.exit i,s')=>bif Nat.beq i id then some (.normal,s') else some (.exit i,s')
   | r=>r)
  (fun _ ic s=>iterX (gcF nb) ic 100000 s)
  (fun g ps asg bd _ _ s=>match tgtX (ev1 s g) with
   | some (f,first,caps)=>
    bif !(rg&&en f) then none else hfN (maxN s.ms nb+1) fun h=>hfVs false false (first++[.yld h ps asg bd ((List.range n).map (jJ s.tm))]++caps) fun xs=>rgEnd h s (O f h xs ((h,.lrec .ready false)::s.ms))
   | none=>none)
  (fun id s=>some (.exit id,s))
  (fun _ ic s=>bif rg then (match ic s with
   | some (.goto _,_)=>none
   | r=>r) else none)
  (fun _ s=>some (.normal,s))
  (fun _ _=>none)
  (fun s=>some (.ret,s))
  (fun _ _=>none) c s
theorem T.wkPost [Fc] {c:Code} {s sA sB:St} {e0:Exit} (h:T P n nb c s fun e s1=>e=e0/\s1=sA) (hw:Wk nb sA sB):T P n nb c s fun e s1=>e=e0/\s1=sB:=by
 intro G a w R I hn hK
 refine h G a w R I hn ?_
 rintro e s1 G1 a1 w1 ⟨rfl,rfl⟩ I1 Sn1 hn1 hd1
 obtain⟨G2,I2,Sn2⟩:=hw I1
 exact hK _ _ _ _ _ ⟨rfl,rfl⟩ I2 (Sn1.trans Sn2) hn1 (Mks.next Sn1 hd1 Sn2 (Mks.of Z))
theorem maxN_no {ms:Na} {nb:Nat}:qr ms (maxN ms nb+1)=none:=by
 cases h:qr ms (maxN ms nb+1) with
 | none=>rfl
 | some o=>
  have:=(maxN_le ms nb).2 _ (jl h)
  simp only at this
  omega
theorem getD_rg {tm:List (Nat×DV)} {i:Nat} (h:i<n):((List.range n).map (jJ tm)).getD i .dead=jJ tm i:=by
 simp[ze,h]
theorem nbeq {a b:Nat} (h:a≠b):Nat.beq a b=false:=by
 cases hb:Nat.beq a b with
 | false=>rfl
 | true=>exact absurd (zD hb) h
theorem filt_perm {h:Nat} {m:MO}:∀ {l:Na},(l.map (·.1)).Nodup->qr l h=some m->((h,m)::l.filter (fun p=>!Nat.beq p.1 h)).Perm l
 | [],_,e=>by cases e
 | (k,o)::l,hd,e=>by
  rw[qy] at e
  simp only[zy,JD] at hd
  split at e
  ·rename_i hk
   subst hk
   cases e
   have:l.filter (fun p=>!Nat.beq p.1 k)=l:=by
    rw[Xm]
    intro p hp
    have hne:p.1≠k:=fun e=>hd.1 (by rw[<-e];exact zE.2 ⟨p,hp,rfl⟩)
    simp[nbeq hne]
   rw[List.filter_cons_of_neg ao,this]
  rename_i hk
  have ih:=filt_perm hd.2 e
  rw[List.filter_cons_of_pos (by simp[nbeq hk])]
  exact (List.Perm.swap _ _ _).trans (ih.cons _)
theorem rgEnd_ok {g:Operand} {ps:Array Tmp} {asg bd:Code} {s s':St} {e:Exit} {f:FuncId} {first caps:List DV} (hO:kX P O) (he:∀ args w,(callFunc f args).run P w=.ok (.enter f args) w) (hg:tgtX (ev1 s g)=some (f,first,caps))
  (h:rgEnd (maxN s.ms nb+1) s (O f (maxN s.ms nb+1) (first++[.yld (maxN s.ms nb+1) ps asg bd ((List.range n).map (jJ s.tm))]++caps) ((maxN s.ms nb+1,.lrec .ready false)::s.ms))=some (e,s')) :
  T P n nb (.rangeFunc g ps asg bd) s fun e2 s2=>e2=e/\s2=s':=by
 unfold rgEnd at h
 simp only[hfSt_eq] at h
 split at h
 ·rename_i val out ho
  have hc:=hO _ _ _ _ _ _ ho
  cases hb:nodB (out.map (·.1)) with
  | false=>rw[hb] at h;cases h
  | true=>
  rw[hb] at h
  simp only[Ke,Ww] at h
  have hd:=nodB_ok hb
  have key:∀ (st:LoopState) (pe:Bool),qr out (maxN s.ms nb+1)=some (.lrec st pe)->st≠.busy->T P n nb (.rangeFunc g ps asg bd) s fun e2 s2=>e2=(bif pe then .ret else .normal)/\s2=⟨s.tm,(maxN s.ms nb+1,.gone)::(out.filter (fun p=>!Nat.beq p.1 (maxN s.ms nb+1))++s.ms)⟩:=by
   intro st pe hl hst
   refine T.range (hl:=maxN s.ms nb+1) (ds:=(List.range n).map (jJ s.tm)) (val:=val) (out:=out.filter (fun p=>!Nat.beq p.1 (maxN s.ms nb+1))) (st:=st) pe he hg maxN_no ao (fun i hi=>.inl (getD_rg hi)) ?_ hst ?_ ?_
   ·exact⟨hc.refs,fun G w vs M hv=>(hc.call G w vs M hv).mono fun r w' ⟨G',S⟩=>⟨G',S.perm (filt_perm hd hl)⟩⟩
   ·intro p hp
    have:=(JC.1 hp).2
    intro e
    rw[e] at this
    simp at this
   exact⟨rfl,rfl⟩
  split at h
  ·rename_i hl
   cases h
   exact key _ _ hl ao
  ·rename_i hl
   cases h
   exact key _ _ hl ao
  cases h
 cases h
theorem yCode_ok [fc:Fc] (hm:P.follows .mixedOrders=true) (hO:kX P O) (hZ:YOrcOk P U) (hX:XOpOk P Y X) {en:FuncId->Bool} (he:∀ f,en f=true->∀ args w,(callFunc f args).run P w=.ok (.enter f args) w) {rg:Bool} (hr:rg=true->fc=fc0) {kp:Nat} :
  ∀ (c:Code),jh n c=true->∀ {s s':St} {e:Exit},yCode Y O U X fr nb n en rg kp c s=some (e,s')->T P n nb c s fun e2 s2=>e2=e/\s2=s':=by
 intro c
 induction c with
 | skip=>intro hda s s' e h;cases h;exact T.skip ⟨rfl,rfl⟩
 | exit id=>intro hda s s' e h;cases h;exact T.exit ⟨rfl,rfl⟩
 | ret=>intro hda s s' e h;cases h;exact T.ret ⟨rfl,rfl⟩
 | label l=>intro hda s s' e h;cases h;exact TK.label (K:=[]) (l:=l) (show PK P n nb _ [] .normal s from ⟨rfl,rfl⟩)
 | seq x y ihx ihy=>
  intro hda s s' e h
  replace h:(match yCode Y O U X fr nb n en rg kp x s with
   | some (.normal,s')=>yCode Y O U X fr nb n en rg kp y s'
   | r=>r)=some (e,s'):=h
  simp only[jh,zj] at hda
  split at h
  ·rename_i s1 h1
   refine T.seq (ihx hda.1 h1) (fun s2 hs=>?_) (fun e2 s2 hne hs=>absurd hs.1 hne)
   rw[hs.2];exact ihy hda.2 h
  rename_i hne
  refine T.seq (ihx hda.1 h) (fun s2 hs=>?_) (fun e2 s2 _ hs=>hs)
  have:=hs.1
  subst this
  exact absurd h (hne s')
 | cond c x y ihx ihy=>
  intro hda s s' e h
  replace h:(match evS s c with
   | .pv (.lit (.bool true))=>yCode Y O U X fr nb n en rg kp x s
   | .pv (.lit (.bool false))=>yCode Y O U X fr nb n en rg kp y s
   | _=>none)=some (e,s'):=h
  simp only[jh,zj] at hda
  split at h
  ·rename_i hc;exact T.cond hc (fun _=>ihx hda.1 h) (fun e=>by cases e)
  ·rename_i hc;exact T.cond hc (fun e=>by cases e) (fun _=>ihy hda.2 h)
  cases h
 | block id c ih=>
  intro hda s s' e h
  replace h:(match yCode Y O U X fr nb n en rg kp c s with
   | some (.exit i,s')=>bif Nat.beq i id then some (.normal,s') else some (.exit i,s')
   | r=>r)=some (e,s'):=h
  split at h
  ·rename_i i s1 h1
   refine T.block (T.mono (ih eC h1) ?_)
   rintro e2 s2 ⟨rfl,rfl⟩
   simp only
   cases hb:Nat.beq i id with
   | true=>
    rw[hb] at h
    have:=zD hb
    subst this
    cases h
    rw[WK rfl];exact⟨rfl,rfl⟩
   | false=>
    rw[hb] at h
    cases h
    rw[WJ (fun e=>by subst e;rw[KE] at hb;cases hb)];exact⟨rfl,rfl⟩
  rename_i hne
  refine T.block (T.mono (ih eC h) ?_)
  rintro e2 s2 ⟨rfl,rfl⟩
  cases e2 with
  | exit i=>exact absurd h (hne i s2)
  | _=>exact⟨rfl,rfl⟩
 | loop c ih=>
  intro hda s s' e h
  replace h:iterX (gcF nb) (yCode Y O U X fr nb n en rg kp c) 100000 s=some (e,s'):=h
  rw[gcF_eq] at h
  refine T.loop (fun k s=>iterX (gcX nb) (yCode Y O U X fr nb n en rg kp c) k s=some (e,s')) ?_ h
  intro k s hk
  cases k with
  | zero=>cases hk
  | succ k=>
   rw[iterX_succ] at hk
   split at hk
   ·rename_i s1 h1
    split at hk
    ·rename_i s2 h2
     refine T.mono (T.wkPost (ih eC h1) (fun I=>I.gcX h2)) ?_
     rintro e2 s3 ⟨rfl,rfl⟩
     exact⟨k,Nat.lt_succ_self k,hk⟩
    cases hk
   rename_i hne
   refine T.mono (ih eC hk) ?_
   rintro e2 s3 ⟨rfl,rfl⟩
   cases e2 with
   | normal=>exact absurd hk (hne s3)
   | _=>exact⟨rfl,rfl⟩
 | region id ops dr=>
  intro hda s s' e h
  replace h:(match yRg O U X Y nb ops dr ops.toList (frzR fr ops s) [] with
   | some s'=>hfSp (Go.Lens.keepF kp s'.tm) fun tm=>some (.normal,⟨tm,s'.ms⟩)
   | none=>none)=some (e,s'):=h
  simp only[hfSp_eq] at h
  split at h
  ·rename_i s1 h1
   cases h
   exact T.wkPost (sA:=s1) (T.weak Wk.frzR (T.rg (Y:=Y) hm hda (yRg_ok hO hZ hX _ h1 ⟨rfl,rfl⟩))) (fun I=>I.keepF nb kp)
  cases h
 | rangeFunc g ps asg bd _ _=>
  intro hda s s' e h
  replace h:(match tgtX (ev1 s g) with
   | some (f,first,caps)=>
    bif !(rg&&en f) then none else hfN (maxN s.ms nb+1) fun h=>hfVs false false (first++[.yld h ps asg bd ((List.range n).map (jJ s.tm))]++caps) fun xs=>rgEnd h s (O f h xs ((h,.lrec .ready false)::s.ms))
   | none=>none)=some (e,s'):=h
  split at h
  ·rename_i hg
   simp only[kE,hfVs_eq] at h
   cases hb:(rg&&en _) with
   | false=>rw[hb] at h;cases h
   | true=>
    rw[hb] at h
    simp only[zj] at hb
    have:=hr hb.1
    subst this
    exact rgEnd_ok hO (he _ hb.2) hg h
  cases h
 | scope c ih=>
  intro hda s s' e h
  replace h:(bif rg then (match yCode Y O U X fr nb n en rg kp c s with
   | some (.goto _,_)=>none
   | r=>r) else none)=some (e,s'):=h
  cases rg with
  | false=>cases h
  | true=>
   simp only[Wy] at h
   have:=hr rfl
   subst this
   split at h
   ·cases h
   rename_i hne
   refine TK.scope (K:=[]) (Q:=fun e2 s2=>e2=e/\s2=s') (fun l s2 hq=>?_) (ih eC h)
   rw[<-hq.1] at h
   exact hne l s' h
 | _=>intro hda s s' e h;cases h
end
theorem AgM.sel {ms:Na}:∀ {ns:List Nat},AgM ms (sel ms ns)
 | []=>trivial
 | h::ns=>by
  simp only[Go.Lens.sel]
  split
  ·rename_i o ho;exact⟨ho,AgM.sel⟩
  exact AgM.sel
theorem look_sel {ms:Na}:∀ {ns:List Nat} {h:Nat} {o:MO},(h,o)∈sel ms ns->qr (sel ms ns) h=some o
 | [],h,o,hm=>by cases hm
 | k::ns,h,o,hm=>by
  have hl:=sel_mem hm
  simp only[Go.Lens.sel] at hm ⊢
  split at hm
  ·rename_i o' ho'
   rw[qy]
   split
   ·rename_i e;rw[<-e,ho'] at hl;exact hl
   rename_i e
   rcases zF.1 hm with e2|e2
   ·cases e2;exact absurd Z e
   exact look_sel e2
  exact look_sel hm
noncomputable def yFin (h nb:Nat) (l:Na) (b:Bool) (s:St):Option (DV×Na):=match qr s.ms h with
 | some (.lrec .busy false)=>
  let out:=sel s.ms ((jX s.ms 20000 (l.map (·.1)) []).filter fun k=>!Nat.beq k h)
  bif l.all (fun p=>jH ((h,.gone)::out) p.1)&&q7 ((h,.gone)::out)&&(q7 ((h,.lrec .busy false)::out)&&s.ms.all (fun p=>Nat.ble nb p.1||jH ((h,.lrec .busy false)::out) p.1)) then some (lit (.bool b),(h,.lrec (bif b then .ready else .done) (!b))::out) else none
 | _=>none
noncomputable def yYld (O:Orc) (U:YOrc) (X:XOp) (fr:Oper->Bool) (Y:Tab) (en:FuncId->Bool):YOrc:=fun h ps asg bd ds xs l=>
 match qr l h with
 | some (.lrec .ready false)=>
  bif Nat.beq ps.toList.length xs.length&&ps.toList.all (fun t=>Nat.blt t ds.length)&&(DV.qL (xs++ds)).all (jH l)&&(jh ds.length asg&&jh ds.length bd) then
   hfN (maxN l 0+1) fun nb=>hfN ds.length fun n=>hfSp (zipP ps.toList xs (zipT 0 ds)) fun tm=>match yCode Y O U X fr nb n en false (2 ^ n-1) asg ⟨tm,l⟩ with
   | some (.normal,s1)=>match qr s1.ms h with
    | some (.lrec .ready false)=>match yCode Y O U X fr nb n en false (2 ^ n-1) bd ⟨s1.tm,(h,.lrec .busy false)::s1.ms⟩ with
     | some (.normal,s2)=>yFin h nb l true s2
     | some (.ret,s2)=>yFin h nb l false s2
     | _=>none
    | _=>none
   | _=>none
  else none
 | _=>none
noncomputable def yFun (O:Orc) (U:YOrc) (X:XOp) (fr:Oper->Bool) (Y:Tab) (en:FuncId->Bool) (F:FnI) (lo:Nat) (ds:List DV) (l:Na):Option (DV×Na):=
 hfN (maxN l lo+1) fun nb=>match F.body with
 | some c=>bif Nat.ble ds.length F.n&&(DV.qL ds).all (jH l) then
   hfSp (zipT 0 ds) fun tm=>match yCode Y O U X fr nb F.n en true F.kp c ⟨tm,l⟩ with
   | some (.normal,s)=>kY Y F nb l s
   | some (.ret,s)=>kY Y F nb l s
   | _=>none
  else none
 | none=>none
section
variable {P:Program} {Y:Tab} [qH P Y] {O:Orc} {U:YOrc} {X:XOp} {fr:Oper->Bool} {en:FuncId->Bool}
theorem maxN_all (l:Na) (lo:Nat):l.all (fun p=>Nat.blt p.1 (maxN l lo+1))=true:=zr.2 fun p hp=>by
 have:=(maxN_le l lo).2 p hp
 simp only[Ws];omega
theorem yYld_ok (hm:P.follows .mixedOrders=true) (hO:kX P O) (hZ:YOrcOk P U) (hX:XOpOk P Y X) (he:∀ f,en f=true->∀ args w,(callFunc f args).run P w=.ok (.enter f args) w):YOrcOk P (yYld O U X fr Y en):=by
 intro h ps asg bd ds xs l val ms hy
 unfold yYld at hy
 split at hy
 ·rename_i h0
  cases hq:(Nat.beq ps.toList.length xs.length&&ps.toList.all (fun t=>Nat.blt t ds.length)&&(DV.qL (xs++ds)).all (jH l)&&(jh ds.length asg&&jh ds.length bd)) with
  | false=>rw[hq] at hy;cases hy
  | true=>
   rw[hq] at hy
   simp only[Wy,kE,hfSp_eq] at hy
   simp only[zj] at hq
   obtain⟨⟨⟨q1,q2⟩,q3⟩,q4,q5⟩:=hq
   split at hy
   ·rename_i s1 hc1
    split at hy
    ·rename_i h1
     have fin:∀ (b:Bool) (s2:St),yCode Y O U X fr (maxN l 0+1) ds.length en false (2 ^ ds.length-1) bd ⟨s1.tm,(h,.lrec .busy false)::s1.ms⟩=some (bif b then .normal else .ret,s2)->yFin h (maxN l 0+1) l b s2=some (val,ms)->YldOk P h ps asg bd ds xs (qr l) val ms:=by
      intro b s2 hc2 hf
      unfold yFin at hf
      split at hf
      ·rename_i hb
       simp only at hf
       generalize hout:sel s2.ms ((jX s2.ms 20000 (l.map (·.1)) []).filter fun k=>!Nat.beq k h)=out at hf
       cases hq2:(l.all (fun p=>jH ((h,.gone)::out) p.1)&&q7 ((h,.gone)::out)&&(q7 ((h,.lrec .busy false)::out)&&s2.ms.all (fun p=>Nat.ble (maxN l 0+1) p.1||jH ((h,.lrec .busy false)::out) p.1))) with
       | false=>rw[hq2] at hf;cases hf
       | true=>
        rw[hq2] at hf
        cases hf
        simp only[zj] at hq2
        obtain⟨⟨r1,r2⟩,r3,r4⟩:=hq2
        refine YldOk.of (nb:=maxN l 0+1) (n:=ds.length) (l1:=s1.ms) (tm1:=s1.tm) (out:=out) b Z (zD q1) (fun t ht=>by simpa using zr.1 q2 t ht) (fun k o e=>by have:=zr.1 (maxN_all l 0) _ (jl e);simpa using this) h0 q3 (fun r=>?_) h1 (fun r=>?_) ?_ ?_ r1 r2
        ·refine @T.mono _ _ _ _ _ _ _ ⟨some r⟩ _ (@yCode_ok _ _ _ _ _ _ _ _ _ _ ⟨some r⟩ hm hO hZ hX _ he _ (fun e=>by cases e) _ asg q4 _ _ _ hc1) ?_
         rintro e s3 ⟨rfl,rfl⟩
         exact⟨rfl,Wk.refl⟩
        ·refine @T.mono _ _ _ _ _ _ _ ⟨some r⟩ _ (@yCode_ok _ _ _ _ _ _ _ _ _ _ ⟨some r⟩ hm hO hZ hX _ he _ (fun e=>by cases e) _ bd q5 _ _ _ hc2) ?_
         rintro e s3 ⟨rfl,rfl⟩
         have hs:Sub (maxN l 0+1) s3 ⟨[],(h,.lrec .busy false)::out⟩:={ tm:=trivial,ms:=⟨hb,by rw[<-hout];exact AgM.sel⟩,shut:=?_ }
         ·exact⟨rfl,hs.wk⟩
         simp only[List.all_nil,Kb,zj]
         exact⟨r3,r4⟩
        ·intro p hp e
         rw[<-hout] at hp
         have hmem:∀ {ns:List Nat} {p:Nat×MO},p∈sel s2.ms ns->p.1∈ns:=by
          intro ns
          induction ns with
          | nil=>intro p hp;cases hp
          | cons k ns ih=>
           intro p hp
           simp only[Go.Lens.sel] at hp
           split at hp
           ·rcases zF.1 hp with e|e
            ·rw[e];exact qh
            exact zN _ (ih e)
           exact zN _ (ih hp)
         have:=(JC.1 (hmem hp)).2
         rw[e] at this
         simp at this
        intro k o hk
        rw[<-hout] at hk ⊢
        exact look_sel hk
      cases hf
     split at hy
     ·rename_i s2 hc2;exact fin true s2 hc2 hy
     ·rename_i s2 hc2;exact fin false s2 hc2 hy
     cases hy
    cases hy
   cases hy
 cases hy
end
section
variable {P:Program} {Y:Tab} [qH P Y] {O:Orc} {U:YOrc} {X:XOp} {fr:Oper->Bool} {en:FuncId->Bool}
theorem yFun_ok (hm:P.follows .mixedOrders=true) (hO:kX P O) (hZ:YOrcOk P U) (hX:XOpOk P Y X) (hen:∀ f,en f=true->∀ args w,(callFunc f args).run P w=.ok (.enter f args) w) {F:FnI} {f:FuncId} {fn:Func} (hf:P.funcs[f]? =some fn) (hb:fn.body=F.body) (hn:fn.ntmps=F.n) (hr:fn.results=F.res)
  (hda:∀ c,F.body=some c->jh F.n c=true) (he:∀ args w,(callFunc f args).run P w=.ok (.enter f args) w) {lo:Nat} {ds:List DV} {l:Na} {val:DV} {ms:Na} (h:yFun O U X fr Y en F lo ds l=some (val,ms)):qA P f ds (qr l) val ms:=by
 unfold yFun at h
 simp only[kE,hfSp_eq] at h
 split at h
 ·rename_i c hc
  cases hq:(Nat.ble ds.length F.n&&(DV.qL ds).all (jH l)) with
  | false=>rw[hq] at h;cases h
  | true=>
   rw[hq] at h
   simp only[Wy] at h
   simp only[zj,Wr] at hq
   have key:∀ (e:Exit) (s:St),(e=.normal\/e=.ret)->yCode Y O U X fr (maxN l lo+1) F.n en true F.kp c ⟨zipT 0 ds,l⟩=some (e,s)->kY Y F (maxN l lo+1) l s=some (val,ms)->qA P f ds (qr l) val ms:=by
    intro e s hex hy hx
    refine callOk_ofL (Y:=Y) (F:=F) (maxN l lo+1) l hf (hb.trans hc) hn hr he hq.1 hq.2 (maxN_all l lo) ?_
    refine T.mono (yCode_ok hm hO hZ hX hen (fun _=>rfl) c (hda c hc) hy) ?_
    rintro e2 s2 ⟨rfl,rfl⟩
    exact⟨hex,hx⟩
   split at h
   ·rename_i s hy;exact key _ s (.inl Z) hy h
   ·rename_i s hy;exact key _ s (.inr Z) hy h
   cases h
 cases h
noncomputable def yBoth (SP:Orc) (FT:Tr FnI) (X:XOp) (fr:Oper->Bool) (Y:Tab):Nat->Orc×YOrc
 | 0=>(fun _ _ _ _=>none,fun _ _ _ _ _ _ _=>none)
 | k+1=>(fun f lo ds l=>match SP f lo ds l with
   | some r=>some r
   | none=>match FT.get f with
    | some F=>yFun (yBoth SP FT X fr Y k).1 (yBoth SP FT X fr Y k).2 X fr Y (fun f=>(FT.get f).isSome) F lo ds l
    | none=>none,yYld (yBoth SP FT X fr Y k).1 (yBoth SP FT X fr Y k).2 X fr Y (fun f=>(FT.get f).isSome))
theorem yBoth_ok (hm:P.follows .mixedOrders=true) (hX:XOpOk P Y X) {SP:Orc} {FT:Tr FnI} (hS:kX P SP) (hF:FtOk P FT):∀ k,kX P (yBoth SP FT X fr Y k).1/\YOrcOk P (yBoth SP FT X fr Y k).2
 | 0=>by
  constructor
  ·intro f lo ds l val ms h;cases h
  intro h ps avs bd ds xs l val ms h;cases h
 | k+1=>by
  obtain⟨h1,h2⟩:=yBoth_ok hm hX hS hF k
  have hen:∀ f,(FT.get f).isSome=true->∀ args w,(callFunc f args).run P w=.ok (.enter f args) w:=fun f hf=>by
   obtain⟨F,hF'⟩:=QO.1 hf
   obtain⟨fn,_,_,_,_,_,h6⟩:=hF _ (Tr.get_mem hF')
   exact h6
  refine⟨fun f lo ds l val ms h=>?_,yYld_ok hm h1 h2 hX hen⟩
  simp only[yBoth] at h
  split at h
  ·rename_i r hr
   cases h
   exact hS _ _ _ _ _ _ hr
  split at h
  ·rename_i F hF'
   obtain⟨fn,g1,g2,g3,g4,g5,g6⟩:=hF _ (Tr.get_mem hF')
   exact yFun_ok hm h1 h2 hX hen g1 g2 g3 g4 g5 g6 h
  cases h
end
end Go.Lens
end
section
namespace Go.Lens.Tb
open Go.Proofs Go.Lens.Un
variable [Lz]
noncomputable def arr2 (t:TypeId):Option TypeId:=match tab.underlying t with
 | some (.array 2 e)=>some e
 | _=>none
theorem arr2_ok {t e:TypeId} (h:arr2 t=some e):tab.underlying t=some (.array 2 e):=by
 unfold arr2 at h
 split at h
 ·rename_i h2;cases h;exact h2
 cases h
noncomputable def eqE (t it:TypeId):Bool:=!(tab.eqBad t)&&(match aggT tab it with|some false=>true|_=>false)&&(match szT tab it with|some 1=>true|_=>false)
theorem eqE_ok {t it:TypeId} (h:eqE t it=true):tab.eqBad t=false/\aggT tab it=some false/\szT tab it=some 1:=by
 simp only[eqE,zj,XP] at h
 obtain⟨⟨h1,h2⟩,h3⟩:=h
 refine⟨h1,?_,?_⟩
 ·split at h2
  ·assumption
  cases h2
 split at h3
 ·assumption
 cases h3
def eqO (op:BinOp) (r:Bool):Option (DV×Na×List Nat):=match op with
 | .eql=>some (lit (.bool r),[],[])
 | .neq=>some (lit (.bool (!r)),[],[])
 | _=>none
noncomputable def xArr:XOp:=fun nb s o=>match o.op with
 | .buildSlice t _ _=>bif [32,79,56,22].any (Nat.beq t) then (match bodyX tab nb s o with
  | some (.aref h v,[(h',.arr v' _ _ es)],rd)=>bif Nat.beq h h'&&Nat.beq v v' then some (.pv (.slice es),[(h,.farr v es)],rd) else none
  | _=>none) else none
 | .sliceToArrayPointer t x=>match ev1 s x,arr2 t with
  | .pv (.slice [[c0],[c1]]),some _=>some (.pv (.box [c0,c1]),[],[])
  | _,_=>none
 | .binOp op t x y _=>match arr2 t with
  | some it=>match ev1 s x,ev1 s y with
   | .pv (.agg [.lit (.int .i64 a0),.lit (.int .i64 a1)]),.pv (.agg [.lit (.int .i64 b0),.lit (.int .i64 b1)])=>match tab.underlying it with
    | some (.int .i64)=>bif eqE t it then eqO op (a0==b0&&a1==b1) else none
    | _=>none
   | .pv (.agg [.lit (.string a0),.lit (.string a1)]),.pv (.agg [.lit (.string b0),.lit (.string b1)])=>match tab.underlying it with
    | some .string=>bif eqE t it then eqO op (a0==b0&&a1==b1) else none
    | _=>none
   | _,_=>none
  | none=>none
 | .load t x=>match ev1 s x with
  | .bref h c=>match qr s.ms h with
   | some (.box _ ds)=>match ds[c]? with
    | some (.mref k)=>match aggT tab t,szT tab t with
     | some false,some 1=>some (.mref k,[],[h])
     | _,_=>none
    | _=>none
   | _=>none
  | _=>none
 | .indexAddr t x y=>match ev1 s x with
  | .bref h c=>match tab.underlying t,qr s.ms h,ev1 s y with
   | some (.array len e),some _,.pv (.lit (.int .i64 m))=>match szT tab e with
    | some 1=>bif decide (1<len)&&(decide (0<=m)&&decide (m.toNat<len)) then some (.bref h (c+m.toNat),[],[h]) else none
    | _=>none
   | _,_,_=>none
  | _=>none
 | _=>none
theorem xArr_ok:XOpOk prog tab xArr:=by
 intro nb s o val m rd h
 obtain⟨dst,op,ty,pos,af,gd⟩:=o
 unfold xArr at h
 simp only at h
 split at h
 ·rename_i t _ _
  cases hb:[32,79,56,22].any (Nat.beq t) with
  | false=>rw[hb] at h;cases h
  | true=>
   rw[hb] at h
   simp only[Wy] at h
   split at h
   ·rename_i hh v h' v' sz T es rd' he
    cases hc:(Nat.beq hh h'&&Nat.beq v v') with
    | false=>rw[hc] at h;cases h
    | true=>
     rw[hc] at h
     cases h
     simp only[zj] at hc
     obtain rfl:=zD hc.1
     obtain rfl:=zD hc.2
     exact B.zA he
   cases h
 ·split at h
  ·rename_i hx ht
   cases h
   exact B.arrP (arr2_ok ht) hx
  cases h
 ·split at h
  ·rename_i it ht
   have fin:∀ {a0 a1 b0 b1:Value} {r0 r1:Bool} {x y:Operand} {u:TypeId} {op:BinOp} {t:TypeId},arr2 t=some it->eqE t it=true->ev1 s x=.pv (.agg [.lit a0,.lit a1])->ev1 s y=.pv (.agg [.lit b0,.lit b1])->(∀ n w,(Op.equalIn (n+1) it a0 b0).run prog w=.ok r0 w)->(∀ n w,(Op.equalIn (n+1) it a1 b1).run prog w=.ok r1 w)->eqO op (r0&&r1)=some (val,m,rd)->Body prog tab nb s ⟨dst,.binOp op t x y u,ty,pos,af,gd⟩ val m rd:=by
    intro a0 a1 b0 b1 r0 r1 x y u op t ht he hx hy h0 h1 ho
    obtain⟨e1,e2,e3⟩:=eqE_ok he
    unfold eqO at ho
    split at ho
    ·cases ho;exact B.eqA2 (r0:=r0) (r1:=r1) e1 (arr2_ok ht) e2 e3 h0 h1 hx hy .eql (.inl Z)
    ·cases ho;exact B.eqA2 (r0:=r0) (r1:=r1) e1 (arr2_ok ht) e2 e3 h0 h1 hx hy .neq (.inr Z)
    cases ho
   split at h
   ·rename_i hx hy
    split at h
    ·rename_i hi
     cases hb:eqE _ it with
     | false=>rw[hb] at h;cases h
     | true=>rw[hb] at h;exact fin ht hb hx hy (fun n w=>eqI_run hi _ _ n w) (fun n w=>eqI_run hi _ _ n w) h
    cases h
   ·rename_i hx hy
    split at h
    ·rename_i hi
     cases hb:eqE _ it with
     | false=>rw[hb] at h;cases h
     | true=>rw[hb] at h;exact fin ht hb hx hy (fun n w=>eqS_run hi _ _ n w) (fun n w=>eqS_run hi _ _ n w) h
    cases h
   cases h
  cases h
 ·split at h
  ·rename_i hx
   split at h
   ·rename_i hm
    split at h
    ·rename_i hd
     split at h
     ·rename_i ha hs
      cases h
      exact B.loadM hx hm ha hs hd
     cases h
    cases h
   cases h
  cases h
 ·split at h
  ·rename_i hx
   split at h
   ·rename_i ht hm hy
    split at h
    ·rename_i hs
     rw[X7] at h
     split at h
     ·rename_i hb
      cases h
      simp only[zj,zf] at hb
      exact B.idxB ht hs hx hm hy hb.1 aa hb.2.2
     cases h
    cases h
   cases h
  cases h
 cases h
def frO (o:Oper):Bool:=match o.op with
 | .sliceToArrayPointer _ _=>true
 | .call ⟨.value (.func f),_,_⟩=>[9,21,11,12,34,35,40,42,43,46].any (Nat.beq f)
 | _=>false
end Go.Lens.Tb
end
section
namespace Go.Lens.Tb
open Go.Proofs Go.Lens.Un
variable [Lz] [Dn]
def decF:PV->Option Qn
 | .agg [.lit (.int .i64 a),.lit (.slice none 0 0),.lit (.int .i64 b),.lit (.slice none 0 0)]=>
  if h:((-9223372036854775808<=a/\a<=9223372036854775807)/\b<=9223372036854775807/\0<b)/\gcd a.natAbs b.natAbs=1 then
   some ⟨(a,false),(b,false),by unfold okI;rw[WJ ao];exact h.1.1,by unfold okI;rw[WJ ao];simp only;omega,h.1.2.2,h.2⟩ else none
 | _=>none
def decI:PV->Option {x:NI // okI x/\x.2=false}
 | .agg [.lit (.int .i64 a),.lit (.slice none 0 0)]=>if h: -9223372036854775808<=a/\a<=9223372036854775807 then some ⟨(a,false),by unfold okI;rw[WJ ao];exact h,rfl⟩ else none
 | _=>none
def smQ (x:Qn):Option DV:=match x with
 | ⟨(a,false),(b,false),_,_,_,_⟩=>some (.pv (.agg [.lit (.int .i64 a),.lit (.slice none 0 0),.lit (.int .i64 b),.lit (.slice none 0 0)]))
 | _=>none
theorem smQ_ok {x:Qn} {v:DV} (h:smQ x=some v):qV x=v:=by
 unfold smQ at h
 split at h
 ·cases h;rfl
 cases h
theorem sz_sm {x:Qn} (h1:x.n.1.natAbs<=9223372036854775808) (h2:x.d.1.natAbs<=9223372036854775808):sz x.q<=64:=by
 unfold sz
 have a1:q9 x.q.num.natAbs<=64:=jj (XI h1 ah)
 have a2:q9 x.q.den<=64:=jj (XI (show x.d.1.natAbs<=_ from h2) ah)
 omega
theorem decF_ok {p:PV} {x:Qn} (h:decF p=some x):p=qP x/\sz x.q<=64:=by
 unfold decF at h
 split at h
 ·split at h
  ·rename_i hh
   cases h
   exact⟨rfl,sz_sm (by simp only;omega) (by simp only;omega)⟩
  cases h
 cases h
theorem digS {a:Int} (h: -9223372036854775808<=a/\a<=9223372036854775807):(dig B64 a.natAbs).length<=400000:=by
 have:=je (k:=1) qM (n:=a.natAbs) bq
 omega
theorem decI_ok {p:PV} {x:{x:NI // okI x/\x.2=false}} (h:decI p=some x):p=nP x.1/\(dig B64 x.1.1.natAbs).length<=400000:=by
 unfold decI at h
 split at h
 ·split at h
  ·rename_i hh
   cases h
   exact⟨rfl,digS hh⟩
  cases h
 cases h
def oQ (g:Qn->Option DV):List DV->Option DV
 | [.pv x]=>match decF x with
  | some a=>g a
  | none=>none
 | _=>none
def oQ2 (g:Qn->Qn->Option DV):List DV->Option DV
 | [.pv x,.pv y]=>match decF x,decF y with
  | some a,some b=>g a b
  | _,_=>none
 | _=>none
def oS (g:Nb->Option DV):List DV->Option DV
 | [.pv (.lit (.string b))]=>g b.data.toList
 | _=>none
def oZ (g:Int->Option DV):List DV->Option DV
 | [.pv (.lit (.int .i64 z))]=>g z
 | _=>none
section
variable {f:FuncId} {ds:List DV} {v:DV} {O:List DV->Option DV}
theorem oQ_ok {g:Qn->Option DV} (h:oQ g ds=some v) (k:∀ a,sz a.q<=64->g a=some v->qA prog f [qV a] (qr []) v []):qA prog f ds (qr []) v []:=by
 unfold oQ at h
 split at h
 ·split at h
  ·rename_i hx
   obtain⟨rfl,hs⟩:=decF_ok hx
   exact k _ hs h
  cases h
 cases h
theorem oQ2_ok {g:Qn->Qn->Option DV} (h:oQ2 g ds=some v) (k:∀ a b,sz a.q+sz b.q<=20000000->g a b=some v->qA prog f [qV a,qV b] (qr []) v []):qA prog f ds (qr []) v []:=by
 unfold oQ2 at h
 split at h
 ·split at h
  ·rename_i hx hy
   obtain⟨rfl,hs⟩:=decF_ok hx
   obtain⟨rfl,hs2⟩:=decF_ok hy
   exact k _ _ aa h
  cases h
 cases h
theorem oS_ok {g:Nb->Option DV} (h:oS g ds=some v) (k:∀ s,g s=some v->qA prog f [vS (bsO s)] (qr []) v []):qA prog f ds (qr []) v []:=by
 unfold oS at h
 split at h
 ·exact k _ h
 cases h
theorem oZ_ok {g:Int->Option DV} (h:oZ g ds=some v) (k:∀ z,g z=some v->qA prog f [vI z] (qr []) v []):qA prog f ds (qr []) v []:=by
 unfold oZ at h
 split at h
 ·exact k _ h
 cases h
end
def numT:List (Nat×(List DV->Option DV)):=[
 (71,oQ2 fun a b=>smQ (a.add b)),(72,oQ2 fun a b=>smQ (a.mul b)),(163,oQ2 fun a b=>smQ (a.sub b)),(74,oQ2 fun a b=>if h:b.q≠0 then smQ (a.div b h) else none),(157,oQ2 fun a b=>some (vI (cmpQ2 a.q b.q))),
 (57,oQ fun a=>smQ a.neg),(96,oQ fun a=>some (vI (j8 a.q.num))),(117,oQ fun a=>some (vS (bsO (txt a.q)))),(116,oQ fun a=>some (vB (jk a.q))),
 (115,oZ fun z=>some (nV (ofI z))),(69,oZ fun z=>if h: -9223372036854775808<=z/\z<9223372036854775808 then smQ (Qn.ofZ z h) else none),
 (49,oS fun s=>bif Nat.ble s.length 1000 then some (vI (jr s)) else none),(53,oS fun s=>if jr s=0 then smQ (qU s) else none),
 (132,fun ds=>match ds with
  | [.pv x,.pv y]=>match decI x,decI y with
   | some a,some b=>if h:b.1.1≠0 then smQ (Qn.make a.1 b.1 a.2.1 b.2.1 h) else none
   | _,_=>none
  | _=>none)]
def assT {α:Type}:List (Nat×α)->Nat->Option α
 | [],_=>none
 | (k,a)::l,n=>bif Nat.beq k n then some a else assT l n
def pureO (T:List (Nat×(List DV->Option DV))):Orc:=fun f _ ds l=>match l with
 | []=>match assT T f with
  | some g=>match g ds with
   | some v=>some (v,[])
   | none=>none
  | none=>none
 | _=>none
theorem assT_mem {α:Type}:∀ {l:List (Nat×α)} {n:Nat} {a:α},assT l n=some a->(n,a)∈l
 | [],_,_,h=>by cases h
 | (k,b)::l,n,a,h=>by
  unfold assT at h
  cases hb:Nat.beq k n with
  | true=>
   rw[hb] at h
   cases h
   rw[zD hb];exact qh
  | false=>rw[hb] at h;exact zN _ (assT_mem h)
theorem pureO_ok {T:List (Nat×(List DV->Option DV))} (H:∀ p∈T,∀ ds v,p.2 ds=some v->qA prog p.1 ds (qr []) v []):kX prog (pureO T):=by
 intro f lo ds l val ms h
 unfold pureO at h
 split at h
 ·split at h
  ·rename_i hg
   split at h
   ·rename_i hv
    cases h
    exact H _ (assT_mem hg) _ _ hv
   cases h
  cases h
 cases h
theorem num_ok (hp:qJ):kX prog (pureO numT):=pureO_ok fun p hm ds v h=>by
 simp only[numT,zF,qi,WE] at hm
 rcases hm with rfl|rfl|rfl|rfl|rfl|rfl|rfl|rfl|rfl|rfl|rfl|rfl|rfl|rfl<;>simp only at h ⊢
 ·exact oQ2_ok h fun a b hs hv=>by rw[<-smQ_ok hv];exact w125 a b hs
 ·exact oQ2_ok h fun a b hs hv=>by rw[<-smQ_ok hv];exact w126 a b hs
 ·exact oQ2_ok h fun a b hs hv=>by rw[<-smQ_ok hv];exact w210 a b hs
 ·refine oQ2_ok h fun a b hs hv=>?_
  split at hv
  ·rename_i h0;rw[<-smQ_ok hv];exact w128 a b hs h0
  cases hv
 ·exact oQ2_ok h fun a b hs hv=>by cases hv;exact w166 a b hs
 ·exact oQ_ok h fun a hs hv=>by rw[<-smQ_ok hv];exact w118 a aa
 ·exact oQ_ok h fun a hs hv=>by cases hv;exact w145 a aa
 ·exact oQ_ok h fun a hs hv=>by cases hv;exact w162 hp a aa
 ·exact oQ_ok h fun a hs hv=>by cases hv;exact w181 hp a aa
 ·exact oZ_ok h fun z hv=>by cases hv;exact w177 z
 ·refine oZ_ok h fun z hv=>?_
  split at hv
  ·rename_i h0;rw[<-smQ_ok hv];exact w100 z h0
  cases hv
 ·refine oS_ok h fun s hv=>?_
  cases hb:Nat.ble s.length 1000 with
  | false=>rw[hb] at hv;cases hv
  | true=>rw[hb] at hv;cases hv;exact w112 s (by have:=zW hb;omega)
 ·refine oS_ok h fun s hv=>?_
  split at hv
  ·rename_i h0;rw[<-smQ_ok hv];exact w116 s h0
  cases hv
 split at h
 ·split at h
  ·rename_i hx hy
   obtain⟨rfl,g1⟩:=decI_ok hx
   obtain⟨rfl,g2⟩:=decI_ok hy
   split at h
   ·rename_i h0;rw[<-smQ_ok h];exact w179 _ _ _ _ g1 g2 h0
   cases h
  cases h
 cases h
end Go.Lens.Tb
end
section
namespace Go.Lens.Tb
open Go.Proofs Go.Lens.Un
variable [Lz] [Dn]
class Kr:Prop where
 k:Lz.kr=fun P kv=>∃ m,KP P m/\kv=kvO eP m
variable [Kr]
theorem kd_iff {P:PL} {G:Gh} {w:World} {h:Nat}:qW G w h (.kdat P)↔qW G w h (kR P):=by
 simp only[qW]
 rw[Kr.k]
theorem wkD {P:PL} {k:Nat} {l l':Na} (hl:WkL l l'):WkL ((k,kR P)::l) ((k,.kdat P)::l'):=⟨⟨rfl,rfl,fun _ _ H=>kd_iff.2 H⟩,hl⟩
theorem kd_in {f:FuncId} {ds:List DV} {a:Nat} {P:PL} {val:DV} {out:Na} (H:qA prog f ds (qr [(a,kR P)]) val out):qA prog f ds (qr [(a,.kdat P)]) val out:=by
 have hr:∀ k∈DV.qL ds,∃ o,qr [(a,MO.kdat P)] k=some o:=fun k hk=>by
  obtain⟨o,ho⟩:=H.refs k hk
  rw[qy] at ho ⊢
  split at ho
  ·rename_i e;exact⟨_,WK e⟩
  cases ho
 refine qA.fam (ι:=Unit) (h:=a) (o:=.kdat P) (o':=fun _=>kR P) (p:=fun _=>True) (by rw[qy,WK rfl]) (fun _=>rfl) hr (fun G w h=>⟨(),trivial,kd_iff.1 h⟩) fun _ _=>?_
 refine H.lk fun h=>?_
 rw[qy,qy,qy]
 split<;>rfl
def decT:List PV->Option Trm
 | [.lit (.string b),.lit (.int .i64 i),.lit (.int .i64 j)]=>some ⟨b.data.toList,i,j⟩
 | _=>none
def decP:List (List PV)->Option (List Trm)
 | []=>some []
 | x::l=>match decT x,decP l with
  | some t,some r=>some (t::r)
  | _,_=>none
theorem decT_ok {p:List PV} {t:Trm} (h:decT p=some t):p=eY t:=by
 unfold decT at h
 split at h
 ·cases h;rfl
 cases h
theorem decP_ok:∀ {l:List (List PV)} {f:List Trm},decP l=some f->l=f.map eY
 | [],f,h=>by cases h;rfl
 | x::l,f,h=>by
  simp only[decP] at h
  split at h
  ·rename_i t r ht hr
   cases h
   rw[decT_ok ht,decP_ok hr];rfl
  cases h
def kB (P:PL):Bool:=P.all fun p=>decide (0<=p.1.1/\0<=p.1.2/\p.1.1+p.1.2<=32)
def okB (P:PL):Bool:=kB P&&(decide (P.length<=100000)&&decide (szP P<=9000000))
theorem okB_ok {P:PL} (h:okB P=true):OkP P:=by
 simp only[okB,kB,zj,zr,zf] at h
 refine⟨fun k hk=>?_,h.2.1,h.2.2⟩
 obtain⟨p,hp,rfl⟩:=zE.1 hk
 exact h.1 p hp
def goodF (f:List Trm):Bool:=decide (f.length<=1000)&&(f.all (fun t=>Nat.ble t.c.length 1000)&&(decide (qZ f=0)&&okB (plF f)))
structure GoodF (f:List Trm):Prop where
 l:f.length<=1000000
 s:∀ t∈f,t.c.length<=1000000000
 c:qZ f=0
 o:OkP (plF f)
theorem goodF_ok {f:List Trm} (h:goodF f=true):GoodF f:=by
 simp only[goodF,zj,zr,zf] at h
 exact⟨aa,fun t ht=>by have:=zW (h.2.1 t ht);omega,h.2.2.1,okB_ok h.2.2.2⟩
def qnS (q:Rat):Option DV:=bif decide (-9223372036854775807<=q.num/\q.num<=9223372036854775807)&&decide (q.den<=9223372036854775807) then some (.pv (.agg [.lit (.int .i64 q.num),.lit (.slice none 0 0),.lit (.int .i64 (q.den:Int)),.lit (.slice none 0 0)])) else none
theorem small_n {x:NI} (hx:okI x) (h:x.1.natAbs<=9223372036854775807):nH x=x.1/\nW x=nilP:=by
 obtain⟨z,b⟩:=x
 cases b with
 | false=>exact⟨rfl,rfl⟩
 | true=>
  unfold okI at hx
  rw[WK rfl] at hx
  unfold I63 at hx
  simp only at hx h
  omega
theorem qnS_ok {x:Qn} {v:DV} (h:qnS x.q=some v):qV x=v:=by
 unfold qnS at h
 cases hb:(decide (-9223372036854775807<=x.q.num/\x.q.num<=9223372036854775807)&&decide (x.q.den<=9223372036854775807)) with
 | false=>rw[hb] at h;cases h
 | true=>
  rw[hb] at h
  cases h
  simp only[zj,zf] at hb
  have e1:x.q.num=x.n.1:=rfl
  have e2:=x.q_den
  have hp:=x.pos
  obtain⟨a1,a2⟩:=small_n x.hn aa
  obtain⟨b1,b2⟩:=small_n x.hd aa
  simp only[qV,qP,eF,a1,a2,b1,b2,e1,e2]
def mapO:Orc:=fun f lo ds l=>
 bif Nat.beq f 51 then (match ds,l with
  | [.pv (.slice es)],[]=>match decP es with
   | some F=>bif goodF F then some (.mref (lo+1),[(lo+1,.kdat (plF F))]) else none
   | none=>none
  | _,_=>none)
 else bif Nat.beq f 55 then (match ds,l with
  | [.mref a,.pv (.lit (.int .i64 x))],[(b,.kdat P)]=>bif (Nat.beq a b&&(decide (x=0)||decide (x=1)))&&(okB P&&decide ((P.length+2)*(szP P+20)<=9000000)) then some (.mref (a+lo+1),[(a,.kdat P),(a+lo+1,.kdat (jO x P))]) else none
  | _,_=>none)
 else bif Nat.beq f 52 then (match ds,l with
  | [.mref a,.pv (.agg [c1,c2,c3,c4,d1,d2,d3,d4])],[(b,.kdat P)]=>match decF (.agg [c1,c2,c3,c4]),decF (.agg [d1,d2,d3,d4]) with
   | some x,some y=>bif Nat.beq a b&&(okB P&&decide ((P.length+2)*(szP P+34*(sz x.q+sz y.q+128))<=9000000)) then (match qnS (evP P x.q y.q) with
    | some v=>some (v,[(a,.kdat P)])
    | none=>none) else none
   | _,_=>none
  | _,_=>none)
 else none
theorem mapO_ok:kX prog mapO:=by
 intro f lo ds l val ms h
 unfold mapO at h
 cases h1:Nat.beq f 51 with
 | true=>
  rw[h1] at h
  obtain rfl:=zD h1
  simp only[Wy] at h
  split at h
  ·split at h
   ·rename_i F hF
    cases hg:goodF F with
    | false=>rw[hg] at h;cases h
    | true=>
     rw[hg] at h
     cases h
     have g:=goodF_ok hg
     rw[decP_ok hF]
     exact (w114k F (lo+1) g.l g.c).wk (wkD trivial)
   cases h
  cases h
 | false=>
  rw[h1] at h
  simp only[Ww] at h
  cases h2:Nat.beq f 55 with
  | true=>
   rw[h2] at h
   obtain rfl:=zD h2
   simp only[Wy] at h
   split at h
   ·rename_i a x b P
    cases hg:((Nat.beq a b&&(decide (x=0)||decide (x=1)))&&(okB P&&decide ((P.length+2)*(szP P+20)<=9000000))) with
    | false=>rw[hg] at h;cases h
    | true=>
     rw[hg] at h
     cases h
     simp only[zj,Jr,zf] at hg
     obtain⟨⟨g1,g2⟩,g3,g4⟩:=hg
     obtain rfl:=zD g1
     exact kd_in ((w117k x P a (a+lo+1) aa g2 (okB_ok g3) g4).wk (wkD (wkD trivial)))
   cases h
  | false=>
   rw[h2] at h
   simp only[Ww] at h
   cases h3:Nat.beq f 52 with
   | false=>rw[h3] at h;cases h
   | true=>
    rw[h3] at h
    obtain rfl:=zD h3
    simp only[Wy] at h
    split at h
    ·rename_i a c1 c2 c3 c4 d1 d2 d3 d4 b P
     split at h
     ·rename_i x y hx hy
      cases hg:(Nat.beq a b&&(okB P&&decide ((P.length+2)*(szP P+34*(sz x.q+sz y.q+128))<=9000000))) with
      | false=>rw[hg] at h;cases h
      | true=>
       rw[hg] at h
       simp only[Wy] at h
       split at h
       ·rename_i v hv
        cases h
        simp only[zj,zf] at hg
        obtain⟨g1,g3,g4⟩:=hg
        obtain rfl:=zD g1
        have ex:=(decF_ok hx).1
        have ey:=(decF_ok hy).1
        simp only[qP,eF,PV.agg.injEq,Jz,WC] at ex ey
        obtain⟨rfl,rfl,rfl,rfl⟩:=ex
        obtain⟨rfl,rfl,rfl,rfl⟩:=ey
        refine kd_in (qA.k1 cU fun m hm=>?_)
        have hq:=valM_q (x:=x) (y:=y) hm (okB_ok g3)
        rw[<-hq] at hv
        rw[<-qnS_ok hv]
        exact (w115 m P x y a hm (okB_ok g3) g4).wk (wkK (fun kv e=>⟨m,hm,e⟩) wk0) |>.wk (wkD trivial)
       cases h
     cases h
    cases h
end Go.Lens.Tb
end
section
namespace Go.Lens.Tb
open Go.Proofs Go.Lens.Un
variable [Lz] [Dn] [Kr]
theorem Body.ofS {P:Program} {Y:Tab} {nb:Nat} {s:St} {o:Oper} {val:DV} {m:Na} {rd:List Nat} (h:jS P s o val m rd):Body P Y nb s o val m rd:=.inr h
theorem TK.ofT [Fc] {P:Program} {n nb:Nat} {Q:Exit->St->Prop} {c:Code} {s:St} (h:T P n nb c s Q):TK P n nb Q c [] s:=h
attribute [local irreducible] TK PK T RG EfR Body CG
def facL:List Int:=[1,1,2,6,24,120,720,5040,40320]
def jt:Prop:=∃ T fr,Lz.L 0=some (.cells (facL.map fun z=>Value.int .i64 z).toArray T fr)
theorem jS.wkO {P:Program} {s:St} {o:Oper} {val:DV} {m m':Na} {rd:List Nat} (H:jS P s o val m rd) (h:WkL m m'):jS P s o val m' rd:=
 fun σ G a w next Q h1 h2 I hn=>H σ G a w next Q h1 (fun k hk=>h2 k (by rw[<-h.keys];exact hk)) I fun r w' G' S=>hn r w' G' (S.wk h)
theorem kd_open {P:PL} {G:Gh} {w:World} {h:Nat} (H:qW G w h (.kdat P)):∃ m,KP P m/\qW G w h (kO eP m):=by
 have H:=kd_iff.1 H
 simp only[qW] at H ⊢
 obtain⟨h1,es,kv,⟨m,hm,rfl⟩,h3⟩:=H
 exact⟨m,hm,h1,es,_,rfl,h3⟩
theorem jS.kd {s:St} {o:Oper} {val:DV} {out:Na} {rd:List Nat} {h:Nat} {P:PL} (hl:qr s.ms h=some (.kdat P)) (hin:h∈rd) (H:∀ m,KP P m->jS prog ⟨s.tm,(h,kO eP m)::s.ms⟩ o val out rd):jS prog s o val out rd:=by
 intro σ G a w next Q h1 h2 I hn
 have hσ:qr σ.ms h=some (.kdat P):=(h2 h (.inl hin)).trans hl
 obtain⟨m,hm,hR⟩:=kd_open (I.ms h _ hσ)
 have S:=q8 (m:=kO eP m) (val:=.dead) (r:=undef) I.ctxS (B:=G.ρ h) hσ aU (w':=w) Z Z Z Z (fun _ _=>rfl) aB (by rw[Gh.qT];exact hR) ak am
 rw[Gh.qT] at S
 obtain⟨I1,_⟩:=I.eff (s:=σ) (K:=0) S none ao
 have e:∀ k,qr ((h,kO eP m)::σ.ms) k=if h=k then some (kO eP m) else qr σ.ms k:=fun k=>qy ..
 have e2:∀ k,(∃ o,qr ((h,kO eP m)::σ.ms) k=some o)->∃ o,qr σ.ms k=some o:=fun k ⟨o,ho⟩=>by
  rw[e] at ho
  split at ho
  ·rename_i hk;subst hk;exact⟨_,hσ⟩
  exact⟨_,ho⟩
 refine H m hm ⟨σ.tm,(h,kO eP m)::σ.ms⟩ G a w next Q h1 (fun k hk=>?_) I1 fun r w' G' S=>hn r w' G' ⟨S.later,S.hval,S.hms,fun k o' hk=>?_,S.old,S.fresh,S.own,fun k hk=>(S.refs k hk).imp id (e2 k),fun k o hk j hj=>(S.refsM k o hk j hj).imp id (e2 j),S.newb,S.r0,S.r0m⟩
 ·show qr ((h,kO eP m)::σ.ms) k=qr ((h,kO eP m)::s.ms) k
  rw[qy,qy,h2 k hk]
 by_cases hh:h=k
 ·exact S.keeps k (kO eP m) (by rw[e,WK hh])
 exact S.keeps k o' (by rw[e,WJ hh];exact hk)
theorem kd_add {P:PL} {m:List (KI×Qn)} {k:KI} {v:Qn} (hm:KP P m) (hk:k∉P.map (·.1)):KP (P++[(k,v.q)]) (Qc k v m):=by
 have h:=hm.add k v
 have:kN k m=none:=by
  cases hg:kN k m with
  | none=>rfl
  | some x=>exact absurd (hm.mem k (zE.2 ⟨_,ZO hg,rfl⟩)) hk
 rwa [ad_n this] at h
def isOne:Option Nat->Bool
 | some 1=>true
 | _=>false
def isFa:Option Bool->Bool
 | some false=>true
 | _=>false
theorem isOne_ok:∀ {o:Option Nat},isOne o=true->o=some 1
 | some 1,_=>rfl
theorem isFa_ok:∀ {o:Option Bool},isFa o=true->o=some false
 | some false,_=>rfl
noncomputable def xMap:XOp:=fun nb s o=>match o with
 | ⟨some d,.makeMap t none,_,_,_,_⟩=>bif Nat.beq t 101&&!jH s.ms (nameOf nb s.ms (some d)) then some (.mref (nameOf nb s.ms (some d)),[(nameOf nb s.ms (some d),.kdat [])],[]) else none
 | ⟨none,.insert t x y z,_,_,_,_⟩=>bif Nat.beq t 101 then (match ev1 s x,ev1 s y,ev1 s z with
   | .mref h,.pv (.agg [.lit (.int .i64 i),.lit (.int .i64 j)]),.pv v=>match qr s.ms h,decF v with
     | some (.kdat P),some q=>bif P.all (fun p=>!(decide (p.1=(i,j)))) then some (.dead,[(h,.kdat (P++[((i,j),q.q)]))],[h]) else none
     | _,_=>none
   | _,_,_=>none) else none
 | ⟨_,.indexAddr t (.global 0) y,_,_,_,_⟩=>match tab.underlying t,ev1 s y with
   | some (.array len e),.pv (.lit (.int .i64 m))=>bif isOne (szT tab e)&&(decide (1<len)&&(decide (0<=m)&&decide (m.toNat<len))) then some (.pv (.lit (.pointer (some ⟨0,m.toNat,none⟩))),[],[]) else none
   | _,_=>none
 | ⟨dst,.load t x,ty,pos,af,gd⟩=>match ev1 s x with
   | .pv (.lit (.pointer (some ⟨0,n,none⟩)))=>bif isFa (aggT tab t)&&Nat.blt n 9 then some (.pv (.lit (.int .i64 (facL.getD n 0))),[],[]) else none
   | _=>xArr nb s ⟨dst,.load t x,ty,pos,af,gd⟩
 | o=>xArr nb s o
theorem xMap_ok (hf:jt):XOpOk prog tab xMap:=by
 intro nb s o val m rd h
 unfold xMap at h
 split at h
 ·rename_i d t _ _ _ _
  cases hb:(Nat.beq t 101&&!jH s.ms (nameOf nb s.ms (some d))) with
  | false=>rw[hb] at h;cases h
  | true=>
   rw[hb] at h
   cases h
   simp only[zj,XP] at hb
   obtain rfl:=zD hb.1
   exact Body.ofS (jS.wkO (B.newS (enc:=eP) hb.2) ⟨⟨rfl,rfl,fun G w H=>kd_iff.2 (by
    simp only[qW] at H ⊢
    obtain⟨h1,es,kv,h2,h3⟩:=H
    exact⟨h1,es,kv,⟨[],KP.nil,h2⟩,h3⟩)⟩,trivial⟩)
 ·rename_i t x y z _ _ _ _
  cases hb:Nat.beq t 101 with
  | false=>rw[hb] at h;cases h
  | true=>
   rw[hb] at h
   obtain rfl:=zD hb
   simp only[Wy] at h
   split at h
   ·rename_i hh i j v hx hy hz
    split at h
    ·rename_i P q hm hq
     cases ha:P.all (fun p=>!(decide (p.1=(i,j)))) with
     | false=>rw[ha] at h;cases h
     | true=>
      rw[ha] at h
      cases h
      have hk:(i,j)∉P.map (·.1):=fun hk=>by
       obtain⟨p,hp,e⟩:=zE.1 hk
       have:=zr.1 ha p hp
       simp only[XP,zG] at this
       exact this e
      rw[(decF_ok hq).1] at hz
      refine Body.ofS (jS.kd hm ao fun m hm'=>jS.wkO (B.setS (s:=⟨s.tm,(hh,kO eP m)::s.ms⟩) (o:=.insert 101 x y z) (enc:=eP) (l:=m) (k:=(i,j)) (v:=q) rfl (fun _=>rfl) kty hx hy hz (by rw[qy,WK rfl])) ⟨⟨rfl,rfl,fun G w H=>kd_iff.2 ?_⟩,trivial⟩)
      simp only[qW] at H ⊢
      obtain⟨h1,es,kv,h2,h3⟩:=H
      exact⟨h1,es,kv,⟨_,kd_add hm' hk,h2⟩,h3⟩
    cases h
   cases h
 ·split at h
  ·rename_i y _ _ _ _ len e m ht hy
   rw[X7] at h
   split at h
   ·rename_i hb
    cases h
    simp only[zj,zf] at hb
    obtain⟨h1,h2,h3,h4⟩:=hb
    exact B.idxG ht (isOne_ok h1) hy h2 aa h4
   cases h
  cases h
 ·split at h
  ·rename_i n hx
   rw[X7] at h
   split at h
   ·rename_i hb
    cases h
    simp only[zj,Ws] at hb
    obtain⟨T,fr,hL⟩:=hf
    exact B.loadG hx hL (isFa_ok hb.1) hb.2
   cases h
  exact xArr_ok _ _ _ _ _ _ h
 exact xArr_ok _ _ _ _ _ _ h
theorem kd_in2 {f:FuncId} {ds:List DV} {a b:Nat} {P R:PL} {val:DV} {out l:Na} (hab:a≠b) (H:qA prog f ds (qr [(a,kR P),(b,kR R)]) val out) (hl:l=[(a,.kdat P),(b,.kdat R)]\/l=[(b,.kdat R),(a,.kdat P)]):qA prog f ds (qr l) val out:=by
 have e:∀ k,qr l k=if a=k then some (.kdat P) else if b=k then some (.kdat R) else none:=fun k=>by
  rcases hl with rfl|rfl
  ·simp only[qy];rfl
  simp only[qy]
  by_cases h1:a=k
  ·subst h1;rw[WJ (WG hab),WK rfl,WK rfl]
  rw[WJ h1,WJ h1];rfl
 have hr:∀ k∈DV.qL ds,∃ o,qr l k=some o:=fun k hk=>by
  obtain⟨o,ho⟩:=H.refs k hk
  rw[qy,qy] at ho
  rw[e]
  split at ho
  ·rename_i h1;exact⟨_,WK h1⟩
  rename_i h1
  rw[WJ h1]
  split at ho
  ·rename_i h2;exact⟨_,WK h2⟩
  cases ho
 refine qA.fam (ι:=Unit) (h:=a) (o:=.kdat P) (o':=fun _=>kR P) (p:=fun _=>True) (by rw[e,WK rfl]) (fun _=>rfl) hr (fun G w h=>⟨(),trivial,kd_iff.1 h⟩) fun _ _=>?_
 refine qA.fam (ι:=Unit) (h:=b) (o:=.kdat R) (o':=fun _=>kR R) (p:=fun _=>True) (by rw[qy,WJ hab,e,WJ hab,WK rfl]) (fun _=>rfl) (fun k hk=>by
  obtain⟨o,ho⟩:=hr k hk
  rw[qy]
  split
  ·exact⟨_,rfl⟩
  exact⟨o,ho⟩) (fun G w h=>⟨(),trivial,kd_iff.1 h⟩) fun _ _=>?_
 refine H.lk fun k=>?_
 simp only[qy,e]
 by_cases h1:a=k
 ·subst h1;rw[WK rfl,WJ (WG hab),WK rfl]
 by_cases h2:b=k
 ·rw[WJ h1,WK h2,WK h2]
 rw[WJ h1,WJ h2,WJ h2,WJ h1,WJ h1,WJ h2];rfl
theorem kB_ok {P:PL} (h:kB P=true):KB P:=fun k hk=>by
 obtain⟨p,hp,rfl⟩:=zE.1 hk
 have:=zr.1 h p hp
 simp only[zf] at this
 omega
def two (a b:Nat) (l:Na):Option (PL×PL):=match l with
 | [(c,.kdat P),(d,.kdat R)]=>bif Nat.beq a b then none else bif Nat.beq a c&&Nat.beq b d then some (P,R) else bif Nat.beq a d&&Nat.beq b c then some (R,P) else none
 | _=>none
theorem two_ok {a b:Nat} {l:Na} {P R:PL} (h:two a b l=some (P,R)):a≠b/\(l=[(a,.kdat P),(b,.kdat R)]\/l=[(b,.kdat R),(a,.kdat P)]):=by
 unfold two at h
 split at h
 ·rename_i c P' d R'
  cases h0:Nat.beq a b with
  | true=>rw[h0] at h;cases h
  | false=>
   rw[h0] at h
   have hab:a≠b:=fun e=>by rw[e,KE] at h0;cases h0
   simp only[Ww] at h
   cases h1:(Nat.beq a c&&Nat.beq b d) with
   | true=>
    rw[h1] at h
    cases h
    simp only[zj] at h1
    obtain rfl:=zD h1.1
    obtain rfl:=zD h1.2
    exact⟨hab,.inl rfl⟩
   | false=>
    rw[h1] at h
    simp only[Ww] at h
    cases h2:(Nat.beq a d&&Nat.beq b c) with
    | true=>
     rw[h2] at h
     cases h
     simp only[zj] at h2
     obtain rfl:=zD h2.1
     obtain rfl:=zD h2.2
     exact⟨hab,.inr rfl⟩
    | false=>rw[h2] at h;cases h
 cases h
def mapO2:Orc:=fun f lo ds l=>
 bif Nat.beq f 70 then (match ds with
  | [.mref a,.mref b]=>match two a b l with
   | some (P,R)=>bif (kB P&&kB R)&&decide ((P.length*R.length+2)*(szP P+szP R+2)<=10000000) then some (.mref (a+b+lo+1),[(b,.kdat R),(a,.kdat P),(a+b+lo+1,.kdat (qS P R))]) else none
   | none=>none
  | _=>none)
 else bif Nat.beq f 76 then (match ds with
  | [.mref a,.mref b,.pv v]=>match two a b l,decF v with
   | some (P,R),some q=>bif decide (szP P+(R.length+1)*(szP R+sz q.q+2)<=10000000) then some (.mref (a+b+lo+1),[(b,.kdat R),(a,.kdat P),(a+b+lo+1,.kdat (P++scl q.q R))]) else none
   | _,_=>none
  | _=>none)
 else bif Nat.beq f 56 then (match ds,l with
  | [.mref a],[(b,.kdat P)]=>bif Nat.beq a b&&okB P then some (.tup [vL eY (polT P),vI (polE P)],[(a,.kdat P)]) else none
  | _,_=>none)
 else none
theorem mapO2_ok (hp:qJ):kX prog mapO2:=by
 intro f lo ds l val ms h
 unfold mapO2 at h
 cases h1:Nat.beq f 70 with
 | true=>
  rw[h1] at h
  obtain rfl:=zD h1
  simp only[Wy] at h
  split at h
  ·rename_i a b
   split at h
   ·rename_i P R ht
    rw[X7] at h
    split at h
    ·rename_i hg
     cases h
     simp only[zj,zf] at hg
     obtain⟨hab,hl⟩:=two_ok ht
     exact kd_in2 hab ((w101k P R a b (a+b+lo+1) hab aa aa (kB_ok hg.1.1) (kB_ok hg.1.2) hg.2).wk (wkD (wkD (wkD trivial)))) hl
    cases h
   cases h
  cases h
 | false=>
  rw[h1] at h
  simp only[Ww] at h
  cases h2:Nat.beq f 76 with
  | true=>
   rw[h2] at h
   obtain rfl:=zD h2
   simp only[Wy] at h
   split at h
   ·rename_i a b v
    split at h
    ·rename_i P R q ht hq
     rw[X7] at h
     split at h
     ·rename_i hg
      cases h
      rw[(decF_ok hq).1]
      obtain⟨hab,hl⟩:=two_ok ht
      exact kd_in2 hab ((w102k P R q a b (a+b+lo+1) hab aa aa (X6 hg)).wk (wkD (wkD (wkD trivial)))) hl
     cases h
    cases h
   cases h
  | false=>
   rw[h2] at h
   simp only[Ww] at h
   cases h3:Nat.beq f 56 with
   | false=>rw[h3] at h;cases h
   | true=>
    rw[h3] at h
    obtain rfl:=zD h3
    simp only[Wy] at h
    split at h
    ·rename_i a b P
     rw[X7] at h
     split at h
     ·rename_i hg
      cases h
      simp only[zj] at hg
      obtain rfl:=zD hg.1
      exact kd_in ((w104k hp P a (okB_ok hg.2)).wk (wkD trivial))
     cases h
    cases h
def sqP:PL:=[((2,0),1),((0,2),1)]
section
variable {n k:Int}
theorem kp_sq {h1 h2:R64 1}:KP sqP (Qc (0,2) (Qn.ofZ 1 h1) (Qc (2,0) (Qn.ofZ 1 h2) [])):=by
 have:=(KP.nil.add (2,0) (Qn.ofZ 1 h2)).add (0,2) (Qn.ofZ 1 h1)
 simpa [Qn.ofZ_q,sqP,addK,Qc,kN] using this
theorem kp_sq2 {h1 h2:R64 1}:KP sqP (Qc (2,0) (Qn.ofZ 1 h1) (Qc (0,2) (Qn.ofZ 1 h2) [])):=by
 have:=(KP.nil.add (0,2) (Qn.ofZ 1 h2)).add (2,0) (Qn.ofZ 1 h1)
 have h:KP [((0,2),1),((2,0),1)] (Qc (2,0) (Qn.ofZ 1 h1) (Qc (0,2) (Qn.ofZ 1 h2) [])):=by simpa [Qn.ofZ_q,addK,Qc,kN] using this
 refine h.congr (Eqv.perm (List.Perm.swap _ _ _)) fun k hk=>?_
 simp[sqP] at hk ⊢
 exact hk.symm
theorem fk_9 {listed:Array Bool} (hs:listed.size=9) (h0:listed.getD 0 false=true) (h2:listed.getD 2 false=true) (h3:listed.getD 3 false=false) (h4:listed.getD 4 false=true) (h5:listed.getD 5 false=true) (h6:listed.getD 6 true=false)
  (h7:listed.getD 7 false=true->listed.getD 3 false=true) (h8:listed.getD 8 false=true->listed.getD 7 false=true):∃ b,listed= #[true,b,true,false,true,true,false,false,false]:=by
 obtain⟨l⟩:=listed
 match l,hs with
 | [a0,a1,a2,a3,a4,a5,a6,a7,a8],_=>
  simp at h0 h2 h3 h4 h5 h6 h7 h8
  grind
abbrev es103:List Ef:=[⟨some 10,.mref 20,[(20,kO eP ([]:List (KI×Qn)))],[]⟩,⟨some 11,.pv (.agg [pI 2,pI 0]),[],[]⟩,⟨some 12,.pv (eP (Qn.ofZ 1 bg)),[],[]⟩,⟨none,.dead,[(20,kO eP (Qc (2,0) (Qn.ofZ 1 bg) []))],[20]⟩,
 ⟨some 13,.pv (.agg [pI 0,pI 2]),[],[]⟩,⟨some 14,.pv (eP (Qn.ofZ 1 bg)),[],[]⟩,⟨none,.dead,[(20,kO eP (Qc (0,2) (Qn.ofZ 1 bg) (Qc (2,0) (Qn.ofZ 1 bg) [])))],[20]⟩,⟨some 15,.mref 20,[],[]⟩,⟨some 5,.mref 20,[],[]⟩]
end
noncomputable def spR:Orc:=orO (pureO numT) mapO2
noncomputable def radC:Code:=match fn90.body with
 | some (.seq _ (.seq _ c))=>c
 | _=>.skip
noncomputable def radY (n k:Int):Option (DV×Na):=match yCode tab (yBoth spR ft xMap frO tab 20).1 (yBoth spR ft xMap frO tab 20).2 xMap frO 10 fn90.n (fun f=>(ft.get f).isSome) true fn90.kp radC ⟨[(0,vI n),(1,vI k),(5,.mref 20)],[(20,.kdat sqP)]⟩ with
 | some (.normal,s)=>kY tab fn90 10 [] s
 | some (.ret,s)=>kY tab fn90 10 [] s
 | _=>none
theorem w103y (hp:qJ) (hf:jt) {n k:Int} {val:DV} {out:Na} (h:radY n k=some (val,out)):qA prog 90 [vI n,vI k] (qr []) val out:=by
 obtain⟨b1,b2⟩:=yBoth_ok (FT:=ft) (X:=xMap) (fr:=frO) mixed (xMap_ok hf) (orO_ok (num_ok hp) (mapO2_ok hp)) ft_ok 20
 refine cL 10 [] qf90 Z (nB Z) Z Z (kc ?_)
 refine tk 1 Z ?_
 refine TK.fork mixed 3 6 (es:=es103) (s0:=⟨[(0,vI n),(1,vI k),(5,.mref 20)],[(20,kR sqP)]⟩) ah ae ⟨_,_,rfl,EfR.on Z (B.newK (enc:=eP) Z Z),_,_,rfl,EfR.on Z (B.run (val:=.pv (.agg [pI 2,pI 0])) (m:=[]) (rd:=[]) ae),_,_,rfl,EfR.on Z (B.call (w100 1 bg) Z Z Z),_,_,rfl,EfR.on Z (B.insK (enc:=eP) (l:=[]) (k:=(2,0)) (v:=(Qn.ofZ 1 bg)) kty Z Z Z Z),_,_,rfl,EfR.on Z (B.run (val:=.pv (.agg [pI 0,pI 2])) (m:=[]) (rd:=[]) ae),_,_,rfl,EfR.on Z (B.call (w100 1 bg) Z Z Z),_,_,rfl,EfR.on Z (B.insK (enc:=eP) (l:=[((2,0),(Qn.ofZ 1 bg))]) (k:=(0,2)) (v:=(Qn.ofZ 1 bg)) kty Z Z Z Z),_,_,rfl,EfR.on Z (B.run Z),_,_,rfl,EfR.on Z (B.run Z),rfl⟩ ae (Wk.trans (wk_shutK (h:=20) Z (fun kv e=>⟨_,kp_sq,e⟩)) (sb Z Z Z).wk) (fun listed hsz D hp hq=>?_) ?_
 · obtain⟨h6,ha⟩:=ready_after hq rfl
   have h5:listed.getD 5 false=true:=ha ⟨5,.data⟩ (.tail _ (.tail _ (.head _))) rfl
   obtain⟨b,rfl⟩:=fk_9 hsz (ha ⟨0,.data⟩ (.head _) rfl) (D 5 _ h5 rfl ⟨2,_⟩ (.head _) rfl) hp (ha ⟨4,.data⟩ (.tail _ (.head _)) rfl) h5 h6 (fun h=>D 7 _ h rfl ⟨3,.data⟩ (.tail _ (.tail _ (.tail _ (.head _)))) rfl) (fun h=>D 8 _ h rfl ⟨7,.data⟩ (.head _) rfl)
   cases b
   · exact⟨_,_,[1,3,7,8],_,rfl,rfl,rfl,EfR.on Z (B.insK (enc:=eP) (l:=[]) (k:=(0,2)) (v:=(Qn.ofZ 1 bg)) kty Z Z Z Z),⟨_,_,rfl,EfR.on Z (B.run (val:=.pv (.agg [pI 2,pI 0])) (m:=[]) (rd:=[]) ae),_,_,rfl,EfR.on Z (B.insK (enc:=eP) (l:=[((0,2),(Qn.ofZ 1 bg))]) (k:=(2,0)) (v:=(Qn.ofZ 1 bg)) kty Z Z Z Z),_,_,rfl,EfR.on Z (B.run Z),_,_,rfl,EfR.on Z (B.run Z),rfl⟩,rfl,rfl,ae,Wk.trans (wk_shutK (h:=20) Z (fun kv e=>⟨_,kp_sq2,e⟩)) (sb Z Z Z).wk⟩
   · exact⟨_,_,[3,7,8],_,rfl,rfl,rfl,EfR.on Z (B.insK (enc:=eP) (l:=[]) (k:=(0,2)) (v:=(Qn.ofZ 1 bg)) kty Z Z Z Z),⟨_,_,rfl,EfR.on Z (B.insK (enc:=eP) (l:=[((0,2),(Qn.ofZ 1 bg))]) (k:=(2,0)) (v:=(Qn.ofZ 1 bg)) kty Z Z Z Z),_,_,rfl,EfR.on Z (B.run Z),_,_,rfl,EfR.on Z (B.run Z),rfl⟩,rfl,rfl,ae,Wk.trans (wk_shutK (h:=20) Z (fun kv e=>⟨_,kp_sq2,e⟩)) (sb Z Z Z).wk⟩
 refine a1 ?_
 refine TK.moE (ι:=Unit) (h:=20) (o:=kR sqP) (p:=fun _=>True) (o':=fun _=>.kdat sqP) Z (fun G w H=>⟨(),trivial,kd_iff.2 H⟩) (fun _=>rfl) fun _ _=>?_
 refine TK.norm ⟨[(0,vI n),(1,vI k),(5,.mref 20)],[(20,.kdat sqP)]⟩ (sb Z Z Z) ?_
 have hen:∀ f,(ft.get f).isSome=true->∀ args w,(callFunc f args).run prog w=.ok (.enter f args) w:=fun f hf=>by
  obtain⟨F,hF'⟩:=QO.1 hf
  obtain⟨fn,_,_,_,_,_,h6⟩:=ft_ok _ (Tr.get_mem hF')
  exact h6
 have key:∀ e s,(e=.normal\/e=.ret)->yCode tab (yBoth spR ft xMap frO tab 20).1 (yBoth spR ft xMap frO tab 20).2 xMap frO 10 fn90.n (fun f=>(ft.get f).isSome) true fn90.kp radC ⟨[(0,vI n),(1,vI k),(5,.mref 20)],[(20,.kdat sqP)]⟩=some (e,s)->kY tab fn90 10 [] s=some (val,out)->T prog fn90.n 10 radC ⟨[(0,vI n),(1,vI k),(5,.mref 20)],[(20,.kdat sqP)]⟩ (PostL tab fn90 10 [] val out):=by
  intro e s he hy hc
  refine T.mono (yCode_ok mixed b1 b2 (xMap_ok hf) hen (fun _=>rfl) radC ae hy) ?_
  rintro e2 s2 ⟨rfl,rfl⟩
  exact ZG he hc Z rfl
 refine TK.ofT ?_
 unfold radY at h
 split at h
 ·rename_i s hy;exact key _ s (.inl Z) hy h
 ·rename_i s hy;exact key _ s (.inr Z) hy h
 cases h
noncomputable def radO:Orc:=fun f lo ds l=>bif Nat.beq f 90 then (match ds,l with
  | [.pv (.lit (.int .i64 n)),.pv (.lit (.int .i64 k))],[]=>match radY n k with
   | some (.mref z,[(y,.kdat P)])=>bif Nat.beq z y then some (.mref (lo+1),[(lo+1,.kdat P)]) else none
   | _=>none
  | _,_=>none) else none
theorem radO_ok (hp:qJ) (hf:jt):kX prog radO:=by
 intro f lo ds l val ms h
 unfold radO at h
 cases h1:Nat.beq f 90 with
 | false=>rw[h1] at h;cases h
 | true=>
  rw[h1] at h
  obtain rfl:=zD h1
  simp only[Wy] at h
  split at h
  ·split at h
   ·rename_i z y P hr
    rw[X7] at h
    split at h
    ·rename_i hb
     cases h
     obtain rfl:=zD hb
     simpa [renM,DV.renL,DV.ren,MO.ren,r1_1] using (w103y hp hf hr).r1 z (lo+1)
    cases h
   cases h
  cases h
end Go.Lens.Tb
end
section
namespace Go.Lens.Tb
open Go.Proofs Go.Lens.Un
variable [Lz] [Dn] [Kr]
def oP (g:List Trm->Option DV):List DV->Option DV
 | [.pv (.slice es)]=>match decP es with
  | some F=>bif goodF F then g F else none
  | none=>none
 | _=>none
theorem oP_ok {f:FuncId} {ds:List DV} {v:DV} {g:List Trm->Option DV} (h:oP g ds=some v) (k:∀ F,GoodF F->g F=some v->qA prog f [vL eY F] (qr []) v []):qA prog f ds (qr []) v []:=by
 unfold oP at h
 split at h
 ·split at h
  ·rename_i F hF
   cases hg:goodF F with
   | false=>rw[hg] at h;cases h
   | true=>
    rw[hg] at h
    rw[decP_ok hF]
    exact k F (goodF_ok hg) h
  cases h
 cases h
def polyT:List (Nat×(List DV->Option DV)):=[
 (25,oP fun F=>some (vI (qZ F))),
 (12,oP fun F=>bif decide (((plF F).length+2)*(szP (plF F)+20)<=9000000) then some (.tup [vL eY (erL (qZ F) (polT (turP (plF F)))),vI (erE (qZ F) (polE (turP (plF F))))]) else none),
 (21,fun ds=>match ds with
  | [.pv (.slice es),.pv (.slice fs)]=>match decP es,decP fs with
   | some F,some G=>bif (goodF F&&goodF G)&&(decide (((plF F).length*(plF G).length+2)*(szP (plF F)+szP (plF G)+2)<=5000000)&&decide ((plF F).length*(plF G).length<=3000)) then
     some (.tup [vS (bsO (erL (ji F G) (resT (lin dF (qS (plF F) (plF G)))))),vI (erE (ji F G) (resE (lin dF (qS (plF F) (plF G)))))]) else none
   | _,_=>none
  | _=>none),
 (11,fun ds=>match ds with
  | [.pv (.slice es),.pv (.lit (.string b))]=>match decP es with
   | some F=>bif goodF F&&decide (((plF F).length+2)*(szP (plF F)+20)<=9000000) then
     some (.tup [vL eY (erL (qK [qZ F,j5 (!(axB b.data.toList)) 13]) (polT (jO (axI b.data.toList) (plF F)))),vI (erE (qK [qZ F,j5 (!(axB b.data.toList)) 13]) (polE (jO (axI b.data.toList) (plF F))))]) else none
   | none=>none
  | _=>none),
 (9,fun ds=>match ds with
  | [.pv (.slice es),.pv (.agg [.lit (.string x),.lit (.string y)])]=>match decP es with
   | some F=>bif goodF F&&(Nat.ble x.data.toList.length 1000&&Nat.ble y.data.toList.length 1000&&decide (((plF F).length+2)*(szP (plF F)+34*(sz (qU x.data.toList).q+sz (qU y.data.toList).q+128))<=9000000)) then
     some (.tup [vS (bsO (erL (qK [qZ F,jr x.data.toList,jr y.data.toList]) (resT (evP (plF F) (Qn.q (qU x.data.toList)) (Qn.q (qU y.data.toList)))))),vI (erE (qK [qZ F,jr x.data.toList,jr y.data.toList]) (resE (evP (plF F) (Qn.q (qU x.data.toList)) (Qn.q (qU y.data.toList)))))]) else none
   | none=>none
  | _=>none)]
theorem poly_ok (hp:qJ):kX prog (pureO polyT):=pureO_ok fun p hm ds v h=>by
 simp only[polyT,zF,qi,WE] at hm
 rcases hm with rfl|rfl|rfl|rfl|rfl<;>simp only at h ⊢
 ·exact oP_ok h fun F g hv=>by cases hv;exact w81 F g.l g.s
 ·refine oP_ok h fun F g hv=>?_
  cases hb:decide (((plF F).length+2)*(szP (plF F)+20)<=9000000) with
  | false=>rw[hb] at hv;cases hv
  | true=>rw[hb] at hv;cases hv;exact w25 hp F g.l g.s fun _=>⟨g.o,by have:=X6 hb;exact this⟩
 ·split at h
  ·split at h
   ·rename_i F G hF hG
    cases hb:((goodF F&&goodF G)&&(decide (((plF F).length*(plF G).length+2)*(szP (plF F)+szP (plF G)+2)<=5000000)&&decide ((plF F).length*(plF G).length<=3000))) with
    | false=>rw[hb] at h;cases h
    | true=>
     rw[hb] at h
     cases h
     simp only[zj,zf] at hb
     have g1:=goodF_ok hb.1.1
     have g2:=goodF_ok hb.1.2
     rw[decP_ok hF,decP_ok hG]
     exact w33 hp F G g1.l g1.s g2.l g2.s fun _=>hb.2
   cases h
  cases h
 ·split at h
  ·split at h
   ·rename_i b _ F hF
    cases hb:(goodF F&&decide (((plF F).length+2)*(szP (plF F)+20)<=9000000)) with
    | false=>rw[hb] at h;cases h
    | true=>
     rw[hb] at h
     cases h
     simp only[zj,zf] at hb
     have g:=goodF_ok hb.1
     rw[decP_ok hF]
     exact w24 hp F b.data.toList g.l g.s fun _=>⟨g.o,hb.2⟩
   cases h
  cases h
 split at h
 ·split at h
  ·rename_i x y _ F hF
   cases hb:(goodF F&&(Nat.ble x.data.toList.length 1000&&Nat.ble y.data.toList.length 1000&&decide (((plF F).length+2)*(szP (plF F)+34*(sz (qU x.data.toList).q+sz (qU y.data.toList).q+128))<=9000000))) with
   | false=>rw[hb] at h;cases h
   | true=>
    rw[hb] at h
    cases h
    simp only[zj,zf,Wr] at hb
    have g:=goodF_ok hb.1
    rw[decP_ok hF]
    exact w22 hp F x.data.toList y.data.toList g.l g.s aa aa fun _=>⟨g.o,hb.2.2⟩
  cases h
 cases h
noncomputable def spO:Orc:=orO (pureO numT) (orO (pureO polyT) (orO mapO (orO mapO2 radO)))
theorem sp_ok (hp:qJ) (hf:jt):kX prog spO:=orO_ok (num_ok hp) (orO_ok (poly_ok hp) (orO_ok mapO_ok (orO_ok (mapO2_ok hp) (radO_ok hp hf))))
end Go.Lens.Tb
end
section
namespace Go.Lens
variable [Lz]
section
variable {P:Program} {Y:Tab} [qH P Y] {O:Orc} {U:YOrc} {X:XOp} {fr:Oper->Bool} {en:FuncId->Bool}
noncomputable def yFunZ (O:Orc) (U:YOrc) (X:XOp) (fr:Oper->Bool) (Y:Tab) (en:FuncId->Bool) (F:FnI) (ds:List DV):Option DV:=
 match F.body with
 | some c=>bif Nat.ble ds.length F.n&&(DV.qL ds).isEmpty then
   match yCode Y O U X fr 2 F.n en true F.kp c ⟨zipT 0 ds,[]⟩ with
   | some (.normal,s)=>(match kY Y F 2 [] ((s.tm.map (·.1)).foldl frz1 s) with
     | some (v,[])=>some v
     | _=>none)
   | some (.ret,s)=>(match kY Y F 2 [] ((s.tm.map (·.1)).foldl frz1 s) with
     | some (v,[])=>some v
     | _=>none)
   | _=>none
  else none
 | none=>none
theorem Wk.frzL {nb:Nat}:∀ (l:List Nat) (s:St),Wk nb s (l.foldl Go.Lens.frz1 s)
 | [],_=>Wk.refl
 | _::l,_=>Wk.tr Wk.frz1 (Wk.frzL l _)
theorem yFunZ_ok (hm:P.follows .mixedOrders=true) (hO:kX P O) (hZ:YOrcOk P U) (hX:XOpOk P Y X) (hen:∀ f,en f=true->∀ args w,(callFunc f args).run P w=.ok (.enter f args) w) {F:FnI} {f:FuncId} {fn:Func} (hf:P.funcs[f]? =some fn) (hb:fn.body=F.body) (hn:fn.ntmps=F.n) (hr:fn.results=F.res)
  (hda:∀ c,F.body=some c->jh F.n c=true) (he:∀ args w,(callFunc f args).run P w=.ok (.enter f args) w) {ds:List DV} {val:DV} (h:yFunZ O U X fr Y en F ds=some val):qA P f ds (qr []) val []:=by
 unfold yFunZ at h
 split at h
 ·rename_i c hc
  cases hq:(Nat.ble ds.length F.n&&(DV.qL ds).isEmpty) with
  | false=>rw[hq] at h;cases h
  | true=>
   rw[hq] at h
   simp only[Wy] at h
   simp only[zj,Wr,List.isEmpty_iff] at hq
   have key:∀ (e:Exit) (s:St),(e=.normal\/e=.ret)->yCode Y O U X fr 2 F.n en true F.kp c ⟨zipT 0 ds,[]⟩=some (e,s)->kY Y F 2 [] ((s.tm.map (·.1)).foldl frz1 s)=some (val,[])->qA P f ds (qr []) val []:=by
    intro e s hex hy hx
    refine callOk_ofL (Y:=Y) (F:=F) 2 [] hf (hb.trans hc) hn hr he hq.1 (by rw[hq.2];rfl) Z ?_
    refine T.mono (T.wkPost (yCode_ok hm hO hZ hX hen (fun _=>rfl) c (hda c hc) hy) (Wk.frzL (s.tm.map (·.1)) s)) ?_
    rintro e2 s2 ⟨rfl,rfl⟩
    exact⟨hex,hx⟩
   split at h
   ·rename_i s hy
    split at h
    ·rename_i hx;cases h;exact key _ s (.inl Z) hy hx
    cases h
   ·rename_i s hy
    split at h
    ·rename_i hx;cases h;exact key _ s (.inr Z) hy hx
    cases h
   cases h
 cases h
theorem yFunZ_of (hm:P.follows .mixedOrders=true) {SP:Orc} {FT:Tr FnI} {k:Nat} (hX:XOpOk P Y X) (hS:kX P SP) (hF:FtOk P FT) {f:FuncId} {F:FnI} (hf:FT.get f=some F) {ds:List DV} {val:DV}
  (h:yFunZ (yBoth SP FT X fr Y k).1 (yBoth SP FT X fr Y k).2 X fr Y (fun f=>(FT.get f).isSome) F ds=some val):qA P f ds (qr []) val []:=by
 obtain⟨h1,h2⟩:=yBoth_ok (fr:=fr) hm hX hS hF k
 have hen:∀ f,(FT.get f).isSome=true->∀ args w,(callFunc f args).run P w=.ok (.enter f args) w:=fun f hf=>by
  obtain⟨F,hF'⟩:=QO.1 hf
  obtain⟨fn,_,_,_,_,_,h6⟩:=hF _ (Tr.get_mem hF')
  exact h6
 obtain⟨fn,g1,g2,g3,g4,g5,g6⟩:=hF _ (Tr.get_mem hf)
 exact yFunZ_ok hm h1 h2 hX hen g1 g2 g3 g4 g5 g6 h
end
end Go.Lens
end
section
namespace Go.Lens.Tb
open Go.Proofs Go.Lens.Un
variable [Lz] [Dn] [Kr]
theorem fact (hp:qJ) (hf:jt) {f:FuncId} {F:FnI} (q:ft.get f=some F) {ds:List DV} {val:DV} (h:yFunZ (yBoth spO ft xMap frO tab 30).1 (yBoth spO ft xMap frO tab 30).2 xMap frO tab (fun f=>(ft.get f).isSome) F ds=some val):qA prog f ds (qr []) val []:=
 yFunZ_of mixed (xMap_ok hf) (sp_ok hp hf) ft_ok q h
end Go.Lens.Tb
end
section
namespace Go.Lens.Tb
open Go.Proofs Go.Lens.Un
variable [Lz] [Dn] [Kr]
def eqBs:Nb->Nb->Bool
 | [],[]=>true
 | a::l,b::m=>Nat.beq a.toNat b.toNat&&eqBs l m
 | _,_=>false
theorem eqBs_ok:∀ {a b:Nb},eqBs a b=true->a=b
 | [],[],_=>rfl
 | [],_::_,h=>by cases h
 | _::_,[],h=>by cases h
 | a::l,b::m,h=>by
  simp only[eqBs,zj] at h
  rw[JU.1 (zD h.1),eqBs_ok h.2]
mutual
def eqPV:PV->PV->Bool
 | .lit (.int .i64 a),.lit (.int .i64 b)=>ieqF a b
 | .lit (.string a),.lit (.string b)=>eqBs a.data.toList b.data.toList
 | .lit (.slice none 0 0),.lit (.slice none 0 0)=>true
 | .agg a,.agg b=>eqPVs a b
 | .slice a,.slice b=>eqPVss a b
 | _,_=>false
def eqPVs:List PV->List PV->Bool
 | [],[]=>true
 | a::l,b::m=>eqPV a b&&eqPVs l m
 | _,_=>false
def eqPVss:List (List PV)->List (List PV)->Bool
 | [],[]=>true
 | a::l,b::m=>eqPVs a b&&eqPVss l m
 | _,_=>false
end
mutual
theorem eqPV_ok:∀ {a b:PV},eqPV a b=true->a=b:=by
 intro a b h
 unfold eqPV at h
 split at h
 ·rw[ieqF_eq,Wv] at h;rw[h]
 ·rename_i a b
  have:=eqBs_ok h
  obtain⟨⟨a⟩⟩:=a
  obtain⟨⟨b⟩⟩:=b
  simp only at this
  rw[this]
 ·rfl
 ·rw[eqPVs_ok h]
 ·rw[eqPVss_ok h]
 cases h
theorem eqPVs_ok:∀ {a b:List PV},eqPVs a b=true->a=b:=by
 intro a b h
 unfold eqPVs at h
 split at h
 ·rfl
 ·simp only[zj] at h
  rw[eqPV_ok h.1,eqPVs_ok h.2]
 cases h
theorem eqPVss_ok:∀ {a b:List (List PV)},eqPVss a b=true->a=b:=by
 intro a b h
 unfold eqPVss at h
 split at h
 ·rfl
 ·simp only[zj] at h
  rw[eqPVs_ok h.1,eqPVss_ok h.2]
 cases h
end
def eqDs:List DV->List PV->Bool
 | [],[]=>true
 | .pv a::l,b::m=>eqPV a b&&eqDs l m
 | _,_=>false
theorem eqDs_ok:∀ {a:List DV} {b:List PV},eqDs a b=true->a=b.map .pv
 | [],[],_=>rfl
 | [],_::_,h=>by cases h
 | d::l,[],h=>by cases d<;>cases h
 | d::l,b::m,h=>by
  cases d<;>first|cases h|skip
  simp only[eqDs,zj] at h
  rw[eqPV_ok h.1,eqDs_ok h.2];rfl
def factO:List (Nat×List PV×DV)->Orc
 | []=>fun _ _ _ _=>none
 | (g,xs,v)::T=>fun f lo ds l=>match l with
  | []=>bif Nat.beq g f&&eqDs ds xs then some (v,[]) else factO T f lo ds []
  | _=>none
theorem factO_ok:∀ {T:List (Nat×List PV×DV)},(∀ p∈T,qA prog p.1 (p.2.1.map .pv) (qr []) p.2.2 [])->kX prog (factO T)
 | [],_=>fun _ _ _ _ _ _ h=>by cases h
 | (g,xs,v)::T,H=>fun f lo ds l val ms h=>by
  unfold factO at h
  split at h
  ·cases hb:(Nat.beq g f&&eqDs ds xs) with
   | true=>
    rw[hb] at h
    cases h
    simp only[zj] at hb
    obtain rfl:=zD hb.1
    rw[eqDs_ok hb.2]
    exact H _ qh
   | false=>
    rw[hb] at h
    exact factO_ok (fun p hp=>H p (zN _ hp)) _ _ _ _ _ _ h
  cases h
end Go.Lens.Tb
end
