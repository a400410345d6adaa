/- A part of the proof of PupilValuesCardSaid, without conditions. -/
import Derived.Test.YtpfnmbpfhlllaaaGreatDoorV6
import Derived.Test.YtpfnmbpfhlllaaaGreatDoorV5
import Derived.Test.YtpfnmbpfhlllaaaGreatDoorV3
set_option linter.unusedVariables false
set_option linter.unusedSimpArgs false
set_option linter.unusedSectionVars false
set_option maxRecDepth 100000
set_option maxHeartbeats 4000000
open Int (natAbs toNat)
open Prod (fst snd)
open List (getD take drop)
open Nat (gcd)
open Go.Proofs.Tryz (prog)
open Go.Lib (decDigits)
section
namespace Go.Lens.Tb
open Go.Proofs Go.Lens.Un
variable [Lz] [Dn]
attribute [local irreducible] TK PK T RG EfR Body CG
open Un Un.R
def qkB (q:Rat):Bool:=decide ((decDigits q.num.natAbs).length<=9/\(q.den=1\/(decDigits q.den).length<=9))
def qk1 (q:Rat):Int:=bif qkB q then q.num else 0
def qk2 (q:Rat):Int:=bif qkB q then (q.den:Int) else 0
def Dq (q:Rat):Nb:=decDigits q.num.natAbs++(if q.den=1 then [] else 47::decDigits q.den)
section
variable {q:Rat} {s D:Nb} {b:Bool} {n d:Int}
theorem qk_x:txt q=if q.num<0 then 45::Dq q else Dq q:=by
 unfold txt Dq Lib.itoa
 grind
theorem dq_47:∀ x∈decDigits q.num.natAbs,x≠47:=by rw[<-itoa_nat];exact itoa_47 _
theorem dq_h:j9 (Dq q) [45]=false:=by
 unfold j9 Dq
 cases h:decDigits q.num.natAbs with
 | nil=>exact absurd h (Un.dec_ne _)
 | cons c l=>
  have hc:=jT q.num.natAbs c (by rw[h];exact qg ..)
  have:¬((c::l++(if q.den=1 then [] else 47::decDigits q.den)).take ([45]:Nb).length=[45]):=by
   intro e
   simp only[z6,zQ,Xq,J5,Jw,Wp] at e
   rw[e] at hc
   exact absurd hc ah
  grind
theorem qk_s (hs:s=txt q) (hb:j9 s [45]=b):b=decide (q.num<0):=by
 rw[<-hb,hs,qk_x]
 by_cases h:q.num<0
 ·rw[Wx h,hp_mn,zl h]
 rw[Ww h,dq_h,zk h]
theorem qk_D (hs:s=txt q) (hD:D=qD s [45]):D=Dq q:=by
 rw[hD,hs,qk_x]
 unfold qD
 by_cases h:q.num<0
 ·rw[Wx h,hp_mn];rfl
 rw[Ww h,dq_h];rfl
theorem qk_1 (hb:j9 s [45]=b) (h:b=true):1<=s.length:=by
 rw[h] at hb;unfold j9 at hb
 grind
theorem slN_le:∀ D:Nb,slN D<=D.length
 | []=>zB _
 | c::l=>by
  have:=slN_le l
  grind [slN,List.length_cons]
theorem qk_t (hb:j9 s [45]=b) (h2:b=true) (hD:D=qD s [45]):drop 1 s=D:=by grind [qD]
theorem qk_f (hb:j9 s [45]=b) (h2:b=false) (hD:D=qD s [45]):s=D:=by grind [qD]
theorem dq_sl:slN (Dq q)=(decDigits q.num.natAbs).length:=by
 unfold Dq
 split
 ·rw[zR,sl_no dq_47]
 exact sl_at dq_47
theorem dq_len:(Dq q).length=(decDigits q.num.natAbs).length+(if q.den=1 then 0 else (decDigits q.den).length+1):=by
 unfold Dq
 split<;>simp
theorem qk_len (h:qkB q=true):(txt q).length<=20:=by
 have h:=X3 h
 have e:=dq_len (q:=q)
 grind [qk_x,List.length_cons]
theorem qk_no (h:qkB q=false):DV.tup [vI 0,vI 0,vB false]=.tup [vI (qk1 q),vI (qk2 q),vB (qkB q)]:=by
 unfold qk1 qk2
 rw[h];rfl
theorem qk_0 (hs:s=txt q) (h1:20<(s.length:Int)):DV.tup [vI 0,vI 0,vB false]=.tup [vI (qk1 q),vI (qk2 q),vB (qkB q)]:=by
 refine qk_no ?_
 cases h:qkB q with
 | false=>rfl
 | true=>have:=qk_len h;rw[hs] at h1;omega
theorem qk_k (hD:D=Dq q) (h:(bif decide (9<((slN D:Nat):Int)) then true else decide (10<(D.length:Int)-((slN D:Nat):Int)))=false):qkB q=true:=by
 obtain⟨h1,h2⟩:=dc_no h
 rw[hD,dq_sl] at h1 h2
 rw[dq_len] at h2
 refine zl ⟨aa,?_⟩
 grind
theorem qk_3 (hD:D=Dq q) (h:(bif decide (9<((slN D:Nat):Int)) then true else decide (10<(D.length:Int)-((slN D:Nat):Int)))=true):DV.tup [vI 0,vI 0,vB false]=.tup [vI (qk1 q),vI (qk2 q),vB (qkB q)]:=by
 refine qk_no (zk ?_)
 rintro⟨g1,g2⟩
 rcases dc_or h with h|h
 ·rw[hD,dq_sl] at h;omega
 rw[hD,dq_sl,dq_len] at h
 by_cases hq:q.den=1
 ·rw[Wx hq] at h;omega
 grind
theorem qk_v (h:qkB q=true) (hn:n=q.num) (hd:d=(q.den:Int)):DV.tup [vI n,vI d,vB true]=.tup [vI (qk1 q),vI (qk2 q),vB (qkB q)]:=by
 unfold qk1 qk2
 rw[h,hn,hd];rfl
theorem qk_n (hs:s=txt q) (hb:j9 s [45]=b) (h:b=true):0-(q.num.natAbs:Int)=q.num:=by
 have:=X3 ((qk_s hs hb).symm.trans h)
 omega
theorem qk_p (hs:s=txt q) (hb:j9 s [45]=b) (h:b=false):(q.num.natAbs:Int)=q.num:=by
 have:=XJ ((qk_s hs hb).symm.trans h)
 omega
theorem qk_d (hD:D=Dq q) (h:¬((slN D:Nat):Int)<(D.length:Int)):(1:Int)=(q.den:Int):=by
 rw[hD,dq_sl,dq_len] at h
 grind
theorem qk_b (hD:D=Dq q) (h:(bif decide (9<((slN D:Nat):Int)) then true else decide (10<(D.length:Int)-((slN D:Nat):Int)))=false):q.num.natAbs<1000000000:=by
 have hk:=(X3 (qk_k hD h)).1
 have h1:=ky (jT q.num.natAbs)
 rw[kl] at h1
 exact XG h1 (Xe ah hk)
theorem w216n (q:Rat) (D:Nb) (hD:D=Dq q) (h:(bif decide (9<((slN D:Nat):Int)) then true else decide (10<(D.length:Int)-((slN D:Nat):Int)))=false):CKa 143 [vS (bsO (D.take (slN D)))] (vI (q.num.natAbs:Int)):=by
 have hk:=(X3 (qk_k hD h)).1
 have e:D.take (slN D)=decDigits q.num.natAbs:=by rw[hD,dq_sl,Dq,J3]
 rw[e]
 have:=w216 (decDigits q.num.natAbs) (jT _) aa
 rw[kl] at this
 exact this
theorem w216m (q:Rat) (D:Nb) (hD:D=Dq q) (h:(bif decide (9<((slN D:Nat):Int)) then true else decide (10<(D.length:Int)-((slN D:Nat):Int)))=false) (hl:slN D<D.length):CKa 143 [vS (bsO (D.drop (slN D+1)))] (vI (q.den:Int)):=by
 have hk:=(X3 (qk_k hD h)).2
 have hq:q.den≠1:=by grind [dq_sl,dq_len]
 have e:D.drop (slN D+1)=decDigits q.den:=by rw[hD,dq_sl,Dq,Ww hq,<-List.drop_drop,JY];rfl
 rw[e]
 have:=w216 (decDigits q.den) (jT _) (by rcases hk with g|g;exact absurd g hq;omega)
 rw[kl] at this
 exact this
end
theorem w157 (q:Rat) (s:Nb) (hs:s=txt q) (hl:s.length<=900000):CKa 81 [vS (bsO s)] (.tup [vI (qk1 q),vI (qk2 q),vB (qkB q)]):=by
 refine cG qf81 Z (nB Z) Z (E Z (B.Zu Z un9) (Cp Z Z (fun h1=>?_) (fun h1=>?_)))
 ·exact Rt Z (lF Z eW)
 refine E Z (B.Zu Z un9) ?_
 refine Em Z Z Z Z ?_
 refine Eg Z Z (fun hc=>B.sidx (qr Z hc) Z un9 Z (show 0<List.length s from dJ)) Z (Eg Z Z (fun hc=>B.eql (qr Z hc) Z) Z (E Z (B.pA Z Z Z Z Z) ?_))
 refine tk 5 Z ?_
 refine tn ⟨[(5,vS (bsO s)),(6,vB (bif (decide (0<(s.length:Int))) then (decide ((byteAt (bsO s) 0)=45)) else false))],[]⟩ rfl rfl Z ?_
 rw[pr_h]
 generalize hb:j9 s [45]=b
 obtain⟨D,hD⟩:∃ D,D=qD s [45]:=⟨_,rfl⟩
 have hb1:=qk_1 hb
 refine kc (Cb Z Z (fun h2=>?_) (fun h2=>?_))
 ·refine E Z (B.slLB Z Z un9 Z dJ) ?_
  refine tk 7 Z ?_
  refine tn ⟨[(5,vS (bsO (drop 1 s))),(6,vB b)],[]⟩ rfl rfl Z ?_
  have hDs:=qk_D hs hD
  have hDl:D.length<=20:=by rw[hD];have:=trimP_len s [45];omega
  have hsl:=slN_le D
  rw[qk_t hb h2 hD]
  refine kc (C Z (w193 D aa) Z Z Z ?_)
  refine Em Z Z Z Z ?_
  refine Eg Z Z (fun hc=>B.Zu (qr Z hc) un9) Z ?_
  refine Em Z Z Z Z ?_
  refine Eg Z Z (fun hc=>B.sub (qr Z hc) (qr Z hc) dK) Z (Eg Z Z (fun hc=>B.gtr (qr Z hc) Z) Z (E Z (B.pO Z Z Z Z Z) (Cb Z Z (fun h3=>?_) (fun h3=>?_))))
  ·exact Rt Z (lF Z eW)
  refine E Z (B.slHB Z Z un9 Z dJ) (C Z (w216n q D hDs ab) Z Z Z (E Z (B.Zu Z un9) (Cp Z Z (fun h4=>?_) (fun h4=>?_))))
  ·refine E Z (B.add Z Z dK) (E Z (B.slLB (i:=((slN D)+1)) Z Z un9 aa dJ) (C Z (w216m q D hDs ab aa) Z Z Z (Cb Z Z (fun h5=>?_) (fun h5=>?_))))
   ·exact E Z (B.sub Z Z dK) (Rt Z (lF Z eW))
   grind
  refine Cb Z Z (fun h6=>?_) (fun h6=>?_)
  ·exact E Z (B.sub Z Z dK) (Rt Z (lF Z eW))
  grind
 refine tk 7 Z ?_
 refine tn ⟨[(5,vS (bsO s)),(6,vB b)],[]⟩ rfl rfl Z ?_
 have hDs:=qk_D hs hD
 have hDl:D.length<=20:=by rw[hD];have:=trimP_len s [45];omega
 have hsl:=slN_le D
 rw[qk_f hb h2 hD]
 refine kc (C Z (w193 D aa) Z Z Z ?_)
 refine Em Z Z Z Z ?_
 refine Eg Z Z (fun hc=>B.Zu (qr Z hc) un9) Z ?_
 refine Em Z Z Z Z ?_
 refine Eg Z Z (fun hc=>B.sub (qr Z hc) (qr Z hc) dK) Z (Eg Z Z (fun hc=>B.gtr (qr Z hc) Z) Z (E Z (B.pO Z Z Z Z Z) (Cb Z Z (fun h7=>?_) (fun h7=>?_))))
 ·exact Rt Z (lF Z eW)
 refine E Z (B.slHB Z Z un9 Z dJ) (C Z (w216n q D hDs ab) Z Z Z (E Z (B.Zu Z un9) (Cp Z Z (fun h8=>?_) (fun h8=>?_))))
 ·refine E Z (B.add Z Z dK) (E Z (B.slLB (i:=((slN D)+1)) Z Z un9 aa dJ) (C Z (w216m q D hDs ab aa) Z Z Z (Cb Z Z (fun h9=>?_) (fun h9=>?_))))
  ·grind
  exact Rt Z (lF Z eW)
 refine Cb Z Z (fun h10=>?_) (fun h10=>?_)
 ·grind
 exact Rt Z (lF Z eW)
section
variable {n d X Y:Int} {q:Rat}
theorem of_c (hn: -4000000000000000000<=n/\n<=4000000000000000000) (hd: -4000000000000000000<=d/\d<=4000000000000000000):¬(bif (bif (bif decide (n<(-4000000000000000000)) then true else decide (4000000000000000000<n)) then true else decide (d<(-4000000000000000000))) then true else decide (4000000000000000000<d))=true:=by
 rw[zk (show ¬n < -4000000000000000000 by omega),zk (show ¬4000000000000000000<n by omega),zk (show ¬d < -4000000000000000000 by omega),zk (show ¬4000000000000000000<d by omega)]
 decide
theorem of_xy (n d:Int):∃ X Y:Int,(d<0->X=0-n/\Y=0-d)/\(¬d<0->X=n/\Y=d):=by
 by_cases h:d<0
 ·exact⟨_,_,fun _=>⟨rfl,rfl⟩,fun g=>absurd h g⟩
 exact⟨_,_,fun g=>absurd g h,fun _=>⟨rfl,rfl⟩⟩
theorem of_b (hX:(d<0->X=0-n/\Y=0-d)/\(¬d<0->X=n/\Y=d)) (hn: -4000000000000000000<=n/\n<=4000000000000000000) (hd: -4000000000000000000<=d/\d<=4000000000000000000) (h0:d≠0):0<Y/\Y<=4000000000000000000/\ -4000000000000000000<=X/\X<=4000000000000000000:=by
 by_cases h:d<0
 ·have:=hX.1 h;omega
 have:=hX.2 h;omega
theorem of_f (hX:(d<0->X=0-n/\Y=0-d)/\(¬d<0->X=n/\Y=d)):frq X Y=frq n d:=by
 by_cases h:d<0
 ·obtain⟨rfl,rfl⟩:=hX.1 h;rw[Kq,Kq,frq_neg]
 obtain⟨rfl,rfl⟩:=hX.2 h;rfl
theorem of_pos (hY:0<Y):0<gcd X.natAbs Y.natAbs:=QJ _ aa
theorem of_p (hX:(d<0->X=0-n/\Y=0-d)/\(¬d<0->X=n/\Y=d)) (h0:d≠0):Int.tdiv X ((gcd X.natAbs Y.natAbs:Nat):Int)=(frq n d).num/\Int.tdiv Y ((gcd X.natAbs Y.natAbs:Nat):Int)=((frq n d).den:Int):=by
 have hY:0<Y:=by
  by_cases h:d<0
  ·have:=hX.1 h;omega
  have:=hX.2 h;omega
 obtain⟨e1,e2⟩:=fr_q (X:=X) hY
 rw[<-of_f hX,e1,e2]
 constructor
 ·unfold sgn
  by_cases h:X<0
  ·rw[zl h,Wx rfl,show X= -(X.natAbs:Int) by omega,Int.neg_tdiv,JU,Xw];rfl
  rw[zk h,Ww ao,show Int.tdiv X _=Int.tdiv (X.natAbs:Int) ((gcd X.natAbs Y.natAbs:Nat):Int) by rw[show (X.natAbs:Int)=X by omega]];rfl
 rw[show Int.tdiv Y _=Int.tdiv (Y.natAbs:Int) ((gcd X.natAbs Y.natAbs:Nat):Int) by rw[show (Y.natAbs:Int)=Y by omega]];rfl
theorem w154m (X Y:Int) (hY:0<Y) (hY2:Y<=4000000000000000000) (hX: -4000000000000000000<=X/\X<=4000000000000000000):CKa 144 [vI (max X (0-X)),vI Y] (vI ((gcd X.natAbs Y.natAbs:Nat):Int)):=by
 have:=w154 X.natAbs Y.natAbs aa aa
 rwa [show (X.natAbs:Int)=max X (0-X) by omega,show (Y.natAbs:Int)=Y by omega] at this
theorem w155m (X:Int) (h:X.natAbs<9223372036854775808):CKa 145 [vI (max X (0-X)),vI 1] (vS (bsO (padN 1 X.natAbs))):=by
 have:=w155 X.natAbs 1 h ah ah
 rwa [show (X.natAbs:Int)=max X (0-X) by omega] at this
theorem of_g (hY:0<Y):((gcd X.natAbs Y.natAbs:Nat):Int)≠0:=by have:=of_pos (X:=X) hY;omega
theorem of_g2 (hY:0<Y):0<((gcd X.natAbs Y.natAbs:Nat):Int):=by have:=of_pos (X:=X) hY;omega
theorem of_t (x:Int) (g:Nat):(Int.tdiv x (g:Int)).natAbs<=x.natAbs:=by rw[Int.natAbs_tdiv];exact JD _ _
theorem of_rn (hB:0<Y/\Y<=4000000000000000000/\ -4000000000000000000<=X/\X<=4000000000000000000): -9223372036854775808<=Int.tdiv X ((gcd X.natAbs Y.natAbs:Nat):Int)/\Int.tdiv X ((gcd X.natAbs Y.natAbs:Nat):Int)<9223372036854775808:=by
 have:=of_t X (gcd X.natAbs Y.natAbs);omega
theorem of_rd (hB:0<Y/\Y<=4000000000000000000/\ -4000000000000000000<=X/\X<=4000000000000000000): -9223372036854775808<=Int.tdiv Y ((gcd X.natAbs Y.natAbs:Nat):Int)/\Int.tdiv Y ((gcd X.natAbs Y.natAbs:Nat):Int)<9223372036854775808:=by
 have:=of_t Y (gcd X.natAbs Y.natAbs);omega
theorem of_n (hX:(d<0->X=0-n/\Y=0-d)/\(¬d<0->X=n/\Y=d)) (hn: -4000000000000000000<=n/\n<=4000000000000000000) (hd: -4000000000000000000<=d/\d<=4000000000000000000) (h0:d≠0):(frq n d).num.natAbs<9223372036854775808:=by
 rw[<-(of_p hX h0).1]
 have:=of_t X (gcd X.natAbs Y.natAbs);have:=of_b hX hn hd h0;omega
theorem of_d (hX:(d<0->X=0-n/\Y=0-d)/\(¬d<0->X=n/\Y=d)) (hn: -4000000000000000000<=n/\n<=4000000000000000000) (hd: -4000000000000000000<=d/\d<=4000000000000000000) (h0:d≠0):(frq n d).den<9223372036854775808:=by
 have e:=(of_p hX h0).2
 have:=of_t Y (gcd X.natAbs Y.natAbs);have:=of_b hX hn hd h0;omega
theorem ofs_1 (h:q.num<0):sgT q.num=[45]:=Wx h
theorem ofs_2 (h:¬q.num<0):sgT q.num=[]:=Ww h
theorem pad1 (n:Nat):padN 1 n=decDigits n:=by
 unfold padN
 have:=Xm.2 (Un.dec_ne n)
 rw[show 1-(decDigits n).length=0 by omega];rfl
theorem of_l1 {n:Nat} (h:n<9223372036854775808):(padN 1 n).length<=20:=by
 rw[pad_len]
 have:=dec_len (n:=n) (k:=20) ah (KD h ah)
 omega
theorem of_l3 (z:Int):(sgT z).length<=1:=by unfold sgT;split<;>decide
theorem sg_i (z:Int):sgT z++padN 1 z.natAbs=Lib.itoa z:=by
 rw[pad1];unfold sgT Lib.itoa
 by_cases h:z<0
 ·rw[Wx h,Wx h];rfl
 rw[Ww h,Ww h,show z.natAbs=z.toNat by omega];rfl
theorem of_e1 (h:1<(q.den:Int)):vS (bsO (((sgT q.num++padN 1 q.num.natAbs)++[47])++padN 1 q.den))=vS (bsO (txt q)):=by
 rw[sg_i,pad1,txt_2 aa,zZ];rfl
theorem of_e2 (h:¬1<(q.den:Int)):vS (bsO (sgT q.num++padN 1 q.num.natAbs))=vS (bsO (txt q)):=by
 have:=q.den_pos
 rw[sg_i,txt_1 aa]
end
theorem w59 (n d:Int) (hd0:d≠0) (hn: -4000000000000000000<=n/\n<=4000000000000000000) (hd: -4000000000000000000<=d/\d<=4000000000000000000):CKa 82 [vI n,vI d] (vS (bsO (txt (frq n d)))):=by
 refine cG qf82 Z (nB Z) Z ?_
 refine Em Z Z Z Z ?_
 refine Eg Z Z (fun hc=>B.gtr (qr Z hc) Z) Z (E Z (B.pO Z Z Z Z Z) ?_)
 refine Em Z Z Z Z ?_
 refine Eg Z Z (fun hc=>B.lss (qr Z hc) Z) Z (E Z (B.pO Z Z Z Z Z) ?_)
 refine Em Z Z Z Z ?_
 refine Eg Z Z (fun hc=>B.gtr (qr Z hc) Z) Z (E Z (B.pO Z Z Z Z Z) (Cb Z Z (fun h1=>?_) (fun h1=>?_)))
 ·exact absurd h1 (of_c hn hd)
 obtain⟨X,Y,hX⟩:=of_xy n d
 have hB:=of_b hX hn hd hd0
 have hP:=of_p hX hd0
 refine Cj [(0,vI X),(1,vI Y)] [] Z Z Z (fun h2=>?_) (fun h2=>?_) ?_
 ·replace h2:=X3 h2
  refine E Z (B.sub Z Z dL) (E Z (B.sub Z Z dL) (pk Z ?_))
  show Sub _ _ _
  first|rw[(hX.1 ab).1,(hX.1 ab).2]|rw[(hX.2 ab).1,(hX.2 ab).2]
  exact sb Z Z rfl
 ·replace h2:=XJ h2
  refine pk Z ?_
  show Sub _ _ _
  first|rw[(hX.1 ab).1,(hX.1 ab).2]|rw[(hX.2 ab).1,(hX.2 ab).2]
  exact sb Z Z rfl
 refine E Z (B.sub Z Z dL) (E Z (B.max Z Z) (C Z (w154m X Y hB.1 hB.2.1 hB.2.2) Z Z Z (E Z (B.quo Z Z ⟨dM,dL⟩) (E Z (B.quo Z Z ⟨dM,dL⟩) (Dr Z ae ?_)))))
 refine tk 7 Z ?_
 refine tn ⟨[(0,vI (Int.tdiv X (((gcd (natAbs X) (natAbs Y)):Nat):Int))),(1,vI (Int.tdiv Y (((gcd (natAbs X) (natAbs Y)):Nat):Int)))],[]⟩ rfl rfl Z ?_
 rw[hP.1,hP.2]
 refine kc (Cj [(0,vI (Rat.num (frq n d))),(1,vI ((Rat.den (frq n d):Nat):Int)),(6,vS (bsO (sgT (Rat.num (frq n d)))))] [] Z Z Z (fun h3=>?_) (fun h3=>?_) ?_)
 ·replace h3:=X3 h3
  refine pk Z ?_
  show Sub _ _ _
  first|rw[ofs_1 ab]|rw[ofs_2 ab]
  exact sb Z Z rfl
 ·replace h3:=XJ h3
  refine pk Z ?_
  show Sub _ _ _
  first|rw[ofs_1 ab]|rw[ofs_2 ab]
  exact sb Z Z rfl
 refine E Z (B.sub Z Z dL) (E Z (B.max Z Z) (C Z (w155m (Rat.num (frq n d)) (of_n hX hn hd hd0)) Z Z Z (E Z (B.catB Z Z dN) (Cp Z Z (fun h4=>?_) (fun h4=>?_)))))
 ·exact E Z (B.catB Z Z dN) (C Z (w155 (Rat.den (frq n d)) 1 (of_d hX hn hd hd0) ah ah) Z Z Z (E Z (B.catB Z Z dN) (Rt Z (lF Z dO))))
 exact Rt Z (lF Z dO)
def lgE (q:Rat):Int:=bif jF q then 4 else 0
section
variable {q r:Rat} {z:Int}
theorem tz_0:txt 0=[48]:=ae
theorem tz_1:txt q=[48]↔q.num=0:=by
 constructor
 ·intro h
  rw[qk_x] at h
  by_cases g:q.num<0
  ·rw[Wx g] at h;cases h
  rw[Ww g] at h
  unfold Dq at h
  have h1:decDigits q.num.natAbs=[48]:=by
   cases e:decDigits q.num.natAbs with
   | nil=>exact absurd e (Un.dec_ne _)
   | cons a l=>
    rw[e,zQ] at h
    simp only[Jw,QQ] at h
    rw[h.1,h.2.1]
  have h2:=kl q.num.natAbs
  rw[h1] at h2
  have h3:q.num.natAbs=0:=h2.symm.trans ah
  omega
 intro h
 have e:q=0:=JQ.1 h
 rw[e];exact tz_0
theorem tz_b:decide (txt q=[48])=decide (q=0):=Jn.2 (tz_1.trans JQ)
theorem sn_1 (h:txt q=[48]):0=j3 q.num:=by rw[tz_1.1 h];rfl
theorem sn_c:(bif decide (0<(((txt q).length:Nat):Int)) then decide (byteAt (bsO (txt q)) 0=45) else false)=decide (q.num<0):=by
 have e0:∀ (a:UInt8) (l:Nb),decide (byteAt (bsO (a::l)) 0=45)=decide (a=45):=fun a l=>by
  refine Jn.2 ?_
  rw[byteAt_bsO]
  show (a.toNat:Int)=45↔_
  constructor
  ·intro h;exact JR.1 (by have:(45:UInt8).toNat=45:=rfl;omega)
  intro h;rw[h];rfl
 by_cases g:q.num<0
 ·rw[qk_x,Wx g,zl g,e0];simp
 rw[qk_x,Ww g,zk g]
 have:=dq_h (q:=q)
 unfold j9 at this
 cases e:Dq q with
 | nil=>rfl
 | cons a l=>
  grind
theorem sn_2 (h0:¬txt q=[48]) (h:(bif decide (0<(((txt q).length:Nat):Int)) then decide (byteAt (bsO (txt q)) 0=45) else false)=true): -1=j3 q.num:=by grind [sn_c,j3]
theorem sn_3 (h0:¬txt q=[48]) (h:(bif decide (0<(((txt q).length:Nat):Int)) then decide (byteAt (bsO (txt q)) 0=45) else false)=false):1=j3 q.num:=by
 rw[sn_c] at h
 have h1:¬q.num=0:=fun e=>h0 (tz_1.2 e)
 grind [j3]
theorem sg_lt {z:Int}:j3 z<0↔z<0:=by grind [j3]
theorem sg_0 {z:Int}:j3 z=0↔z=0:=by grind [j3]
theorem ng_l (h:j3 q.num<0):1<=(txt q).length:=by rw[qk_x,Wx (sg_lt.1 h)];simp
theorem dq_ng:Dq (-q)=Dq q:=by unfold Dq;rw[Wc,Rat.neg_den,JU]
theorem ng_1 (h:j3 q.num<0):(txt q).drop 1=txt (-q):=by rw[qk_x,qk_x,Wx (sg_lt.1 h),Ww (by rw[Wc];have:=sg_lt.1 h;omega),dq_ng];rfl
theorem ng_2 (h:j3 q.num=0):txt q=txt (-q):=by rw[JQ.1 (sg_0.1 h)];rfl
theorem ng_3 (h:¬j3 q.num<0) (h2:¬j3 q.num=0):[45]++txt q=txt (-q):=by
 have h3:¬q.num<0:=fun e=>h (sg_lt.2 e)
 have h4:¬q.num=0:=fun e=>h2 (sg_0.2 e)
 rw[qk_x,qk_x,Ww h3,Wx (by rw[Wc];omega),dq_ng];rfl
theorem itoa_txt (z:Int):Lib.itoa z=txt (z:Rat):=(txt_1 (q:=(z:Rat)) Z).symm
theorem ab_l (h:j3 z<0):1<=(Lib.itoa z).length:=by unfold Lib.itoa;rw[Wx (sg_lt.1 h)];simp
theorem ab_1 (h:j3 z<0):(Lib.itoa z).drop 1=decDigits z.natAbs:=by unfold Lib.itoa;rw[Wx (sg_lt.1 h)];rfl
theorem ab_2 (h:¬j3 z<0):Lib.itoa z=decDigits z.natAbs:=by
 have h3:¬z<0:=fun e=>h (sg_lt.2 e)
 unfold Lib.itoa;rw[Ww h3,show z.toNat=z.natAbs by omega]
theorem tx_sl:slN (txt q)=(Lib.itoa q.num).length:=by
 by_cases h:q.den=1
 ·rw[txt_1 h,sl_no (itoa_47 _)]
 rw[txt_2 h,sl_at (itoa_47 _)]
theorem rnu_1:(txt q).take (slN (txt q))=Lib.itoa q.num:=by
 rw[tx_sl]
 by_cases h:q.den=1
 ·rw[txt_1 h,Jd]
 rw[txt_2 h,J3]
theorem nu_l (h:(txt q).length<=900000):(Lib.itoa q.num).length<=900000:=by rw[<-tx_sl];exact qc (slN_le _) h
theorem rnu_2 (h:((slN (txt q):Nat):Int)=(((txt q).length:Nat):Int)):[49]=decDigits q.den:=by
 rw[tx_sl] at h
 by_cases g:q.den=1
 ·rw[g];kernel_rfl
 rw[txt_2 g,za,zb] at h;omega
theorem rnu_3 (h:¬((slN (txt q):Nat):Int)=(((txt q).length:Nat):Int)):(txt q).drop (slN (txt q)+1)=decDigits q.den:=by
 rw[tx_sl] at h ⊢
 by_cases g:q.den=1
 ·rw[txt_1 g] at h;exact absurd Z h
 rw[txt_2 g,<-List.drop_drop,JY];rfl
theorem la_1 (h:(bif decide (600<(((decDigits q.num.natAbs).length:Nat):Int)) then true else decide (600<(((decDigits q.den).length:Nat):Int)))=true):4=lgE q:=by
 unfold lgE jF longN
 grind
theorem la_2 (h:(bif decide (600<(((decDigits q.num.natAbs).length:Nat):Int)) then true else decide (600<(((decDigits q.den).length:Nat):Int)))=false):0=lgE q:=by grind [lgE,jF,longN]
theorem dig_bl {n B:Nat} (h:q0 n<=B):(dig K9 n).length<=B / 29+1:=by
 refine ja jp (XG (ku n) ?_)
 refine qc (Xe ah (show q0 n<=29*(B / 29+1) by omega)) ?_
 rw[K7]
 exact Xt ah _
theorem dig_b2 {n:Nat} (h:q0 n<=2000000):(dig K9 n).length<=100000:=qc (dig_bl h) ah
theorem ar_n (h:sz q<=1000000):(dig K9 q.num.natAbs).length<=100000:=dig_b2 (by have:=sz_n q;omega)
theorem ar_d (h:sz q<=1000000):(dig K9 (q.den:Int).natAbs).length<=100000:=dig_b2 (by rw[Xw];have:=sz_d q;omega)
theorem ar_m {x y:Int} (h:q0 x.natAbs+q0 y.natAbs<=1999999):(dig K9 (x*y).natAbs).length<=100000:=dig_b2 (by rw[JT];have:=bl_mul x.natAbs y.natAbs;omega)
theorem ar_g {x y u v:Int} {k:Nat} (h:q0 x.natAbs+q0 y.natAbs<=k/\q0 u.natAbs+q0 v.natAbs<=k):(x*y+u*v).natAbs<2 ^ (k+1):=by
 have h1:=ku (x*y).natAbs
 have h2:=ku (u*v).natAbs
 have h3:=bl_mul x.natAbs y.natAbs
 have h4:=bl_mul u.natAbs v.natAbs
 rw[JT] at h1 h2
 have h5:2 ^ q0 (x.natAbs*y.natAbs)<=2 ^ k:=Xe ah aa
 have h6:2 ^ q0 (u.natAbs*v.natAbs)<=2 ^ k:=Xe ah aa
 have h7:(2:Nat) ^ (k+1)=2 ^ k*2:=KG ..
 have h8:=XP (x*y) (u*v)
 grind [Int.natAbs_mul]
theorem ar_s {x y u v:Int} (h:q0 x.natAbs+q0 y.natAbs<=1999999/\q0 u.natAbs+q0 v.natAbs<=1999999):(dig K9 (x*y+u*v).natAbs).length<=100000:=
 dig_b2 (ko (k:=1999999+1) (ar_g (k:=1999999) h))
theorem ar_t (h:sz q<=1000000):(txt q).length<=900000:=by
 have key:∀ n:Nat,q0 n<=1000000->(decDigits n).length<=9*34483:=fun n hn=>by
  have h1:=dig_bl hn
  have h2:=XG (jw jp n) (Xe (show 0<K9 by decide) (show (dig K9 n).length<=34483 by omega))
  exact dec_k9 ah h2
 have h1:=key q.num.natAbs (by have:=sz_n q;omega)
 have h2:=key q.den (by have:=sz_d q;omega)
 have h3:=dq_len (q:=q)
 grind [qk_x,List.length_cons]
theorem qk_two {a b:Bool} (h:(bif a then b else false)=true):a=true/\b=true:=by cases a<;>simp_all
theorem qk_e (h:qkB q=true):qk1 q=q.num/\qk2 q=(q.den:Int):=by grind [qk1,qk2]
theorem qk_bd (h:qkB q=true):q.num.natAbs<1000000000/\q.den<1000000000:=by
 have hk:=X3 h
 have h1:=ky (jT q.num.natAbs)
 have h2:=ky (jT q.den)
 rw[kl] at h1 h2
 refine⟨XG h1 (Xe ah hk.1),?_⟩
 rcases hk.2 with g|g
 ·rw[g];decide
 exact XG h2 (Xe ah g)
theorem ar_p {x y:Int} (hx:x.natAbs<1000000000) (hy:y.natAbs<1000000000): -1000000000000000000<=x*y/\x*y<=1000000000000000000:=by
 have h:(x*y).natAbs<=1000000000*1000000000:=by rw[JT];exact J7 aa aa
 omega
theorem ar_q (h1:qkB q=true) (h2:qkB r=true):(q.den:Int)*(r.den:Int)≠0/\(-1000000000000000000<=(q.den:Int)*(r.den:Int)/\(q.den:Int)*(r.den:Int)<=1000000000000000000)/\(-1000000000000000000<=q.num*(r.den:Int)/\q.num*(r.den:Int)<=1000000000000000000)/\(-1000000000000000000<=r.num*(q.den:Int)/\r.num*(q.den:Int)<=1000000000000000000)/\ -1000000000000000000<=q.num*r.num/\q.num*r.num<=1000000000000000000:=by
 have a:=qk_bd h1
 have b:=qk_bd h2
 have n1:=q.den_nz
 have n2:=r.den_nz
 exact⟨Jr aa aa,ar_p aa aa,ar_p aa aa,ar_p aa aa,ar_p aa aa⟩
theorem ar_0:(q.den:Int)*(r.den:Int)≠0:=by
 have n1:=q.den_nz
 have n2:=r.den_nz
 exact Jr aa aa
theorem dn_c (q:Rat):(((q.den:Nat):Int):Rat)≠0:=icast_ne aZ
theorem dn_e (q:Rat):q=(q.num:Rat) / (((q.den:Nat):Int):Rat):=(Rat.num_divInt_den q).symm.trans (X0 _ _)
theorem ad_1:frq (q.num*(r.den:Int)+r.num*(q.den:Int)) (((q.den:Nat):Int)*(r.den:Int))=q+r:=by
 unfold frq
 rw[JM,JO,JO,JO]
 conv=>rhs;rw[dn_e q,dn_e r]
 have h1:=dn_c q
 have h2:=dn_c r
 grind
theorem rmu_1:frq (q.num*r.num) (((q.den:Nat):Int)*(r.den:Int))=q*r:=by
 unfold frq
 rw[JO,JO]
 conv=>rhs;rw[dn_e q,dn_e r]
 grind
end
theorem un23:tab.underlying 23=some (.string):=ae
theorem w137 (q:Rat) (hl:(txt q).length<=900000):CKa 87 [vS (bsO (txt q))] (vI (j3 (Rat.num q))):=by
 refine cG qf87 Z (nB Z) Z (E Z (B.seqB Z Z) (Cp Z Z (fun h1=>?_) (fun h1=>?_)))
 ·exact Rt Z (lF Z dP)
 refine E Z (B.Zu Z un23) ?_
 refine Em Z Z Z Z ?_
 refine Eg Z Z (fun hc=>B.sidx (qr Z hc) Z un23 Z (show 0<List.length (txt q) from bh)) Z (Eg Z Z (fun hc=>B.eql (qr Z hc) Z) Z (E Z (B.pA Z Z Z Z Z) (Cb Z Z (fun h2=>?_) (fun h2=>?_))))
 ·exact Rt Z (lF Z dP)
 exact Rt Z (lF Z dP)
theorem w137z (z:Int) (hl:(Lib.itoa z).length<=900000):CKa 87 [vS (bsO (Lib.itoa z))] (vI (j3 z)):=by
 rw[itoa_txt] at hl ⊢
 exact w137 (z:Rat) hl
theorem w87 (q:Rat) (hl:(txt q).length<=900000):CKa 36 [vS (bsO (txt q))] (vS (bsO (txt (-q)))):=by
 refine cG qf36 Z (nB Z) Z (C Z (w137 q hl) Z Z Z (Cp Z Z (fun h1=>?_) (fun h1=>?_)))
 ·exact E Z (B.slLB Z Z un23 Z (by exact ng_l ab)) (Rt Z (lF Z dQ))
 refine C Z (w137 q hl) Z Z Z (Cp Z Z (fun h2=>?_) (fun h2=>?_))
 ·exact Rt Z (lF Z dQ)
 exact E Z (B.catB Z Z cd) (Rt Z (lF Z dQ))
theorem w63 (z:Int) (hl:(Lib.itoa z).length<=900000):CKa 140 [vS (bsO (Lib.itoa z))] (vS (bsO (decDigits (natAbs z)))):=by
 refine cG qf140 Z (nB Z) Z (C Z (w137z z hl) Z Z Z (Cp Z Z (fun h1=>?_) (fun h1=>?_)))
 ·exact E Z (B.slLB Z Z un23 Z (by exact ab_l ab)) (Rt Z (lF Z dR))
 exact Rt Z (lF Z dR)
theorem w207 (q:Rat) (hl:(txt q).length<=900000):CKa 141 [vS (bsO (txt q))] (vS (bsO (Lib.itoa (Rat.num q)))):=by
 exact cG qf141 Z (nB Z) Z (C Z (w193 (txt q) aa) Z Z Z (E Z (B.slHB Z Z un23 Z (by exact slN_le _)) (Rt Z (lF Z (by exact Wq (fun a=>vS (bsO a)) rnu_1)))))
theorem w208 (q:Rat) (hl:(txt q).length<=900000):CKa 142 [vS (bsO (txt q))] (vS (bsO (decDigits (Rat.den q)))):=by
 refine cG qf142 Z (nB Z) Z (C Z (w193 (txt q) aa) Z Z Z (E Z (B.Zu Z un23) (Cp Z Z (fun h1=>?_) (fun h1=>?_))))
 ·exact Rt Z (lF Z dS)
 exact E Z (B.add Z Z (by unfold R64;have:=slN_le (txt q);omega)) (E Z (B.slLB (i:=((slN (txt q))+1)) Z Z un23 aa (by have:=slN_le (txt q);omega)) (Rt Z (lF Z dS)))
theorem w141 (q:Rat) (hl:(txt q).length<=900000):CKa 129 [vS (bsO (txt q))] (vI (lgE q)):=by
 refine cG qf129 Z (nB Z) Z (C Z (w207 q hl) Z Z Z (C Z (w63 (Rat.num q) (nu_l hl)) Z Z Z (E Z (B.Zu Z un23) ?_)))
 refine Em Z Z Z Z ?_
 refine Eg Z Z (fun hc=>B.call (w208 q hl) Z (ds1 (qr Z hc)) Z) Z (Eg Z Z (fun hc=>B.Zu (qr Z hc) un23) Z (Eg Z Z (fun hc=>B.gtr (qr Z hc) Z) Z (E Z (B.pO Z Z Z Z Z) (Cb Z Z (fun h1=>?_) (fun h1=>?_)))))
 ·exact Rt Z (lF Z dT)
 exact Rt Z (lF Z dT)
theorem w67 (q r:Rat) (hs:sz q+sz r<=1000000):CKa 32 [vS (bsO (txt q)),vS (bsO (txt r))] (vS (bsO (txt (q+r)))):=by
 refine cG qf32 Z (nB Z) Z (C Z (w157 q (txt q) Z (ar_t aa)) Z Z Z (C Z (w157 r (txt r) Z (ar_t aa)) Z Z Z ?_))
 refine Em Z Z Z Z ?_
 refine E Z (B.pA Z Z Z Z Z) (Cb Z Z (fun h1=>?_) (fun h1=>?_))
 ·refine tk 4 Z ?_
  refine tn ⟨[(5,vI (qk1 q)),(6,vI (qk2 q)),(8,vI (qk1 r)),(9,vI (qk2 r))],[]⟩ rfl rfl Z ?_
  have hk:=qk_two h1
  rw[(qk_e hk.1).1,(qk_e hk.1).2,(qk_e hk.2).1,(qk_e hk.2).2]
  have hb:=ar_q hk.1 hk.2
  exact kc (E Z (B.mul Z Z bg) (E Z (B.mul Z Z bg) (E Z (B.add Z Z bg) (E Z (B.mul Z Z bg) (C Z (w59 (((Rat.num q)*((Rat.den r:Nat):Int))+((Rat.num r)*((Rat.den q:Nat):Int))) (((Rat.den q:Nat):Int)*((Rat.den r:Nat):Int)) hb.1 aa aa) Z Z Z (Rt Z (lF Z dU)))))))
 have z1:=sz_n q
 have z2:q0 (natAbs ((Rat.den q:Nat):Int))<=sz q:=sz_d q
 have z3:=sz_n r
 have z4:q0 (natAbs ((Rat.den r:Nat):Int))<=sz r:=sz_d r
 exact C Z (w158 q (ar_t aa)) Z Z Z (E Z (B.bN Z Z) (E Z (B.bN Z Z) (C Z (w158 r (ar_t aa)) Z Z Z (E Z (B.bN Z Z) (E Z (B.bN Z Z) (C Z (w160 (Rat.num q) ((Rat.den r:Nat):Int) (ar_n aa) (ar_d aa)) Z Z Z (C Z (w160 (Rat.num r) ((Rat.den q:Nat):Int) (ar_n aa) (ar_d aa)) Z Z Z (C Z (w159 ((Rat.num q)*((Rat.den r:Nat):Int)) ((Rat.num r)*((Rat.den q:Nat):Int)) (ar_m aa) (ar_m aa)) Z Z Z (C Z (w160 ((Rat.den q:Nat):Int) ((Rat.den r:Nat):Int) (ar_d aa) (ar_d aa)) Z Z Z (C Z (w152 (((Rat.num q)*((Rat.den r:Nat):Int))+((Rat.num r)*((Rat.den q:Nat):Int))) (((Rat.den q:Nat):Int)*((Rat.den r:Nat):Int)) ar_0 (ar_s aa) (ar_m aa)) Z Z Z (Dr Z ae (Rt Z (lF Z dU)))))))))))))
theorem w69 (q r:Rat) (hs:sz q+sz r<=1000000):CKa 33 [vS (bsO (txt q)),vS (bsO (txt r))] (vS (bsO (txt (q*r)))):=by
 refine cG qf33 Z (nB Z) Z (C Z (w157 q (txt q) Z (ar_t aa)) Z Z Z (C Z (w157 r (txt r) Z (ar_t aa)) Z Z Z ?_))
 refine Em Z Z Z Z ?_
 refine E Z (B.pA Z Z Z Z Z) (Cb Z Z (fun h1=>?_) (fun h1=>?_))
 ·refine tk 4 Z ?_
  refine tn ⟨[(5,vI (qk1 q)),(6,vI (qk2 q)),(8,vI (qk1 r)),(9,vI (qk2 r))],[]⟩ rfl rfl Z ?_
  have hk:=qk_two h1
  rw[(qk_e hk.1).1,(qk_e hk.1).2,(qk_e hk.2).1,(qk_e hk.2).2]
  have hb:=ar_q hk.1 hk.2
  exact kc (E Z (B.mul Z Z bg) (E Z (B.mul Z Z bg) (C Z (w59 ((Rat.num q)*(Rat.num r)) (((Rat.den q:Nat):Int)*((Rat.den r:Nat):Int)) hb.1 aa aa) Z Z Z (Rt Z (lF Z dV)))))
 have z1:=sz_n q
 have z2:q0 (natAbs ((Rat.den q:Nat):Int))<=sz q:=sz_d q
 have z3:=sz_n r
 have z4:q0 (natAbs ((Rat.den r:Nat):Int))<=sz r:=sz_d r
 exact C Z (w158 q (ar_t aa)) Z Z Z (E Z (B.bN Z Z) (E Z (B.bN Z Z) (C Z (w158 r (ar_t aa)) Z Z Z (E Z (B.bN Z Z) (E Z (B.bN Z Z) (C Z (w160 (Rat.num q) (Rat.num r) (ar_n aa) (ar_n aa)) Z Z Z (C Z (w160 ((Rat.den q:Nat):Int) ((Rat.den r:Nat):Int) (ar_d aa) (ar_d aa)) Z Z Z (C Z (w152 ((Rat.num q)*(Rat.num r)) (((Rat.den q:Nat):Int)*((Rat.den r:Nat):Int)) ar_0 (ar_m aa) (ar_m aa)) Z Z Z (Dr Z ae (Rt Z (lF Z dV)))))))))))
end Go.Lens.Tb
end
section
namespace Go.Lens.Tb
open Go.Proofs Go.Lens.Un
variable [Lz] [Dn]
attribute [local irreducible] TK PK T RG EfR Body CG
theorem w70t (i:Nat) (h:i<=100):CKa 64 [vI (i:Int)] (vS (bsO (txt ((i:Nat):Rat)))):=by
 have:=w70 (i:Int) bg
 rwa [itoa_txt] at this
abbrev eQt (q:Rat):List PV:=[pS (bsO (txt q))]
def lgF (e:Int) (l:List Rat):Int:=l.foldl (fun b q=>if b=0 then lgE q else b) e
section
variable {o l:List Rat} {k:Nat} {e b:Int}
theorem lgf_s (hk:k<l.length):lgF e (l.take (k+1))=if lgF e (l.take k)=0 then lgE (l.getD k 0) else lgF e (l.take k):=by
 unfold lgF
 rw[Qb hk,XT,ze,zm hk];rfl
theorem lgf_1 (h:b=lgF e (l.take k)) (hk:k<l.length) (h0:b=0):lgE (l.getD k 0)=lgF e (l.take (k+1)):=by rw[lgf_s hk,<-h,Wx h0]
theorem lgf_2 (h:b=lgF e (l.take k)) (hk:k<l.length) (h0:¬b=0):b=lgF e (l.take (k+1)):=by rw[lgf_s hk,<-h,Ww h0]
end
theorem lgF_0:∀ {l:List Rat} {b:Int},lgF b l=if b=0 then (bif l.any jF then 4 else 0) else b
 | [],b=>by unfold lgF;simp only[List.foldl_nil,Ks,Wj];split<;>simp_all
 | a::l,b=>by
  have ih:= @lgF_0 l
  have e:lgF b (a::l)=lgF (if b=0 then lgE a else b) l:=rfl
  rw[e,ih,Ke]
  unfold lgE
  by_cases h:b=0
  ·rw[Wx h,Wx h]
   cases jF a
   ·simp
   simp
  rw[Ww h,Ww h,Ww h]
theorem w44 (e:Int) (l:List Rat) (hl:l.length<=1000000) (hl2:∀ q∈l,(txt q).length<=900000):CKa 66 [vI e,vL eQt l] (vI (lgF e l)):=by
 refine cL 10 [] qf66 Z (nB Z) Z Z (kc (E Z (B.jo Z un56) (l2 (fun (k:Nat) (b:Int)=>[(0,vI b),(7,vL eQt l),(8,vI (l.length:Int)),(9,vI (k:Int))]) (fun _ _=>[]) (fun k b=>k<=l.length/\b=lgF e (take k l)) (fun k _=>l.length-k) 0 e Z ?_ (sb Z Z Z) ?_)))
 · exact⟨zt _,rfl⟩
 intro k b hI0
 refine Cp Z Z (fun h1=>?_) (fun h1=>?_)
 ·refine E Z (B.idx (z:=0) Z Z un56 sz23 (fun _=>rfl) Z aa) (Cp Z Z (fun h2=>?_) (fun h2=>?_))
  ·refine C Z (w141 (l.getD k 0) (hl2 _ (jf aa))) Z Z Z (E Z (B.add Z Z bg) (pk Z (L2 (k+1) (lgE (l.getD k 0)) ?_ ?_ (sb Z Z Z))))
   · first|exact⟨aa,lgf_1 hI0.2 aa ab⟩|exact⟨aa,lgf_2 hI0.2 aa ab⟩
   · omega
  refine E Z (B.add Z Z bg) (pk Z (L2 (k+1) b ?_ ?_ (sb Z Z Z)))
  · first|exact⟨aa,lgf_1 hI0.2 aa ab⟩|exact⟨aa,lgf_2 hI0.2 aa ab⟩
  · omega
 exact Rt Z (lL Z (by exact li c8))
abbrev eR (p:KI×Rat):List PV:=[pS (bsO (txt (snd p))),pI (fst (fst p)),pI (snd (fst p))]
def rrZ:KI×Rat:=((0,0),0)
def nfP (P:PL):PL:=(jd P).map fun k=>(k,cf P k)
def fiP (P:PL) (l:List KI):PL:=(l.filter fun k=>decide (cf P k≠0)).map fun k=>(k,cf P k)
def orR (P:PL) (n t:Nat):PL:=fiP P ((List.range n).flatMap rowK++(List.range t).map fun i=>(((n-i:Nat):Int),(i:Int)))
section
variable {n m low high:Int}
theorem wn_1 (h:(bif decide (n<low) then true else decide (high<n))=true):3=q7 n low high:=by
 unfold q7 outF je
 rcases dc_or h with h|h
 ·rw[zl h];rfl
 rw[zl h,Kj];rfl
theorem wn_2 (h:(bif decide (n<low) then true else decide (high<n))=false):0=q7 n low high:=by
 obtain⟨h1,h2⟩:=dc_no h
 unfold q7 outF je
 rw[zk h1,zk h2];rfl
end
section
variable {P o q:PL} {k n:Nat} {s:Rat} {i j:Int}
theorem gd_split (hk:k<P.length):P.take (k+1)=P.take k++[P.getD k rrZ]:=by
 rw[Qb hk,ze,zm hk];rfl
theorem szP_take:∀ (P:PL) (k:Nat),szP (P.take k)<=szP P
 | [],k=>by simp
 | p::l,0=>by have:=szP_pos (p::l);simpa [szP] using this
 | (a,c)::l,k+1=>by
  have:=szP_take l k
  simp only[Xq,szP]
  omega
theorem co_s (h:s=cf (P.take k) (i,j)) (hs:szP P<=500000) (hk:k<P.length):sz s+sz (snd (P.getD k rrZ))<=1000000:=by
 have a:=sz_cf (P.take k) (i,j)
 have b:=szP_take P k
 have c:=szP_mem (jf (z:=rrZ) hk)
 rw[h];omega
theorem cf_snoc (hk:k<P.length) (K:KI):cf (P.take (k+1)) K=cf (P.take k) K+(if (P.getD k rrZ).1=K then (P.getD k rrZ).2 else 0):=by
 rw[gd_split hk,cf_app]
 obtain⟨a,c⟩:=P.getD k rrZ
 rw[jC,cf_nil,KN]
theorem coe_1 (h:s=cf (P.take k) (i,j)) (hk:k<P.length) (hb:(bif decide (fst (fst (P.getD k rrZ))=i) then decide (snd (fst (P.getD k rrZ))=j) else false)=true):s+snd (P.getD k rrZ)=cf (P.take (k+1)) (i,j):=by
 have e:fst (P.getD k rrZ)=(i,j):=by
  obtain⟨h1,h2⟩:=qk_two hb
  exact Prod.ext (X3 h1) (X3 h2)
 rw[cf_snoc hk,Wx e,h]
theorem coe_2 (h:s=cf (P.take k) (i,j)) (hk:k<P.length) (hb:(bif decide (fst (fst (P.getD k rrZ))=i) then decide (snd (fst (P.getD k rrZ))=j) else false)=false):s=cf (P.take (k+1)) (i,j):=by
 have e:¬fst (P.getD k rrZ)=(i,j):=by
  intro e
  rw[e] at hb
  simp at hb
 rw[cf_snoc hk,Ww e,h,KN]
theorem or_len:∀ n t,t<=n+1->n<=33->(orR P n t).length<=1000:=by
 intro n t ht hn
 unfold orR fiP
 rw[zI]
 refine qc (QX _ _) ?_
 rw[za,zI,List.length_range]
 have h1:∀ n,n<=33->((List.range n).flatMap rowK).length<=900:=by decide +kernel
 have:=h1 n hn
 omega
theorem or_q (h:q=orR P n (toNat (((n:Nat):Int)-i))) (hi: -1<=i/\i<=(n:Int)) (hn:n<=33):q.length<=1000:=by rw[h];exact or_len _ _ aa hn
theorem or_step (t:Nat):orR P n (t+1)=orR P n t++(if cf P (((n-t:Nat):Int),(t:Int))=0 then [] else [((((n-t:Nat):Int),(t:Int)),cf P (((n-t:Nat):Int),(t:Int)))]):=by
 unfold orR fiP
 rw[List.range_succ,z8,<-zZ,Xx,z8]
 congr 1
 simp only[zy,zX]
 by_cases h:cf P (((n-t:Nat):Int),(t:Int))=0
 ·rw[Wx h];simp[h]
 rw[Ww h];simp[h]
theorem or_k (hi: -1<=i/\i<=(n:Int)) (h0:0<=i):orR P n (toNat (((n:Nat):Int)-(i-1)))=orR P n (toNat (((n:Nat):Int)-i))++(if cf P (i,(n:Int)-i)=0 then [] else [((i,(n:Int)-i),cf P (i,(n:Int)-i))]):=by
 rw[show toNat (((n:Nat):Int)-(i-1))=toNat (((n:Nat):Int)-i)+1 by omega,or_step,show ((n-toNat (((n:Nat):Int)-i):Nat):Int)=i by omega,show ((toNat (((n:Nat):Int)-i):Nat):Int)=(n:Int)-i by omega]
theorem or_t (h:q=orR P n (toNat (((n:Nat):Int)-i))) (hi: -1<=i/\i<=(n:Int)) (h0:0<=i) (hb:(!(decide (cf P (i,(n:Int)-i)=0)))=true):q++[((i,(n:Int)-i),cf P (i,(n:Int)-i))]=orR P n (toNat (((n:Nat):Int)-(i-1))):=by
 rw[or_k hi h0,Ww aM,h]
theorem or_f (h:q=orR P n (toNat (((n:Nat):Int)-i))) (hi: -1<=i/\i<=(n:Int)) (h0:0<=i) (hb:(!(decide (cf P (i,(n:Int)-i)=0)))=false):q=orR P n (toNat (((n:Nat):Int)-(i-1))):=by
 rw[or_k hi h0,Wx aM,h,zR]
theorem or_n (h:q=orR P n (toNat (((n:Nat):Int)-i))) (hi:i= -1):q=orR P (n+1) 0:=by
 rw[h,hi,show toNat (((n:Nat):Int) - -1)=n+1 by omega]
 have e:(List.range (n+1)).flatMap rowK=(List.range n).flatMap rowK++rowK n:=by rw[List.range_succ,Xi];simp
 unfold orR
 rw[e,List.range_zero,zX,zR];rfl
theorem or_e (h:o=orR P n 0) (hn:n=33):o=nfP P:=by
 rw[h,hn]
 unfold orR nfP fiP jd keys32
 rw[List.range_zero,zX,zR]
end
theorem fa63_0:fadQ tab 63 0=some 0:=ae
theorem fa63_1:fadQ tab 63 1=some 1:=ae
theorem fa63_2:fadQ tab 63 2=some 2:=ae
theorem w62b (s:Nb):CKa 60 [vS (bsO s)] (vB (decide (s=[48]))):=by
 exact cG qf60 Z (nB Z) Z (E Z (B.seqB Z Z) (Rt Z (lF Z Z)))
theorem w62 (q:Rat):CKa 60 [vS (bsO (txt q))] (vB (decide (q=0))):=by
 have h:=w62b (txt q)
 rwa [tz_b] at h
theorem w27 (l:List Int) (hl:l.length<=1000000000000000):CKa 14 [vL eI l] (vI (qB l)):=by
 refine cG qf14 Z (nB Z) Z (l1 (fun (k:Nat)=>[(0,vL eI l),(3,vI (k:Int))]) (fun _=>[]) (fun k=>k<=l.length/\qB l=qB (drop k l)) (fun k=>l.length-k) 0 Z ?_ (sb Z Z Z) ?_)
 · exact⟨zt _,rfl⟩
 intro k hI0
 refine E Z (B.jo Z jt) (Cp Z Z (fun h1=>?_) (fun h1=>?_))
 ·refine E Z (B.idx (z:=0) Z Z jt sz3 (fun _=>rfl) Z aa) (Cp Z Z (fun h2=>?_) (fun h2=>?_))
  ·exact E Z (B.idx (z:=0) Z Z jt sz3 (fun _=>rfl) Z aa) (Rt Z (lF Z (li cm)))
  refine E Z (B.add Z Z bg) (pk Z (L1 (k+1) ?_ ?_ (sb Z Z Z)))
  · (refine⟨aa,?_⟩;rw[hI0.2,drop_at l k 0 aa,qB,Wx aa])
  · omega
 exact Rt Z (lF Z (li cm))
theorem w105 (n low high:Int):CKa 61 [vI n,vI low,vI high] (vI (q7 n low high)):=by
 refine cG qf61 Z (nB Z) Z ?_
 refine Em Z Z Z Z ?_
 refine Em Z Z Z Z ?_
 refine Eg Z Z (fun hc=>B.gtr (qr Z hc) (qr Z hc)) Z (E Z (B.pO Z Z Z Z Z) (Cb Z Z (fun h1=>?_) (fun h1=>?_)))
 ·exact Rt Z (lF Z (li dW))
 exact Rt Z (lF Z (li dW))
theorem w196 (P:PL) (i j:Int) (hl:P.length<=1000000) (hs:szP P<=500000):CKa 128 [vL eR P,vI i,vI j] (vS (bsO (txt (cf P (i,j))))):=by
 refine cG qf128 Z (nB Z) Z (l2 (fun (k:Nat) (s:Rat)=>[(0,vL eR P),(1,vI i),(2,vI j),(7,vS (bsO (txt s))),(8,vI (k:Int))]) (fun _ _=>[]) (fun k s=>k<=P.length/\s=cf (take k P) (i,j)) (fun k _=>P.length-k) 0 0 Z ?_ (sb ae Z Z) ?_)
 · exact⟨zt _,rfl⟩
 intro k s hI0
 refine E Z (B.jo Z un22) (Cp Z Z (fun h1=>?_) (fun h1=>?_))
 ·refine E Z (B.idx (z:=rrZ) Z Z un22 sz63 (fun _=>rfl) Z aa) ?_
  refine Em Z Z Z Z ?_
  refine Em Z Z Z Z ?_
  refine Eg Z Z (fun hc=>B.idx (z:=rrZ) (qr Z hc) (qr Z hc) un22 sz63 (fun _=>rfl) Z aa) Z (Eg Z Z (fun hc=>B.fadP (qr Z hc) fa63_2 Z) Z (Eg Z Z (fun hc=>B.loadP (qr Z hc) ag3 sz3) Z ?_))
  refine Em Z Z Z Z ?_
  refine Eg Z Z (fun hc=>B.eql (qr Z hc) (qr Z hc)) Z (E Z (B.pA Z Z Z Z Z) (Cb Z Z (fun h2=>?_) (fun h2=>?_)))
  ·refine E Z (B.idx (z:=rrZ) Z Z un22 sz63 (fun _=>rfl) Z aa) (C Z (w67 s (snd (getD P k rrZ)) (co_s hI0.2 hs aa)) Z Z Z (E Z (B.add Z Z bg) (pk Z (L2 (k+1) (s+(snd (getD P k rrZ))) ?_ ?_ (sb Z Z Z)))))
   · first|exact⟨aa,coe_1 hI0.2 aa ab⟩|exact⟨aa,coe_2 hI0.2 aa ab⟩
   · omega
  refine E Z (B.add Z Z bg) (pk Z (L2 (k+1) s ?_ ?_ (sb Z Z Z)))
  · first|exact⟨aa,coe_1 hI0.2 aa ab⟩|exact⟨aa,coe_2 hI0.2 aa ab⟩
  · omega
 exact Rt Z (lF Z c8)
theorem w123 (P:PL) (hl:P.length<=1000000) (hs:szP P<=500000):CKa 65 [vL eR P] (vL eR (nfP P)):=by
 refine cL 10 [] qf65 Z (nB Z) Z Z (kc (E Z (B.ZX (enc:=eR) Z) (E Z (B.adopt 13 3 63 Z Z) (l3 (fun (n:Nat) (v:Nat) (o:PL)=>[(0,vL eR P),(3,.aref 13 v),(4,vI (n:Int))]) (fun _ v o=>[(13,.arr v 3 63 (List.map eR o))]) (fun n v o=>n<=33/\v=o.length/\o=orR P n 0) (fun n _ _=>33-n) 0 0 [] Z ?_ (sb Z Z Z) ?_))))
 · exact⟨zt _,rfl,rfl⟩
 intro n v o hI0
 refine Cp Z Z (fun h1=>?_) (fun h1=>?_)
 ·refine l3 (fun (i:Int) (u:Nat) (q:PL)=>[(0,vL eR P),(3,.aref 13 u),(4,vI (n:Int)),(5,vI i)]) (fun _ u q=>[(13,.arr u 3 63 (List.map eR q))]) (fun i u q=>(-1<=i/\i<=(n:Int))/\u=q.length/\q=orR P n (toNat (((n:Nat):Int)-i))) (fun i _ _=>toNat (i+1)) (n:Int) v o Z ?_ (sb Z Z Z) ?_
  · (exact⟨⟨aa,KR _⟩,hI0.2.1,by rw[hI0.2.2,Int.sub_self];rfl⟩)
  intro i u q hI1
  have hq:=or_q hI1.2.2 hI1.1 hI0.1
  refine Cp Z Z (fun h2=>?_) (fun h2=>?_)
  ·refine E Z (B.sub Z Z bg) (C Z (w196 P i (((n:Nat):Int)-i) hl hs) Z Z Z (C Z (w62 (cf P (i,(((n:Nat):Int)-i)))) Z Z Z (Cb Z Z (fun h3=>?_) (fun h3=>?_))))
   ·refine E Z (B.sub Z Z bg) (E Z (B.run (val:=.pv (.agg [pS (bsO (txt (cf P (i,(((n:Nat):Int)-i))))),pI i,pI (((n:Nat):Int)-i)])) (m:=[]) (rd:=[]) ae) (E Z (B.runZ (val:=.pv (.slice (List.map eR [(((i),(((n:Int)-i))),((cf P (i,(((n:Nat):Int)-i))):Rat))]))) (m0:=[(42,.arr 0 3 63 [[pS (bsO (txt (snd (((i),(((n:Int)-i))),((cf P (i,(((n:Nat):Int)-i))):Rat))))),pI (fst (fst (((i),(((n:Int)-i))),((cf P (i,(((n:Nat):Int)-i))):Rat)))),pI (snd (fst (((i),(((n:Int)-i))),((cf P (i,(((n:Nat):Int)-i))):Rat))))]])]) (rd:=[]) ae (fun l=>Frz.arr l _ _ _ _ _) Z) (E Z (B.append Z Z Z un22 in63 Z (fun _=>rfl) by63 cd) (E Z (B.sub Z Z bg) (pk Z (L3 (i-1) (u+1) (q++[(((i),(((n:Int)-i))),((cf P (i,(((n:Nat):Int)-i))):Rat))]) ?_ ?_ (sb Z Z Z)))))))
    · (first|exact⟨⟨aa,aa⟩,by rw[hI1.2.1,za];rfl,or_t hI1.2.2 hI1.1 aa ab⟩|exact⟨⟨aa,aa⟩,hI1.2.1,or_f hI1.2.2 hI1.1 aa ab⟩)
    · omega
   refine E Z (B.sub Z Z bg) (pk Z (L3 (i-1) u q ?_ ?_ (sb Z Z Z)))
   · (first|exact⟨⟨aa,aa⟩,by rw[hI1.2.1,za];rfl,or_t hI1.2.2 hI1.1 aa ab⟩|exact⟨⟨aa,aa⟩,hI1.2.1,or_f hI1.2.2 hI1.1 aa ab⟩)
   · omega
  refine E Z (B.add Z Z bg) (pk Z (L3 (n+1) u q ?_ ?_ (sb Z Z Z)))
  · exact⟨aa,hI1.2.1,or_n hI1.2.2 aa⟩
  · omega
 exact Fz 11 3 Z Z Z (Rt Z (lL Z (by exact lsl (or_e hI0.2.2 aa))))
structure RfOk (P:PL):Prop where
 k:∀ p∈P,(0<=p.1.1/\p.1.1<=1000)/\0<=p.1.2/\p.1.2<=1000
 l:P.length<=700
 s:szP P<=240000
def trR (p:KI×Rat):Trm:=⟨txt p.2,p.1.1,p.1.2⟩
def samB (F:List Trm) (e b:Int) (W:PL):Bool:=decide (e=lgF b (W.map snd))&&decide (F=(if lgF b (W.map snd)≠0 then [] else W).map trR)
instance {P:PL}:Decidable (RfOk P):=decidable_of_iff ((∀ p∈P,(0<=p.1.1/\p.1.1<=1000)/\0<=p.1.2/\p.1.2<=1000)/\P.length<=700/\szP P<=240000) ⟨fun h=>⟨h.1,h.2.1,h.2.2⟩,fun h=>⟨h.k,h.l,h.s⟩⟩
section
variable {P W:PL} {o l:List Rat} {k:Nat} {e b:Int} {F:List Trm}
theorem cs_1 (h:o=List.map snd (take k P)) (hk:k<P.length):o++[snd (P.getD k rrZ)]=List.map snd (take (k+1) P):=by
 rw[gd_split hk,z8,h];rfl
theorem trR_m (W:PL):vL eR W=vL eY (W.map trR):=by
 show DV.pv (.slice (List.map eR W))=.pv (.slice (List.map eY (List.map trR W)))
 rw[Kt];rfl
theorem w86r (F:List Trm) (W:PL) (h1:F.length<=1000000) (h2:W.length<=1000000):CKa 34 [vL eY F,vL eR W] (vB (decide (F=W.map trR))):=by
 rw[trR_m];exact w86 F _ h1 (by rw[zI];exact h2)
theorem sam_1 (h:lgF b (W.map snd)≠0):(bif decide (e=lgF b (W.map snd)) then decide (F=List.map trR []) else false)=samB F e b W:=by
 unfold samB;rw[Wx h];cases decide (e=lgF b (W.map snd))<;>rfl
theorem sam_2 (h:¬lgF b (W.map snd)≠0):(bif decide (e=lgF b (W.map snd)) then decide (F=List.map trR W) else false)=samB F e b W:=by
 unfold samB;rw[Ww h];cases decide (e=lgF b (W.map snd))<;>rfl
end
theorem w109 (P:PL) (hl:P.length<=1000000):CKa 67 [vL eR P] (vL eQt (List.map snd P)):=by
 refine cL 10 [] qf67 Z (nB Z) Z Z (kc (E Z (B.ZX (enc:=eQt) Z) (E Z (B.adopt 13 1 23 Z Z) (E Z (B.jo Z un22) (l2 (fun (k:Nat) (o:List Rat)=>[(3,.aref 13 k),(6,vL eR P),(7,vI (List.length P:Int)),(8,vI (k:Int))]) (fun k o=>[(13,.arr k 1 23 (List.map eQt o))]) (fun k o=>k<=P.length/\o=List.map snd (take k P)) (fun k _=>P.length-k) 0 [] Z ?_ (sb Z Z Z) ?_)))))
 · exact⟨zt _,rfl⟩
 intro k o hI0
 have hol:o.length=k:=by rw[hI0.2,zI,zn];omega
 refine Cp Z Z (fun h1=>?_) (fun h1=>?_)
 ·refine E Z (B.idx (z:=rrZ) Z Z un22 sz63 (fun _=>rfl) Z cd) (E Z (B.runZ (val:=.pv (.slice (List.map eQt [(snd (getD P k rrZ))]))) (m0:=[(25,.arr 0 1 23 [[pS (bsO (txt (snd (getD P k rrZ))))]])]) (rd:=[]) ae (fun l=>Frz.arr l _ _ _ _ _) Z) (E Z (B.append Z Z Z un56 in23 Z (fun _=>rfl) by23 cd) (E Z (B.add Z Z bg) (pk Z (L2 (k+1) (o++[(snd (getD P k rrZ))]) ?_ ?_ (sb Z Z Z))))))
  · exact⟨aa,cs_1 hI0.2 aa⟩
  · omega
 exact Fz 7 3 Z Z Z (Rt Z (lL Z (by exact lsl c8)))
theorem w19 (F:List Trm) (e b:Int) (W:PL) (hlf:F.length<=1000000) (hlw:W.length<=1000000) (hw:∀ q∈List.map snd W,(txt q).length<=900000):CKa 20 [vL eY F,vI e,vI b,vL eR W] (vB (samB F e b W)):=by
 refine cL 10 [] qf20 Z (nB Z) Z Z (kc (C Z (w109 W hlw) Z Z Z (C Z (w44 b (List.map snd W) (by rw[zI];exact hlw) hw) Z Z Z (Cp Z Z (fun h1=>?_) (fun h1=>?_)))))
 ·refine E Z (B.ZX (enc:=eR) Z) ?_
  refine Em Z Z Z Z ?_
  refine Eg Z Z (fun hc=>B.call (w58 F hlf) Z (ds1 (qr Z hc)) Z) Z ?_
  refine Em Z Z Z Z ?_
  exact Eg Z Z (fun hc=>B.call (w86r F [] hlf ah) Z (ds2 (qr Z hc) (qr Z hc)) Z) Z (E Z (B.pA Z Z Z Z Z) (Rt Z (lL Z (by exact lb dX))))
 refine Em Z Z Z Z ?_
 refine Eg Z Z (fun hc=>B.call (w58 F hlf) Z (ds1 (qr Z hc)) Z) Z ?_
 refine Em Z Z Z Z ?_
 exact Eg Z Z (fun hc=>B.call (w86r F W hlf hlw) Z (ds2 (qr Z hc) (qr Z hc)) Z) Z (E Z (B.pA Z Z Z Z Z) (Rt Z (lL Z (by exact lb dX))))
end Go.Lens.Tb
end
section
namespace Go.Lens.Tb
open Go.Proofs Go.Lens.Un
variable [Lz] [Dn]
attribute [local irreducible] TK PK T RG EfR Body CG
open Un.R
def dgB (s:Nb):Bool:=s.all fun c=>decide (48<=c.toNat)&&decide (c.toNat<=57)
section
variable {s D:Nb} {i:Nat} {b:Bool} {C0:Int}
theorem dgb_iff:dgB s=true↔Dgs s:=by
 unfold dgB Dgs
 grind
theorem dgb_s (hi:i<s.length):dgB (drop i s)=(decide (48<=byteAt (bsO s) i)&&decide (byteAt (bsO s) i<=57)&&dgB (drop (i+1) s)):=by grind [List.drop_eq_getElem_cons,by_at,dgB]
theorem dgb_n (e:dgB s=dgB (drop i s)) (hi:i<s.length) (h:(bif decide (byteAt (bsO s) i<48) then true else decide (57<byteAt (bsO s) i))=false):dgB s=dgB (drop (i+1) s):=by grind [dgb_s,decide_eq_true]
theorem dgb_f (e:dgB s=dgB (drop i s)) (hi:i<s.length) (h:(bif decide (byteAt (bsO s) i<48) then true else decide (57<byteAt (bsO s) i))=true):false=dgB s:=by
 rw[e,dgb_s hi]
 grind
theorem dgb_e (e:dgB s=dgB (drop i s)) (hi:s.length<=i):true=dgB s:=by rw[e,zV hi];rfl
theorem cano_d:kh s=(decide (s≠[])&&dgB s&&(decide (s.head?≠some 48)||decide (s=[48]))):=by
 unfold kh
 rw[show decide (Lib.trimS s kW=[])=dgB s from zL.2 (by rw[zf,trim_nil,dgb_iff])]
theorem df_1 (h:(bif decide (((s.length:Nat):Int)=0) then true else bif decide (1<(s.length:Int)) then decide (byteAt (bsO s) 0=48) else false)=true):false=kh s:=by
 symm
 cases hc:kh s with
 | false=>rfl
 | true=>
  have hc:=canoB_iff.1 hc
  cases s with
  | nil=>exact absurd Z hc.2.1
  | cons c l=>
   have e1:decide ((((c::l).length:Nat):Int)=0)=false:=zk d5
   rw[e1,Wj] at h
   obtain⟨h1,h2⟩:=qk_two h
   have h1:=X3 h1
   have h2:=X3 h2
   rw[by_at (show 0<(c::l).length by simp)] at h2
   have e:c=48:=JR.1 (show c.toNat=48 by simp only[QR] at h2;omega)
   have:=hc.2.2 (by rw[e];rfl)
   omega
theorem df_2 (h:(bif decide (((s.length:Nat):Int)=0) then true else bif decide (1<(s.length:Int)) then decide (byteAt (bsO s) 0=48) else false)=false):dgB s=kh s:=by
 rw[cano_d]
 cases s with
 | nil=>cases h
 | cons c l=>
  have e1:decide ((((c::l).length:Nat):Int)=0)=false:=zk d5
  rw[e1,Wj] at h
  have e2:(decide ((c::l).head?≠some 48)||decide (c::l=[48]))=true:=by
   by_cases hc:c=48
   ·cases l with
    | nil=>rw[hc];rfl
    | cons d l=>
     rw[hc,by_at (show 0<((48:UInt8)::d::l).length by simp),zl (show (1:Int)<_ by simp only[zb];omega)] at h
     simp only[QR] at h
     cases h
   grind
  grind
theorem dgs_t (h:Dgs s):qD s [45]=s:=by unfold qD;rw[hp_dg h];rfl
theorem w217d (s:Nb) (h:Dgs s) (hl:s.length<=900000):CKa 146 [vS (bsO s)] (.pv (.agg [pB (decide ((((jm s):Nat):Int)<0)),pL eI (iL (dig K9 (natAbs (((jm s):Nat):Int))))])):=by
 have g:=w217 s (by rw[dgs_t h];exact h) hl
 have e:rdZ s=((jm s:Nat):Int):=by unfold rdZ;rw[dgs_t h,hp_dg h];rfl
 rwa [e] at g
theorem cut_sl (D:Nb):qW D=(D.take (slN D),D.drop (slN D+1),decide (slN D<D.length)):=by
 by_cases h:(47:UInt8)∈D
 ·obtain⟨a,t,e,ha⟩:=List.eq_append_cons_of_mem h
  have ha:∀ x∈a,x≠47:=fun x hx e=>ha (e▸hx)
  rw[e,cut_at ha,sl_at ha,J3,<-List.drop_drop,JY,zl ao];rfl
 grind [cut_no,sl_no,List.take_length,List.drop_eq_nil_of_le,decide_eq_false]
end
section
variable {s D X:Nb} {i n:Nat} {b:Bool} {C0:Int}
theorem gk_t (hD:D=qD s [45]) (h:(bif decide (0<(s.length:Int)) then decide (byteAt (bsO s) 0=45) else false)=true):drop 1 s=D:=(pr_t h).symm.trans hD.symm
theorem gk_f (hD:D=qD s [45]) (h:(bif decide (0<(s.length:Int)) then decide (byteAt (bsO s) 0=45) else false)=false):s=D:=(pr_f h).symm.trans hD.symm
theorem gk_0 (h:kh (D.take (slN D))=true):0<D.length:=by
 have:=(canoB_iff.1 h).2.1
 grind
theorem gk_xt (h:(bif decide (0<(s.length:Int)) then decide (byteAt (bsO s) 0=45) else false)=true):kh (D.take (slN D))=true->decide (byteAt (bsO s) 0=45)=true:=fun _=>(qk_two h).2
theorem gk_xf (hD:D=qD s [45]) (h:(bif decide (0<(s.length:Int)) then decide (byteAt (bsO s) 0=45) else false)=false):kh (D.take (slN D))=true->decide (byteAt (bsO D) 0=45)=false:=fun hc=>by
 have:=gk_0 hc
 rw[gk_f hD h,zl (show (0:Int)<_ by omega)] at h
 exact h
theorem gk_F1 (hx:kh (D.take (slN D))=true->decide (byteAt (bsO X) 0=45)=b) (h:(bif !kh (D.take (slN D)) then true else bif decide (byteAt (bsO X) 0=45) then decide (D.take (slN D)=[48]) else false)=false):Dgs (D.take (slN D))/\kh (D.take (slN D))=true/\(!b||decide (D.take (slN D)≠[48]))=true:=by
 cases hc:kh (D.take (slN D)) with
 | false=>rw[hc] at h;cases h
 | true=>
  rw[hc,hx hc] at h
  refine⟨(canoB_iff.1 hc).1,rfl,?_⟩
  grind
theorem gk_F2 (h:(bif decide (((slN D:Nat):Int)<(D.length:Int)) then bif bif !kh (D.drop (slN D+1)) then true else decide (D.drop (slN D+1)=[48]) then true else decide (D.drop (slN D+1)=[49]) else false)=false) (hl:slN D<D.length):Dgs (D.drop (slN D+1))/\kh (D.drop (slN D+1))=true/\D.drop (slN D+1)≠[48]/\D.drop (slN D+1)≠[49]:=by
 rw[zl (show ((slN D:Nat):Int)<(D.length:Int) by omega)] at h
 cases hc:kh (D.drop (slN D+1)) with
 | false=>rw[hc] at h;cases h
 | true=>
  rw[hc] at h
  have h:=dc_no h
  exact⟨(canoB_iff.1 hc).1,rfl,h.1,h.2⟩
theorem gk_ff (hD:D=qD s [45]) (hb:j9 s [45]=b):jZ s=((kh (D.take (slN D))&&(!b||decide (D.take (slN D)≠[48])))&&(!decide (slN D<D.length)||(kh (D.drop (slN D+1))&&decide (D.drop (slN D+1)≠[48])&&decide (D.drop (slN D+1)≠[49])))):=by
 unfold jZ
 rw[<-hD,cut_sl,hb]
theorem gk_ft (hD:D=qD s [45]) (hb:j9 s [45]=b) (F1:Dgs (D.take (slN D))/\kh (D.take (slN D))=true/\(!b||decide (D.take (slN D)≠[48]))=true) (F2:slN D<D.length->Dgs (D.drop (slN D+1))/\kh (D.drop (slN D+1))=true/\D.drop (slN D+1)≠[48]/\D.drop (slN D+1)≠[49]):jZ s=true:=by
 rw[gk_ff hD hb,F1.2.1,F1.2.2]
 grind
theorem jy (hD:D=qD s [45]) (hsl:slN D<=D.length) (B:Bool) (h:(bif decide (600<((slN D:Nat):Int)) then true else decide (600<(D.length:Int)-((slN D:Nat):Int)-1))=B):ZA s=B:=by grind [ZA,cut_sl,bif_or2,List.length_take,List.length_drop]
theorem ch_1 (hE:C0=q9 s) (h:jZ s=false):1=C0:=by rw[hE,q9,Wx h]
theorem gk_A (hE:C0=q9 s) (hD:D=qD s [45]) (hb:j9 s [45]=b) (hx:kh (D.take (slN D))=true->decide (byteAt (bsO X) 0=45)=b) (h:(bif !kh (D.take (slN D)) then true else bif decide (byteAt (bsO X) 0=45) then decide (D.take (slN D)=[48]) else false)=true):1=C0:=by
 refine ch_1 hE ?_
 rw[gk_ff hD hb]
 grind
theorem gk_B (hE:C0=q9 s) (hD:D=qD s [45]) (hb:j9 s [45]=b) (h:(bif decide (((slN D:Nat):Int)<(D.length:Int)) then bif bif !kh (D.drop (slN D+1)) then true else decide (D.drop (slN D+1)=[48]) then true else decide (D.drop (slN D+1)=[49]) else false)=true):1=C0:=by
 refine ch_1 hE ?_
 obtain⟨h1,h2⟩:=qk_two h
 have h1:=X3 h1
 rw[gk_ff hD hb,zl (show slN D<D.length by omega)]
 grind
theorem gk_C (hE:C0=q9 s) (hf:jZ s=true) (hl:ZA s=true):4=C0:=by rw[hE,q9,Ww (by rw[hf];decide),Wx hl]
theorem ch_3 (hE:C0=q9 s) (hD:D=qD s [45]) (hf:jZ s=true) (hl:ZA s=false):C0=if (decide (slN D<D.length)&&decide (gcd (jm (D.take (slN D))) (jm (D.drop (slN D+1)))≠1))=true then 1 else 0:=by rw[hE,q9,Ww (by rw[hf];decide),Ww (by rw[hl];decide),<-hD,cut_sl]
theorem gk_1 (h1:(iL (dig K9 n)).length=1) (h2:(iL (dig K9 n)).getD 0 0=1):n=1:=by
 have e:=qM (show 2<=K9 by decide) n
 unfold iL at h1 h2
 generalize dig K9 n=l at*
 match l,h1,h2,e with
 | [x],_,h2,e=>
  have:x=1:=Int.ofNat.inj h2
  rw[<-e,this];rfl
theorem gk_D (hE:C0=q9 s) (hD:D=qD s [45]) (hf:jZ s=true) (hl:ZA s=false) (h5:((slN D:Nat):Int)<(D.length:Int)) (h:(bif decide ((((iL (dig K9 (gcd (jm (D.take (slN D))) (jm (D.drop (slN D+1)))))).length:Nat):Int)≠1) then true else decide ((iL (dig K9 (gcd (jm (D.take (slN D))) (jm (D.drop (slN D+1)))))).getD 0 0≠1))=true):1=C0:=by
 rw[ch_3 hE hD hf hl,Wx]
 rw[zl (show slN D<D.length by omega),Kb]
 refine zl fun e=>?_
 rw[e] at h
 rw[jY ah ah ah] at h
 exact absurd h ah
theorem gk_E (hE:C0=q9 s) (hD:D=qD s [45]) (hf:jZ s=true) (hl:ZA s=false) (h:(bif decide ((((iL (dig K9 (gcd (jm (D.take (slN D))) (jm (D.drop (slN D+1)))))).length:Nat):Int)≠1) then true else decide ((iL (dig K9 (gcd (jm (D.take (slN D))) (jm (D.drop (slN D+1)))))).getD 0 0≠1))=false):0=C0:=by
 obtain⟨h1,h2⟩:=dc_no h
 have g:=gk_1 aa (zi.1 h2)
 rw[ch_3 hE hD hf hl,Ww]
 grind
theorem gk_G (hE:C0=q9 s) (hD:D=qD s [45]) (hf:jZ s=true) (hl:ZA s=false) (h5:¬((slN D:Nat):Int)<(D.length:Int)):0=C0:=by rw[ch_3 hE hD hf hl,zk (show ¬slN D<D.length by omega),Ww ao]
theorem gk_l {t:Nb} (h:Dgs t) (hl:t.length<=10000):(dig K9 (natAbs ((jm t:Nat):Int))).length<=100000:=by
 have h1:=ky h
 have h2:10 ^ t.length<=K9 ^ t.length:=Xt ah _
 have:=ja (show 2<=K9 by decide) (XG h1 h2)
 rw[Xw];omega
theorem gk_g (h:(decide ((((iL (dig K9 n)).length:Nat):Int)≠1)==false)=true):0<(iL (dig K9 n)).length:=by grind
theorem gk_n (h:((!kh (D.take (slN D)))==false)=true):0<D.length:=gk_0 (by revert h;cases kh (D.take (slN D))<;>decide)
end
theorem w249 (s:Nb) (hl:s.length<=1000000000):CKa 190 [vS (bsO s)] (vB (dgB s)):=by
 refine cG qf190 Z (nB Z) Z (l1 (fun (i:Nat)=>[(0,vS (bsO s)),(3,vI (i:Int))]) (fun _=>[]) (fun i=>i<=s.length/\dgB s=dgB (drop i s)) (fun i=>s.length-i) 0 Z ?_ (sb Z Z Z) ?_)
 · exact⟨zt _,rfl⟩
 intro i hI0
 refine E Z (B.Zu Z un9) (Cp Z Z (fun h1=>?_) (fun h1=>?_))
 ·refine E Z (B.sidx Z Z un9 Z (show i<List.length s from aa)) ?_
  refine Em Z Z Z Z ?_
  refine Em Z Z Z Z ?_
  refine Eg Z Z (fun hc=>B.sidx (qr Z hc) (qr Z hc) un9 Z (show i<List.length s from aa)) Z (Eg Z Z (fun hc=>B.gtr (qr Z hc) Z) Z (E Z (B.pO Z Z Z Z Z) (Cb Z Z (fun h2=>?_) (fun h2=>?_))))
  ·exact Rt Z (lF Z dY)
  refine E Z (B.add Z Z bg) (pk Z (L1 (i+1) ?_ ?_ (sb Z Z Z)))
  · exact⟨aa,dgb_n hI0.2 aa ab⟩
  · omega
 exact Rt Z (lF Z dY)
theorem w194 (s:Nb) (hl:s.length<=1000000000):CKa 123 [vS (bsO s)] (vB (kh s)):=by
 refine cG qf123 Z (nB Z) Z (E Z (B.Zu Z un9) ?_)
 refine Em Z Z Z Z ?_
 refine Eg Z Z (fun hc=>B.Zu (qr Z hc) un9) Z (Eg Z Z (fun hc=>B.gtr (qr Z hc) Z) Z (Eg Z Z (fun hc=>B.move (qr Z hc)) Z ?_))
 refine Em Z Z Z Z ?_
 refine Eg Z Z (fun hc=>B.sidx (qr Z hc) Z un9 Z (show 0<List.length s from (by have hc2:=hc;simp at hc2;omega))) Z (Eg Z Z (fun hc=>B.eql (qr Z hc) Z) Z (Eg Z Z (fun hc=>B.pick (qr Z hc) Z Z (gdB Z) Z (pick_and2 hc)) Z (E Z (B.pO Z Z Z Z Z) (Cb Z Z (fun h1=>?_) (fun h1=>?_)))))
 ·exact Rt Z (lF Z dZ)
 exact C Z (w249 s hl) Z Z Z (Rt Z (lF Z dZ))
theorem w158g (D:Nb) (hd1:Dgs (take (slN D) D)) (hd2:Dgs (drop (slN D+1) D)) (hs:slN D<D.length) (hl:D.length<=10000):CKa 83 [vS (bsO D)] (.tup [.pv (.agg [pB (decide (((jm (take (slN D) D):Nat):Int)<0)),pL eI (iL (dig K9 (natAbs ((jm (take (slN D) D):Nat):Int))))]),.pv (.agg [pB (decide (((jm (drop (slN D+1) D):Nat):Int)<0)),pL eI (iL (dig K9 (natAbs ((jm (drop (slN D+1) D):Nat):Int))))])]):=by
 refine cG qf83 Z (nB Z) Z (E Z (B.bN Z Z) (E Z (B.bN Z Z) (C Z (w193 D aa) Z Z Z (E Z (B.Zu Z un9) (Cp Z Z (fun h1=>?_) (fun h1=>?_))))))
 ·exact absurd h1 aa
 exact E Z (B.slHB Z Z un9 Z aa) (C Z (w217d (take (slN D) D) hd1 cJ) Z Z Z (E Z (B.add Z Z bg) (E Z (B.slLB (i:=((slN D)+1)) Z Z un9 aa aa) (C Z (w217d (drop ((slN D)+1) D) hd2 d8) Z Z Z (Dr Z ae (Rt Z (lF Z (by first|rfl|rw[hE]))))))))
theorem w120 (s:Nb) (hl:s.length<=10000):CKa 59 [vS (bsO s)] (vI (q9 s)):=by
 refine cG qf59 Z (nB Z) Z ?_
 refine tk 2 Z ?_
 refine tn ⟨[(0,vS (bsO s)),(3,vS (bsO s))],[]⟩ rfl rfl Z ?_
 obtain⟨C0,hE⟩:∃ C0,C0=q9 s:=⟨_,rfl⟩
 rw[<-hE]
 obtain⟨D,hD⟩:∃ D,D=qD s [45]:=⟨_,rfl⟩
 have hsl:=slN_le D
 have hDl:D.length<=s.length:=by rw[hD];exact trimP_len s [45]
 refine kc (E Z (B.Zu Z un9) ?_)
 refine Em Z Z Z Z ?_
 refine Eg Z Z (fun hc=>B.sidx (qr Z hc) Z un9 Z (show 0<List.length s from ed)) Z (Eg Z Z (fun hc=>B.eql (qr Z hc) Z) Z (E Z (B.pA Z Z Z Z Z) (Cb Z Z (fun h1=>?_) (fun h1=>?_))))
 ·refine E Z (B.slLB Z Z un9 Z ed) ?_
  refine tk 4 Z ?_
  refine tn ⟨[(0,vS (bsO s)),(3,vS (bsO (drop 1 s)))],[]⟩ rfl rfl Z ?_
  have hb:j9 s [45]=true:=pr_h.symm.trans h1
  have hx:=gk_xt (D:=D) h1
  have h0:=pr_g h1
  rw[gk_t hD h1]
  refine kc (C Z (w193 D aa) Z Z Z (E Z (B.slHB Z Z un9 Z ed) (C Z (w194 (take (slN D) D) cJ) Z Z Z ?_)))
  refine Em Z Z Z Z ?_
  refine Eg Z Z (fun hc=>B.sidx (qr Z hc) Z un23 Z (show 0<List.length s from ed)) Z (Eg Z Z (fun hc=>B.eql (qr Z hc) Z) Z (Eg Z Z (fun hc=>B.move (qr Z hc)) Z ?_))
  refine Em Z Z Z Z ?_
  refine Em Z Z Z Z ?_
  refine Eg Z Z (fun hc=>B.slHB (qr Z hc) (qr Z hc) un9 Z ed) Z (Eg Z Z (fun hc=>B.seqB (qr Z hc) Z) Z (Eg Z Z (fun hc=>B.pick (qr Z hc) Z Z (gdB Z) Z (pick_and2 hc)) Z (E Z (B.pO Z Z Z Z Z) (Cb Z Z (fun h2=>?_) (fun h2=>?_)))))
  ·exact Rt Z (lF Z ee)
  have F1:=gk_F1 hx ab
  refine E Z (B.Zu Z un9) ?_
  refine Em Z Z Z Z ?_
  refine Em Z Z Z Z ?_
  refine Eg Z Z (fun hc=>B.add (qr Z hc) Z bg) Z (Eg Z Z (fun hc=>B.slLB (i:=((slN D)+1)) (qr Z hc) (qr Z hc) un9 aa ed) Z (Eg Z Z (fun hc=>B.call (w194 (drop ((slN D)+1) D) d8) Z (ds1 (qr Z hc)) Z) Z (Eg Z Z (fun hc=>B.not (qr Z hc)) Z (Eg Z Z (fun hc=>B.move (qr Z hc)) Z ?_))))
  refine Em Z Z Z Z ?_
  refine Em Z Z Z Z ?_
  refine Eg Z Z (fun hc=>B.add (qr Z hc) Z bg) Z (Eg Z Z (fun hc=>B.slLB (i:=((slN D)+1)) (qr Z hc) (qr Z hc) un9 aa ed) Z (Eg Z Z (fun hc=>B.seqB (qr Z hc) Z) Z (Eg Z Z (fun hc=>B.pick (qr Z hc) Z Z Z (gdB Z) (pick_or2 hc)) Z (Eg Z Z (fun hc=>B.move (qr Z hc)) Z ?_))))
  refine Em Z Z Z Z ?_
  refine Em Z Z Z Z ?_
  refine Eg Z Z (fun hc=>B.add (qr Z hc) Z bg) Z (Eg Z Z (fun hc=>B.slLB (i:=((slN D)+1)) (qr Z hc) (qr Z hc) un9 aa ed) Z (Eg Z Z (fun hc=>B.seqB (qr Z hc) Z) Z (Eg Z Z (fun hc=>B.pick (qr Z hc) Z Z Z (gdB Z) (pick_or2 hc)) Z (E Z (B.pA Z Z Z Z Z) (Cb Z Z (fun h3=>?_) (fun h3=>?_))))))
  ·exact Rt Z (lF Z ee)
  have F2:=gk_F2 ab
  have hf:=gk_ft hD hb F1 F2
  refine Em Z Z Z Z ?_
  refine Eg Z Z (fun hc=>B.Zu (qr Z hc) un9) Z ?_
  refine Em Z Z Z Z ?_
  refine Eg Z Z (fun hc=>B.sub (qr Z hc) (qr Z hc) bg) Z (Eg Z Z (fun hc=>B.sub (qr Z hc) Z bg) Z (Eg Z Z (fun hc=>B.gtr (qr Z hc) Z) Z (E Z (B.pO Z Z Z Z Z) (Cb Z Z (fun h4=>?_) (fun h4=>?_)))))
  ·exact Rt Z (lF Z ee)
  refine E Z (B.Zu Z un9) (Cp Z Z (fun h5=>?_) (fun h5=>?_))
  ·refine C Z (w158g D F1.1 (F2 aa).1 aa aa) Z Z Z (E Z (B.bN Z Z) (E Z (B.bN Z Z) (C Z (w195 (natAbs ((jm (take (slN D) D):Nat):Int)) (natAbs ((jm (drop (slN D+1) D):Nat):Int)) (gk_l F1.1 cJ) (gk_l (F2 aa).1 d8)) Z Z Z (E Z (B.jo Z jt) ?_))))
   refine Em Z Z Z Z ?_
   refine Eg Z Z (fun hc=>B.idx (z:=0) (qr Z hc) Z jt sz3 (fun _=>rfl) Z ed) Z (Eg Z Z (fun hc=>B.loadP (qr Z hc) ag3 sz3) Z (Eg Z Z (fun hc=>B.neq (qr Z hc) Z) Z (E Z (B.pO Z Z Z Z Z) (Cb Z Z (fun h6=>?_) (fun h6=>?_)))))
   ·exact Rt Z (lF Z ee)
   exact Rt Z (lF Z ee)
  exact Rt Z (lF Z ee)
 refine tk 4 Z ?_
 refine tn ⟨[(0,vS (bsO s)),(3,vS (bsO s))],[]⟩ rfl rfl Z ?_
 have hb:j9 s [45]=false:=pr_h.symm.trans h1
 have hx:=gk_xf hD h1
 rw[gk_f hD h1]
 refine kc (C Z (w193 D aa) Z Z Z (E Z (B.slHB Z Z un9 Z ed) (C Z (w194 (take (slN D) D) cJ) Z Z Z ?_)))
 refine Em Z Z Z Z ?_
 refine Eg Z Z (fun hc=>B.sidx (qr Z hc) Z un23 Z (show 0<List.length D from ed)) Z (Eg Z Z (fun hc=>B.eql (qr Z hc) Z) Z (Eg Z Z (fun hc=>B.move (qr Z hc)) Z ?_))
 refine Em Z Z Z Z ?_
 refine Em Z Z Z Z ?_
 refine Eg Z Z (fun hc=>B.slHB (qr Z hc) (qr Z hc) un9 Z ed) Z (Eg Z Z (fun hc=>B.seqB (qr Z hc) Z) Z (Eg Z Z (fun hc=>B.pick (qr Z hc) Z Z (gdB Z) Z (pick_and2 hc)) Z (E Z (B.pO Z Z Z Z Z) (Cb Z Z (fun h7=>?_) (fun h7=>?_)))))
 ·exact Rt Z (lF Z ee)
 have F1:=gk_F1 hx ab
 refine E Z (B.Zu Z un9) ?_
 refine Em Z Z Z Z ?_
 refine Em Z Z Z Z ?_
 refine Eg Z Z (fun hc=>B.add (qr Z hc) Z bg) Z (Eg Z Z (fun hc=>B.slLB (i:=((slN D)+1)) (qr Z hc) (qr Z hc) un9 aa ed) Z (Eg Z Z (fun hc=>B.call (w194 (drop ((slN D)+1) D) d8) Z (ds1 (qr Z hc)) Z) Z (Eg Z Z (fun hc=>B.not (qr Z hc)) Z (Eg Z Z (fun hc=>B.move (qr Z hc)) Z ?_))))
 refine Em Z Z Z Z ?_
 refine Em Z Z Z Z ?_
 refine Eg Z Z (fun hc=>B.add (qr Z hc) Z bg) Z (Eg Z Z (fun hc=>B.slLB (i:=((slN D)+1)) (qr Z hc) (qr Z hc) un9 aa ed) Z (Eg Z Z (fun hc=>B.seqB (qr Z hc) Z) Z (Eg Z Z (fun hc=>B.pick (qr Z hc) Z Z Z (gdB Z) (pick_or2 hc)) Z (Eg Z Z (fun hc=>B.move (qr Z hc)) Z ?_))))
 refine Em Z Z Z Z ?_
 refine Em Z Z Z Z ?_
 refine Eg Z Z (fun hc=>B.add (qr Z hc) Z bg) Z (Eg Z Z (fun hc=>B.slLB (i:=((slN D)+1)) (qr Z hc) (qr Z hc) un9 aa ed) Z (Eg Z Z (fun hc=>B.seqB (qr Z hc) Z) Z (Eg Z Z (fun hc=>B.pick (qr Z hc) Z Z Z (gdB Z) (pick_or2 hc)) Z (E Z (B.pA Z Z Z Z Z) (Cb Z Z (fun h8=>?_) (fun h8=>?_))))))
 ·exact Rt Z (lF Z ee)
 have F2:=gk_F2 ab
 have hf:=gk_ft hD hb F1 F2
 refine Em Z Z Z Z ?_
 refine Eg Z Z (fun hc=>B.Zu (qr Z hc) un9) Z ?_
 refine Em Z Z Z Z ?_
 refine Eg Z Z (fun hc=>B.sub (qr Z hc) (qr Z hc) bg) Z (Eg Z Z (fun hc=>B.sub (qr Z hc) Z bg) Z (Eg Z Z (fun hc=>B.gtr (qr Z hc) Z) Z (E Z (B.pO Z Z Z Z Z) (Cb Z Z (fun h9=>?_) (fun h9=>?_)))))
 ·exact Rt Z (lF Z ee)
 refine E Z (B.Zu Z un9) (Cp Z Z (fun h10=>?_) (fun h10=>?_))
 ·refine C Z (w158g D F1.1 (F2 aa).1 aa aa) Z Z Z (E Z (B.bN Z Z) (E Z (B.bN Z Z) (C Z (w195 (natAbs ((jm (take (slN D) D):Nat):Int)) (natAbs ((jm (drop (slN D+1) D):Nat):Int)) (gk_l F1.1 cJ) (gk_l (F2 aa).1 d8)) Z Z Z (E Z (B.jo Z jt) ?_))))
  refine Em Z Z Z Z ?_
  refine Eg Z Z (fun hc=>B.idx (z:=0) (qr Z hc) Z jt sz3 (fun _=>rfl) Z ed) Z (Eg Z Z (fun hc=>B.loadP (qr Z hc) ag3 sz3) Z (Eg Z Z (fun hc=>B.neq (qr Z hc) Z) Z (E Z (B.pO Z Z Z Z Z) (Cb Z Z (fun h11=>?_) (fun h11=>?_)))))
  ·exact Rt Z (lF Z ee)
  exact Rt Z (lF Z ee)
 exact Rt Z (lF Z ee)
end Go.Lens.Tb
end
section
namespace Go.Lens.Tb
open Go.Proofs Go.Lens.Un
variable [Lz] [Dn]
attribute [local irreducible] TK PK T RG EfR Body CG
theorem w61 (l:List Nb) (hl:l.length<=1000000) (hs:∀ s∈l,s.length<=10000):CKa 31 [vL eN l] (vI (eachE q9 l)):=by
 refine cG qf31 Z (nB Z) Z (l1 (fun (k:Nat)=>[(0,vL eN l),(3,vI (k:Int))]) (fun _=>[]) (fun k=>k<=l.length/\eachE q9 l=eachE q9 (drop k l)) (fun k=>l.length-k) 0 Z ?_ (sb Z Z Z) ?_)
 · exact⟨zt _,rfl⟩
 intro k hI0
 refine E Z (B.jo Z un56) (Cp Z Z (fun h1=>?_) (fun h1=>?_))
 ·refine E Z (B.idx (z:=[]) Z Z un56 sz23 (fun _=>rfl) Z aa) (C Z (w120 (l.getD k []) (hs _ (jf aa))) Z Z Z (Cp Z Z (fun h2=>?_) (fun h2=>?_)))
  ·exact Rt Z (lF Z eg)
  refine E Z (B.add Z Z bg) (pk Z (L1 (k+1) ?_ ?_ (sb Z Z Z)))
  · (exact⟨aa,by rw[hI0.2];exact ea_step aa ab⟩)
  · omega
 exact Rt Z (lF Z eg)
def shFA (f:List Trm):Bool:=f.all fun t=>decide (t.c.length<=40)
def shF (f:List Trm):Bool:=!(decide (12<(f.length:Int)))&&shFA f
def afB (t u:Trm):Bool:=bif decide (t.i+t.j≠u.i+u.j) then decide (u.i+u.j<t.i+t.j) else decide (t.i<u.i)
section
variable {f:List Trm} {k:Nat} {t u:Trm} {p q:Prop} [Decidable p] [Decidable q]
theorem shf_n (h:12<(f.length:Int)):false=shF f:=by unfold shF;rw[zl h];rfl
theorem shf_0 (h:¬12<(f.length:Int)):shF f=shFA (drop 0 f):=by unfold shF;rw[zk h,J0];rfl
theorem shf_s (hk:k<f.length) (h:¬40<((((Trm.c (f.getD k trZ)).length:Nat):Int))):shFA (f.drop k)=shFA (f.drop (k+1)):=by
 rw[drop_at f k trZ hk,shFA,Kd,zl aa];rfl
theorem shf_f (e:shF f=shFA (f.drop k)) (hk:k<f.length) (h:40<((((Trm.c (f.getD k trZ)).length:Nat):Int))):false=shF f:=by
 rw[e,drop_at f k trZ hk,shFA,Kd,zk aa];rfl
theorem shf_e (e:shF f=shFA (f.drop k)) (hk:¬(k:Int)<(f.length:Int)):true=shF f:=by
 rw[e,zV aa];rfl
theorem af_1 (h:t.i+t.j≠u.i+u.j):decide (u.i+u.j<t.i+t.j)=afB t u:=by unfold afB;rw[zl h];rfl
theorem af_2 (h:¬t.i+t.j≠u.i+u.j):decide (t.i<u.i)=afB t u:=by unfold afB;rw[zk h];rfl
def cA0 (t:Trm):Int:=if q9 t.c=0/\t.c=[48] then 6 else q9 t.c
theorem ca0_1 (h:(bif decide (q9 t.c=0) then decide (t.c=[48]) else false)=true):cA0 t=6:=by unfold cA0;rw[Wx ⟨cg_1 h,cg_2 h⟩]
theorem ca0_2 (h:(bif decide (q9 t.c=0) then decide (t.c=[48]) else false)=false):cA0 t=q9 t.c:=by unfold cA0;rw[Ww (cg_4 h)]
theorem ca0_g {a:Int} {l:List Int}:qB (a::je (decide p) 6::l)=if (if a=0/\p then 6 else a)=0 then qB l else (if a=0/\p then (6:Int) else a):=by
 by_cases h1:a=0<;>by_cases h2:p<;>simp[qB,je,h1,h2]
theorem ca0_x:cE0 t=if cA0 t=0 then qB [q7 t.i 0 16,q7 t.j 0 16] else cA0 t:=ca0_g
theorem ca0_3 (h:cA0 t=0):cE0 t=qB [q7 t.i 0 16,q7 t.j 0 16]:=by rw[ca0_x,Wx h]
theorem ca0_4 (h:¬cA0 t=0):cE0 t=cA0 t:=by rw[ca0_x,Ww h]
theorem ca0_5 (h:cE0 t=0):cE1 t=q7 (t.i+t.j) 0 16:=by unfold cE1;rw[Wx h]
theorem ca0_6 (h:¬cE0 t=0):cE1 t=cE0 t:=by unfold cE1;rw[Ww h]
theorem cc_k (h:(bif decide (cE1 t=0) then decide (0<(k:Int)) else false)=true):KS (keyT t):=ks_e (cg_1 h)
theorem cc_p (hI:∀ j,j<k->chkA f j=0) (h:(bif decide (cE1 t=0) then decide (0<(k:Int)) else false)=true):KS (keyT (f.getD (k-1) trZ)):=ca_kp hI (cg_2 h)
theorem af_o:afB t u=true↔ordI (keyT u) (keyT t)<0:=by
 rw[ordI_lt];unfold afB keyT
 by_cases h:t.i+t.j≠u.i+u.j
 ·rw[zl h];simp only[Wm,zf];omega
 rw[zk h];simp only[Wj,zf];omega
theorem ckq_1 (h:(bif decide (cE1 (f.getD k trZ)=0) then decide (0<(k:Int)) else false)=true) (g:(!(afB (f.getD k trZ) (f.getD (k-1) trZ)))=true):chkA f k=11:=by
 unfold chkA
 refine Wx ⟨cg_1 h,cg_2 h,?_⟩
 have:¬ordI (keyT (f.getD (k-1) trZ)) (keyT (f.getD k trZ))<0:=fun e=>by rw[af_o.2 e] at g;cases g
 unfold keyT at this;omega
theorem ckq_2 (h:(bif decide (cE1 (f.getD k trZ)=0) then decide (0<(k:Int)) else false)=true) (g:(!(afB (f.getD k trZ) (f.getD (k-1) trZ)))=false):chkA f k=cE1 (f.getD k trZ):=by
 unfold chkA
 rw[Ww fun e=>?_]
 have:ordI (keyT (f.getD (k-1) trZ)) (keyT (f.getD k trZ))<0:=af_o.1 (by simpa using g)
 have e3:=e.2.2
 unfold keyT at this;omega
theorem ckq_3 (h:(bif decide (cE1 (f.getD k trZ)=0) then decide (0<(k:Int)) else false)=false):chkA f k=cE1 (f.getD k trZ):=by
 unfold chkA
 rw[Ww fun e=>cg_4 h ⟨e.1,e.2.1⟩]
end
theorem w21 (f:List Trm) (hl:f.length<=4611686018427387904):CKa 7 [vL eY f] (vB (shF f)):=by
 refine cG qf7 Z (nB Z) Z (E Z (B.jo Z un22) (Cp Z Z (fun h1=>?_) (fun h1=>?_)))
 ·refine Rt Z ?_
  exact leaf (val0:=vB false) ae eh
 refine l1 (fun (k:Nat)=>[(0,vL eY f),(3,vI (k:Int))]) (fun _=>[]) (fun k=>k<=f.length/\shF f=shFA (drop k f)) (fun k=>f.length-k) 0 Z ?_ (sb Z Z Z) ?_
 · exact⟨zt _,shf_0 ab⟩
 intro k hI0
 refine E Z (B.jo Z un22) (Cp Z Z (fun h2=>?_) (fun h2=>?_))
 ·refine E Z (B.idx (z:=trZ) (i:=k) Z Z un22 sz63 (fun _=>rfl) Z aa) (E Z (B.Zu (a:=(Trm.c (f.getD k trZ))) Z un23) (Cp Z Z (fun h3=>?_) (fun h3=>?_)))
  ·refine Rt Z ?_
   exact leaf (val0:=vB false) ae eh
  refine E Z (B.add Z Z bg) (pk Z (L1 (k+1) ?_ ?_ (sb Z Z Z)))
  · (exact⟨aa,by rw[hI0.2];exact shf_s aa ab⟩)
  · omega
 refine Rt Z ?_
 exact leaf (val0:=vB true) ae eh
theorem w121 (t u:Trm) (ht:KS (keyT t)) (hu:KS (keyT u)):CKa 62 [.pv (.agg [pS (bsO (Trm.c t)),pI (Trm.i t),pI (Trm.j t)]),.pv (.agg [pS (bsO (Trm.c u)),pI (Trm.i u),pI (Trm.j u)])] (vB (afB t u)):=by
 refine cG qf62 Z (nB Z) Z (E Z (B.add Z Z em) (E Z (B.add Z Z em) (Cp Z Z (fun h1=>?_) (fun h1=>?_))))
 ·refine E Z (B.add Z Z em) (E Z (B.add Z Z em) ?_)
  refine Rt Z ?_
  exact leaf (val0:=vB (decide (((Trm.i u)+(Trm.j u))<((Trm.i t)+(Trm.j t))))) ae ep
 refine Rt Z ?_
 exact leaf (val0:=vB (decide ((Trm.i t)<(Trm.i u)))) ae ep
theorem w26 (f:List Trm) (hl:f.length<=1000000) (hs:∀ t∈f,(Trm.c t).length<=10000):CKa 13 [vL eY f] (vI (qF f)):=by
 refine cG qf13 Z (nB Z) Z (l1 (fun (k:Nat)=>[(0,vL eY f),(3,vI (k:Int))]) (fun _=>[]) (fun k=>k<=f.length/\∀ j,j<k->chkA f j=0) (fun k=>f.length-k) 0 Z ?_ (sb Z Z Z) ?_)
 · exact⟨zt _,fun j hj=>aa⟩
 intro k hI0
 refine E Z (B.jo Z un22) (Cp Z Z (fun h1=>?_) (fun h1=>?_))
 ·refine E Z (B.idx (z:=trZ) (i:=k) Z Z un22 sz63 (fun _=>rfl) Z aa) (C Z (w120 (Trm.c (f.getD k trZ)) (hs _ (jf aa))) Z Z Z (Eg Z Z (fun hc=>B.move Z) Z (Eg Z Z (fun hc=>B.move Z) Z (Eg Z Z (fun hc=>B.idx (z:=trZ) (i:=k) (qr Z hc) (qr Z hc) un22 sz63 (fun _=>rfl) Z aa) Z (Eg Z Z (fun hc=>B.fadP (qr Z hc) fa63_0 Z) Z (Eg Z Z (fun hc=>B.loadP (qr Z hc) ag23 sz23) Z (Eg Z Z (fun hc=>B.call (w62b (Trm.c (f.getD k trZ))) Z (ds1 (qr Z hc)) Z) Z (E Z (B.pick Z Z Z (gdB Z) Z (pick_and _)) (Cj [(0,vL eY f),(3,vI (k:Int)),(4,vI (cA0 (f.getD k trZ)))] [] Z Z Z (fun h2=>?_) (fun h2=>?_) ?_)))))))))
  ·refine pk Z ?_
   show Sub _ _ _
   first|rw[ca0_1 ab]|rw[ca0_2 ab]
   exact sb Z Z rfl
  ·refine pk Z ?_
   show Sub _ _ _
   first|rw[ca0_1 ab]|rw[ca0_2 ab]
   exact sb Z Z rfl
  refine Cj [(0,vL eY f),(3,vI (k:Int)),(4,vI (cE0 (f.getD k trZ)))] [] Z Z Z (fun h3=>?_) (fun h3=>?_) ?_
  ·replace h3:=X3 h3
   refine E Z (B.idx (z:=trZ) (i:=k) Z Z un22 sz63 (fun _=>rfl) Z aa) (C Z (w105 (Trm.i (f.getD k trZ)) 0 16) Z Z Z (E Z (B.idx (z:=trZ) (i:=k) Z Z un22 sz63 (fun _=>rfl) Z aa) (C Z (w105 (Trm.j (f.getD k trZ)) 0 16) Z Z Z (E Z (B.runZ (val:=.pv (.slice (List.map eI [(q7 (Trm.i (f.getD k trZ)) 0 16),(q7 (Trm.j (f.getD k trZ)) 0 16)]))) Z (fun l=>Frz.arr l _ _ _ _ _) Z) (C Z (w27 [(q7 (Trm.i (f.getD k trZ)) 0 16),(q7 (Trm.j (f.getD k trZ)) 0 16)] (nB Z)) Z Z Z (Dr Z ae (pk Z ?_)))))))
   show Sub _ _ _
   first|rw[ca0_3 ab]|rw[ca0_4 ab]
   exact sb Z Z rfl
  ·replace h3:=XJ h3
   refine pk Z ?_
   show Sub _ _ _
   first|rw[ca0_3 ab]|rw[ca0_4 ab]
   exact sb Z Z rfl
  refine Cj [(0,vL eY f),(3,vI (k:Int)),(4,vI (cE1 (f.getD k trZ)))] [] Z Z Z (fun h4=>?_) (fun h4=>?_) ?_
  ·replace h4:=X3 h4
   refine E Z (B.idx (z:=trZ) (i:=k) Z Z un22 sz63 (fun _=>rfl) Z aa) (E Z (B.idx (z:=trZ) (i:=k) Z Z un22 sz63 (fun _=>rfl) Z aa) (E Z (B.add Z Z cE) (C Z (w105 ((Trm.i (f.getD k trZ))+(Trm.j (f.getD k trZ))) 0 16) Z Z Z (Dr Z ae (pk Z ?_)))))
   show Sub _ _ _
   first|rw[ca0_5 ab]|rw[ca0_6 ab]
   exact sb Z Z rfl
  ·replace h4:=XJ h4
   refine pk Z ?_
   show Sub _ _ _
   first|rw[ca0_5 ab]|rw[ca0_6 ab]
   exact sb Z Z rfl
  refine Eg Z Z (fun hc=>B.move Z) Z (Eg Z Z (fun hc=>B.gtr (qr Z hc) Z) Z (E Z (B.pick Z Z Z (gdB Z) Z (pick_and _)) ?_))
  refine ek Z ?_
  cases h5:(bif (decide ((cE1 (f.getD k trZ))=0)) then (decide (0<(k:Int))) else false)
  ·refine Ef' Z Z (Ef' Z Z (Ef' Z Z (Ef' Z Z (Ef' Z Z (Ef' Z Z (Ef' Z Z (Ef' Z Z (Ef' Z Z (Ef' Z Z (Ef' Z Z (E Z (B.pkF Z Z Z Z Z) (Dr Z ae (CF Z Z (Cp Z Z (fun h6=>?_) (fun h6=>?_)))))))))))))))
   ·refine Rt Z ?_
    exact leaf (val0:=vI (cE1 (f.getD k trZ))) ae eu
   refine E Z (B.add Z Z cE) (pk Z (L1 (k+1) ?_ ?_ (sb Z Z Z)))
   · (exact⟨aa,ca_nx hI0.2 ew⟩)
   · omega
  refine Et Z Z (B.move Z) (Et Z Z (B.move Z) (Et Z Z (B.idx (z:=trZ) (i:=k) Z Z un22 sz63 (fun _=>rfl) Z aa) (Et Z Z (B.loadA (ds:=[pS (bsO (Trm.c (f.getD k trZ))),pI (Trm.i (f.getD k trZ)),pI (Trm.j (f.getD k trZ))]) Z ag63 sz63 (zW Z) Z) (Et Z Z (B.move Z) (Et Z Z (B.move Z) (Et Z Z (B.sub Z Z cE) (Et Z Z (B.idx (z:=trZ) (i:=(k-1)) Z Z un22 sz63 (fun _=>rfl) cI aa) (Et Z Z (B.loadA (ds:=[pS (bsO (Trm.c (f.getD (k-1) trZ))),pI (Trm.i (f.getD (k-1) trZ)),pI (Trm.j (f.getD (k-1) trZ))]) Z ag63 sz63 (zW Z) Z) (Et Z Z (B.call (w121 (f.getD k trZ) (f.getD (k-1) trZ) (cc_k h5) (cc_p hI0.2 h5)) Z Z Z) (Et Z Z (B.not Z) (E Z (B.pkT Z Z Z Z Z) (Dr Z ae (Cj [(0,vL eY f),(3,vI (k:Int)),(4,vI (chkA f k))] [] Z Z Z (fun h7=>?_) (fun h7=>?_) ?_)))))))))))))
  ·refine pk Z ?_
   show Sub _ _ _
   first|rw[ckq_1 ab ab]|rw[ckq_2 ab ab]|rw[ckq_3 ab]
   exact sb Z Z rfl
  ·refine pk Z ?_
   show Sub _ _ _
   first|rw[ckq_1 ab ab]|rw[ckq_2 ab ab]|rw[ckq_3 ab]
   exact sb Z Z rfl
  refine Cp Z Z (fun h8=>?_) (fun h8=>?_)
  ·refine Rt Z ?_
   exact leaf (val0:=vI (chkA f k)) ae eu
  refine E Z (B.add Z Z cE) (pk Z (L1 (k+1) ?_ ?_ (sb Z Z Z)))
  · (exact⟨aa,ca_nx hI0.2 ew⟩)
  · omega
 refine Rt Z ?_
 exact leaf (val0:=vI 0) ae eu
theorem w23 (f:List Trm) (hl:f.length<=1000000):CKa 10 [vL eY f] (vL eY f):=by
 refine cL 10 [] qf10 Z (nB Z) Z Z (kc (E Z (B.ZX (enc:=eY) Z) (E Z (B.adopt 13 3 74 Z Z) (E Z (B.jo Z un22) (l2 (fun (k:Nat) (o:List Trm)=>[(3,.aref 13 k),(6,vL eY f),(7,vI (f.length:Int)),(8,vI (k:Int))]) (fun k o=>[(13,.arr k 3 74 (List.map eY o))]) (fun k o=>k<=f.length/\o=take k f) (fun k _=>f.length-k) 0 [] Z ?_ (sb Z Z Z) ?_)))))
 · exact⟨zt _,rfl⟩
 intro k o hI0
 have hol:o.length=k:=by rw[hI0.2,zn];omega
 refine Cp Z Z (fun h1=>?_) (fun h1=>?_)
 ·refine E Z (B.idx (z:=trZ) (i:=k) Z Z un22 sz63 (fun _=>rfl) Z cd) (E Z (B.runZ (val:=.pv (.slice (List.map eY [(f.getD k trZ)]))) (val0:=.aref 24 0) (m0:=[(24,.arr 0 3 74 [[pS (bsO (Trm.c (f.getD k trZ))),pI (Trm.i (f.getD k trZ)),pI (Trm.j (f.getD k trZ))]])]) (rd:=[]) ae (fun l=>Frz.arr l _ _ _ _ _) Z) (E Z (B.append (enc:=eY) (l:=o) (r:=[(f.getD k trZ)]) Z Z Z un32 in74 Z (fun _=>rfl) by74 cd) (E Z (B.add Z Z bg) (pk Z (L2 (k+1) (o++[(f.getD k trZ)]) ?_ ?_ (sb Z Z Z))))))
  · exact⟨aa,ow_s hI0.2 aa⟩
  · omega
 refine Fz 7 3 Z Z Z ?_
 refine Rt Z ?_
 exact leafL (val0:=vL eY o) (out0:=[]) (.inr Z) ae c8 rfl
theorem w28 (x y:Nb) (hx:x.length<=10000) (hy:y.length<=10000):CKa 15 [.pv (.agg [pS (bsO x),pS (bsO y)])] (vI (eachE q9 [x,y])):=by
 refine cG qf15 Z (nB Z) Z (E Z (B.runZ (val:=.pv (.slice (List.map eN [x,y]))) Z (fun l=>Frz.arr l _ _ _ _ _) Z) (C Z (w61 [x,y] (nB Z) (by rintro s (_|⟨_,_|⟨_,⟨⟩⟩⟩)<;>assumption)) Z Z Z ?_))
 refine Rt Z ?_
 exact leaf (val0:=vI (eachE q9 [x,y])) ae rfl
def qs (l:List Nb):List Rat:=l.map (fun s=>(jh s).q)
def numB (a:Nb) (e b:Int) (q:Rat):Bool:=bif decide (e=lgF b [q]) then decide (a=if lgF b [q]≠0 then [] else txt q) else false
section
variable {a:Nb} {e b:Int} {q:Rat}
theorem num_l (hl:(txt q).length<=900000):∀ r∈[q],(txt r).length<=900000:=fun r h=>by
 rw[zg.1 h];exact hl
theorem num_y (h:lgF b [q]≠0):(bif decide (e=lgF b [q]) then decide (a=[]) else false)=numB a e b q:=by
 unfold numB;rw[Wx h]
theorem num_n (h:¬lgF b [q]≠0):(bif decide (e=lgF b [q]) then decide (a=txt q) else false)=numB a e b q:=by
 unfold numB;rw[Ww h]
end
theorem w32 (a:Nb) (e b:Int) (q:Rat) (hl:(txt q).length<=900000):CKa 19 [vS (bsO a),vI e,vI b,vS (bsO (txt q))] (vB (numB a e b q)):=by
 refine cG qf19 Z (nB Z) Z (E Z (B.zA (es:=List.map eQt [q]) Z) (C Z (w44 b [q] (show 1<=1000000 by decide) (num_l hl)) Z Z Z (Cp Z Z (fun h1=>?_) (fun h1=>?_))))
 ·refine Em Z Z Z Z ?_
  refine Em Z Z Z Z ?_
  exact Eg Z Z (fun hc=>B.seqB (qr Z hc) (qr Z hc)) Z (E Z (B.pA Z Z Z Z Z) (Rt Z (lF Z ez)))
 refine Em Z Z Z Z ?_
 refine Em Z Z Z Z ?_
 exact Eg Z Z (fun hc=>B.seqB (qr Z hc) (qr Z hc)) Z (E Z (B.pA Z Z Z Z Z) (Rt Z (lF Z ez)))
end Go.Lens.Tb
end
section
namespace Go.Lens.Tb
open Go.Proofs Go.Lens.Un
variable [Lz] [Dn]
open Un Un.R
theorem blen_dec (n:Nat):q0 n<=4*(decDigits n).length:=by
 refine ko ?_
 have h:=ky (jT n)
 rw[kl] at h
 refine XG h ?_
 rw[K7]
 exact Xt ah _
theorem sz_txt (q:Rat):sz q<=4*(txt q).length+1:=by
 have h1:=blen_dec q.num.natAbs
 have h2:=blen_dec q.den
 have e:=dq_len (q:=q)
 have hl:(Dq q).length<=(txt q).length:=by
  rw[qk_x]
  split
  ·rw[zb];omega
  omega
 unfold sz
 by_cases hd:q.den=1
 ·have h3:q0 q.den<=1:=by rw[hd];decide
  rw[Wx hd] at e;omega
 rw[Ww hd] at e;omega
theorem sz_short {s:Nb} (h:q9 s=0) (hs:s.length<=40):sz (jh s).q<=161:=by
 have:=sz_txt (jh s).q
 rw[txt_val h] at this;omega
end Go.Lens.Tb
end
section
namespace Go.Lens.Tb
open Go.Proofs Go.Lens.Un
variable [Lz] [Dn]
attribute [local irreducible] TK PK T RG EfR Body CG
def PwR (q:Rat) (K n:Nat) (x o:Rat):Prop:=∃ t,x=q ^ (2 ^ t)/\n=K / 2 ^ t/\o=q ^ (K%2 ^ t)
def pwQ (n:Nat) (x o:Rat):Rat:=if n%2=1 then o*x else o
section
variable {q x o:Rat} {K n:Nat}
theorem rpw_add (q:Rat) (a:Nat):∀ b,q ^ (a+b)=q ^ a*q ^ b
 | 0=>by rw[Kw,Rat.pow_zero,Rat.mul_one]
 | b+1=>by rw[<-Nat.add_assoc,Rat.pow_succ,rpw_add q a b,Rat.pow_succ,Rat.mul_assoc]
theorem pwr_0:PwR q K K q 1:=⟨0,by rw[KH,Rat.pow_one],by rw[KH,Nat.div_one],by rw[KH,Nat.mod_one,Rat.pow_zero]⟩
theorem pwr_b {t:Nat} (hn:0<K / 2 ^ t) (hK:K<=16):2 ^ t<=16:=by
 have:=Nat.div_pos_iff.1 hn
 omega
theorem pwr_k (h:PwR q K n x o):n<=K:=by
 obtain⟨t,rfl,rfl,rfl⟩:=h
 exact JD _ _
theorem pwr_x (h:PwR q K n x o) (hK:K<=16) (hs:sz q<=10000) (hn:0<n):sz x<=160001:=by
 obtain⟨t,rfl,rfl,rfl⟩:=h
 have h1:=sz_pow q (2 ^ t)
 have h2:=pwr_b hn hK
 have:2 ^ t*sz q<=16*10000:=J7 h2 hs
 omega
theorem pwr_o (h:PwR q K n x o) (hK:K<=16) (hs:sz q<=10000):sz o<=160001:=by
 obtain⟨t,rfl,rfl,rfl⟩:=h
 have h1:=sz_pow q (K%2 ^ t)
 have:K%2 ^ t*sz q<=16*10000:=J7 (qc (Nat.mod_le _ _) hK) hs
 omega
theorem pwr_1 (h:PwR q K n x o) (hK:K<=16) (hs:sz q<=10000) (hn:0<n):sz o+sz x<=1000000:=by have:=pwr_x h hK hs hn;have:=pwr_o h hK hs;omega
theorem pwr_2 (h:PwR q K n x o) (hK:K<=16) (hs:sz q<=10000) (hn:0<n):sz x+sz x<=1000000:=by have:=pwr_x h hK hs hn;omega
theorem pwr_3 (h:(n:Int)%2=1):pwQ n x o=o*x:=by unfold pwQ;rw[Wx aa]
theorem pwr_4 (h:¬(n:Int)%2=1):pwQ n x o=o:=by unfold pwQ;rw[Ww aa]
theorem pwr_n (h:PwR q K n x o):PwR q K (n / 2) (x*x) (pwQ n x o):=by
 obtain⟨t,rfl,rfl,rfl⟩:=h
 refine⟨t+1,?_,?_,?_⟩
 ·rw[<-rpw_add,show 2 ^ t+2 ^ t=2 ^ (t+1) by rw[KG];omega]
 ·rw[Nat.div_div_eq_div_mul,KG]
 unfold pwQ
 have e:K%2 ^ (t+1)=K%2 ^ t+2 ^ t*(K / 2 ^ t%2):=Nat.mod_pow_succ
 rcases Qu (K / 2 ^ t) with g|g
 ·rw[Ww aa,e,g,KF,Kw]
 rw[Wx g,e,g,K3,rpw_add]
theorem pwr_e (h:PwR q K n x o) (hn:n=0):o=q ^ K:=by
 obtain⟨t,rfl,rfl,rfl⟩:=h
 rw[Jj]
 have h2:0<2 ^ t:=Nat.two_pow_pos t
 exact (Nat.div_eq_zero_iff_lt h2).1 hn
end
theorem w122 (q:Rat) (K:Nat) (hK:K<=16) (hs:sz q<=10000):CKa 63 [vS (bsO (txt q)),vI (K:Int)] (vS (bsO (txt (q ^ K)))):=by
 refine cL 10 [] qf63 Z (nB Z) Z Z (kc (CF Z Z (l3 (fun (n:Nat) (x:Rat) (o:Rat)=>[(0,vS (bsO (txt x))),(1,vI (n:Int)),(5,vS (bsO (txt o)))]) (fun _ _ _=>[]) (fun n x o=>PwR q K n x o) (fun n _ _=>n) K q 1 Z ?_ (sb ae Z Z) ?_)))
 · exact pwr_0
 intro n x o hI0
 refine Cp Z Z (fun h1=>?_) (fun h1=>?_)
 ·refine E Z (B.remN Z Z aa ah) (Cj [(0,vS (bsO (txt x))),(1,vI (n:Int)),(5,vS (bsO (txt (pwQ n x o))))] [] Z Z Z (fun h2=>?_) (fun h2=>?_) ?_)
  ·replace h2:=X3 h2
   refine C Z (w69 o x e8) Z Z Z (pk Z ?_)
   show Sub _ _ _
   first|rw[pwr_3 ab]|rw[pwr_4 ab]
   exact sb Z Z rfl
  ·replace h2:=XJ h2
   refine pk Z ?_
   show Sub _ _ _
   first|rw[pwr_3 ab]|rw[pwr_4 ab]
   exact sb Z Z rfl
  refine C Z (w69 x x e8) Z Z Z (E Z (B.quoN Z Z aa ah (by have:=pwr_k hI0;unfold R64;omega)) (pk Z (L3 (n / 2) (x*x) (pwQ n x o) ?_ ?_ (sb Z Z Z))))
  · exact pwr_n hI0
  · omega
 refine Rt Z ?_
 exact leafL (val0:=vS (bsO (txt o))) (out0:=[]) (.inr Z) ae (by rw[pwr_e hI0 aa]) rfl
structure DvR (P:PL):Prop where
 k:∀ p∈P,(0<=p.1.1/\p.1.1<=16)/\0<=p.1.2/\p.1.2<=16
 l:P.length<=100
 s:∀ p∈P,sz p.2<=1000
structure VaR (P:PL) (x y:Rat):Prop extends DvR P where
 x:sz x<=200
 y:sz y<=200
section
variable {P o:PL} {x y s:Rat} {k:Nat}
theorem w122z (q:Rat) (z:Int) (hz:0<=z/\z<=16) (hs:sz q<=200):CKa 63 [vS (bsO (txt q)),vI z] (vS (bsO (txt (q ^ z.toNat)))):=by
 have h:=w122 q z.toNat aa aa
 rwa [show (z.toNat:Int)=z by omega] at h
theorem w70i (z:Int) (hz:0<=z/\z<=100):CKa 64 [vI z] (vS (bsO (txt ((z:Int):Rat)))):=by
 have h:=w70t z.toNat aa
 rw[show (z.toNat:Int)=z by omega] at h
 rw[show ((z:Int):Rat)=((z.toNat:Nat):Rat) by rw[<-Rat.intCast_natCast,show (z.toNat:Int)=z by omega]]
 exact h
theorem vr_k (h:VaR P x y) (hk:k<P.length):(0<=fst (fst (P.getD k rrZ))/\fst (fst (P.getD k rrZ))<=16)/\(0<=snd (fst (P.getD k rrZ))/\snd (fst (P.getD k rrZ))<=16):=h.k _ (jf hk)
theorem vr_w {q:Rat} {z:Int} (hz:z<=16) (hq:sz q<=200):sz (q ^ z.toNat)<=3201:=by
 have h1:=sz_pow q z.toNat
 have:z.toNat*sz q<=16*200:=J7 aa hq
 omega
theorem vr_1 (h:VaR P x y) (hk:k<P.length):sz (x ^ (toNat (fst (fst (P.getD k rrZ)))))+sz (y ^ (toNat (snd (fst (P.getD k rrZ)))))<=1000000:=by
 have a:=vr_w (vr_k h hk).1.2 h.x
 have b:=vr_w (vr_k h hk).2.2 h.y
 omega
theorem vr_t (h:VaR P x y) (hk:k<P.length):sz (snd (P.getD k rrZ))+sz (x ^ (toNat (fst (fst (P.getD k rrZ))))*y ^ (toNat (snd (fst (P.getD k rrZ)))))<=7500:=by
 have a:=vr_w (vr_k h hk).1.2 h.x
 have b:=vr_w (vr_k h hk).2.2 h.y
 have c:=ju (x ^ (toNat (fst (fst (P.getD k rrZ))))) (y ^ (toNat (snd (fst (P.getD k rrZ)))))
 have d:=h.s _ (jf (z:=rrZ) hk)
 omega
theorem vr_2 (h:VaR P x y) (hk:k<P.length):sz (snd (P.getD k rrZ))+sz (x ^ (toNat (fst (fst (P.getD k rrZ))))*y ^ (toNat (snd (fst (P.getD k rrZ)))))<=1000000:=by
 have:=vr_t h hk;omega
theorem vr_s (hk:k<P.length):evP (P.take (k+1)) x y=evP (P.take k) x y+snd (P.getD k rrZ)*(x ^ (toNat (fst (fst (P.getD k rrZ))))*y ^ (toNat (snd (fst (P.getD k rrZ))))):=by
 rw[gd_split hk]
 unfold evP
 rw[lin_app]
 obtain⟨a,c⟩:=P.getD k rrZ
 simp only[lin,KN]
theorem vr_z (h:VaR P x y):∀ k,k<=P.length->sz (evP (P.take k) x y)<=1+k*7501
 | 0,_=>by rw[J5];show sz (0:Rat)<=_;exact qc sz_0 aa
 | k+1,hk=>by
  have ih:=vr_z h k aa
  rw[vr_s aa]
  have a:=sz_add (evP (P.take k) x y) (snd (P.getD k rrZ)*(x ^ (toNat (fst (fst (P.getD k rrZ))))*y ^ (toNat (snd (fst (P.getD k rrZ))))))
  have b:=ju (snd (P.getD k rrZ)) (x ^ (toNat (fst (fst (P.getD k rrZ))))*y ^ (toNat (snd (fst (P.getD k rrZ)))))
  have c:=vr_t h (k:=k) aa
  rw[KZ];omega
theorem vr_3 (e:s=evP (P.take k) x y) (h:VaR P x y) (hk:k<P.length):sz s+sz (snd (P.getD k rrZ)*(x ^ (toNat (fst (fst (P.getD k rrZ))))*y ^ (toNat (snd (fst (P.getD k rrZ))))))<=1000000:=by
 have a:=vr_z h k aa
 have b:=ju (snd (P.getD k rrZ)) (x ^ (toNat (fst (fst (P.getD k rrZ))))*y ^ (toNat (snd (fst (P.getD k rrZ)))))
 have c:=vr_t h hk
 have d:=h.l
 have:k*7501<=100*7501:=Xc _ aa
 rw[e];omega
theorem small_z {z:Int} (hz:0<=z/\z<=16):sz ((z:Int):Rat)<=100:=by
 refine qc (sz_int z) ?_
 have:q0 z.natAbs<=16:=ko (XF (show z.natAbs<=16 by omega) ah)
 omega
theorem dvr_k (h:DvR P) (hk:k<P.length):(0<=fst (fst (P.getD k rrZ))/\fst (fst (P.getD k rrZ))<=16)/\(0<=snd (fst (P.getD k rrZ))/\snd (fst (P.getD k rrZ))<=16):=h.k _ (jf hk)
theorem dvr_1 (h:DvR P) (hk:k<P.length) {z:Int} (hz:z=fst (fst (P.getD k rrZ))\/z=snd (fst (P.getD k rrZ)):=by first|exact .inl rfl|exact .inr Z):sz (snd (P.getD k rrZ))+sz ((z:Int):Rat)<=1000000:=by
 have a:=h.s _ (jf (z:=rrZ) hk)
 have b:=small_z (z:=z) (by have:=dvr_k h hk;rcases hz with rfl|rfl<;>omega)
 omega
theorem dvr_g (h:DvR P) (hk:k<P.length):(txt (snd (P.getD k rrZ))).length<=900000:=ar_t (by have:=h.s _ (jf (z:=rrZ) hk);omega)
theorem der_p (ax:Int) (A B:PL):derP ax (A++B)=derP ax A++derP ax B:=Xi
theorem der_s (ax:Int) (hk:k<P.length):derP ax (P.take (k+1))=derP ax (P.take k)++derT ax (P.getD k rrZ):=by
 rw[gd_split hk,der_p]
 congr 1
 show derT ax _++[]=_
 rw[zR]
theorem dvr_x1 (hk:k<P.length) (h:0<fst (fst (P.getD k rrZ))):derP 0 (P.take (k+1))=derP 0 (P.take k)++[((fst (fst (P.getD k rrZ))-1,snd (fst (P.getD k rrZ))),snd (P.getD k rrZ)*((fst (fst (P.getD k rrZ)):Int):Rat))]:=by
 rw[der_s 0 hk];congr 1;exact Wx h
theorem dvr_x2 (hk:k<P.length) (h:¬0<fst (fst (P.getD k rrZ))):derP 0 (P.take (k+1))=derP 0 (P.take k):=by
 rw[der_s 0 hk,show derT 0 (P.getD k rrZ)=[] from Ww h,zR]
theorem dvr_y1 (hk:k<P.length) (h:0<snd (fst (P.getD k rrZ))):derP 1 (P.take (k+1))=derP 1 (P.take k)++[((fst (fst (P.getD k rrZ)),snd (fst (P.getD k rrZ))-1),snd (P.getD k rrZ)*((snd (fst (P.getD k rrZ)):Int):Rat))]:=by
 rw[der_s 1 hk];congr 1;exact Wx h
theorem dvr_y2 (hk:k<P.length) (h:¬0<snd (fst (P.getD k rrZ))):derP 1 (P.take (k+1))=derP 1 (P.take k):=by
 rw[der_s 1 hk,show derT 1 (P.getD k rrZ)=[] from Ww h,zR]
theorem drv_len (ax:Int):∀ A:PL,(derP ax A).length<=A.length
 | []=>zB _
 | p::l=>by
  have:=drv_len ax l
  rw[show derP ax (p::l)=derT ax p++derP ax l from rfl,za,zb]
  unfold derT
  split<;>simp<;>omega
theorem dvr_t (h:DvR P) {ax:Int}:(derP ax (P.take k)).length<=100:=qc (drv_len ax _) (by rw[zn];have:=h.l;omega)
theorem dvr_l (h:DvR P) {ax:Int}:(derP ax (P.take k)).length<=1000000:=qc (dvr_t h) ah
theorem dvr_q (h:DvR P) {ax:Int}:∀ p∈derP ax (P.take k),sz p.2<=1100:=fun p hp=>by
 obtain⟨a,ha,hp⟩:=Jc.1 hp
 have ha:=zu ha
 have h1:=h.s _ ha
 have h2:=h.k _ ha
 unfold derT at hp
 split at hp
 ·rcases zg.1 hp with rfl
  have a1:=ju a.2 ((kax ax a.1:Int):Rat)
  have a2:sz ((kax ax a.1:Int):Rat)<=100:=small_z (by unfold kax;split<;>omega)
  simp only;omega
 cases hp
theorem dvr_z (h:DvR P) {ax:Int}:szP (derP ax (P.take k))<=500000:=qc (szP_le (dvr_t h) (dvr_q h)) ah
theorem tur_1 (h:snd (fst (P.getD k rrZ))%2=1):(turT (P.getD k rrZ)).2= -(snd (P.getD k rrZ)):=Wx h
theorem tur_2 (h:¬snd (fst (P.getD k rrZ))%2=1):(turT (P.getD k rrZ)).2=snd (P.getD k rrZ):=Ww h
theorem tur_s (hk:k<P.length):turP (P.take (k+1))=turP (P.take k)++[((snd (fst (P.getD k rrZ)),fst (fst (P.getD k rrZ))),(turT (P.getD k rrZ)).2)]:=by
 rw[gd_split hk];unfold turP;rw[z8];rfl
theorem tur_l (h:DvR P):(turP (P.take k)).length<=1000000:=by unfold turP;rw[zI,zn];have:=h.l;omega
theorem tur_z (h:DvR P):szP (turP (P.take k))<=500000:=by
 refine qc (szP_le (N:=100) (S:=1000) (by unfold turP;rw[zI,zn];have:=h.l;omega) fun p hp=>?_) ah
 obtain⟨a,ha,rfl⟩:=zE.1 hp
 have:=h.s _ (zu ha)
 unfold turT
 simp only
 split
 ·rw[sz_neg];exact this
 exact this
end
theorem w29 (P:PL) (x y:Rat) (hV:VaR P x y):CKa 16 [vL eR P,.pv (.agg [pS (bsO (txt x)),pS (bsO (txt y))])] (vS (bsO (txt (evP P x y)))):=by
 refine cL 10 [] qf16 Z (nB Z) Z Z (kc (l2 (fun (k:Nat) (s:Rat)=>[(0,vL eR P),(3,.bref 13 0),(5,vS (bsO (txt s))),(6,vI (k:Int))]) (fun _ _=>[(13,.box 25 [vS (bsO (txt x)),vS (bsO (txt y))])]) (fun k s=>k<=P.length/\s=evP (take k P) x y) (fun k _=>P.length-k) 0 0 Z ?_ (sb ae Z Z) ?_))
 · exact⟨zt _,rfl⟩
 intro k s hI0
 have hl:=hV.l
 refine E Z (B.jo Z un22) (Cp Z Z (fun h1=>?_) (fun h1=>?_))
 ·refine E Z (B.idx (z:=rrZ) (i:=k) Z Z un22 sz63 (fun _=>rfl) Z aa) (E Z (B.idx (z:=rrZ) (i:=k) Z Z un22 sz63 (fun _=>rfl) Z aa) (C Z (w122z x (fst (fst (getD P k rrZ))) (vr_k hV aa).1 hV.x) Z Z Z (E Z (B.idx (z:=rrZ) (i:=k) Z Z un22 sz63 (fun _=>rfl) Z aa) (C Z (w122z y (snd (fst (getD P k rrZ))) (vr_k hV aa).2 hV.y) Z Z Z (C Z (w69 (x ^ (toNat (fst (fst (getD P k rrZ))))) (y ^ (toNat (snd (fst (getD P k rrZ))))) eA) Z Z Z (C Z (w69 (snd (getD P k rrZ)) ((x ^ (toNat (fst (fst (getD P k rrZ)))))*(y ^ (toNat (snd (fst (getD P k rrZ)))))) eA) Z Z Z (C Z (w67 s ((snd (getD P k rrZ))*((x ^ (toNat (fst (fst (getD P k rrZ)))))*(y ^ (toNat (snd (fst (getD P k rrZ))))))) (vr_3 hI0.2 hV aa)) Z Z Z (Dr Z ae (E Z (B.add Z Z bg) (pk Z (L2 (k+1) (s+((snd (getD P k rrZ))*((x ^ (toNat (fst (fst (getD P k rrZ)))))*(y ^ (toNat (snd (fst (getD P k rrZ)))))))) ?_ ?_ (sb Z Z Z))))))))))))
  · (exact⟨aa,by rw[hI0.2];exact (vr_s aa).symm⟩)
  · omega
 refine Rt Z ?_
 exact leafL (val0:=vS (bsO (txt s))) (out0:=[]) (.inr Z) ae c8 rfl
theorem w30x (P:PL) (hV:DvR P):CKa 17 [vL eR P,vS (bsO [120])] (vL eR (nfP (derP 0 P))):=by
 refine cL 10 [] qf17 Z (nB Z) Z Z (kc (E Z (B.ZX (enc:=eR) Z) (E Z (B.adopt 15 3 63 Z Z) (l3 (fun (k:Nat) (v:Nat) (o:PL)=>[(0,vL eR P),(1,vS (bsO [120])),(5,.aref 15 v),(6,vI (k:Int))]) (fun _ v o=>[(15,.arr v 3 63 (List.map eR o))]) (fun k v o=>k<=P.length/\v=o.length/\o=derP 0 (take k P)) (fun k _ _=>P.length-k) 0 0 [] Z ?_ (sb Z Z Z) ?_))))
 · exact⟨zt _,rfl,rfl⟩
 intro k v o hI0
 have hl:=hV.l
 have hol:o.length<=100:=by rw[hI0.2.2];exact dvr_t hV
 refine E Z (B.jo Z un22) (Cp Z Z (fun h1=>?_) (fun h1=>?_))
 ·refine E Z (B.seqB (a:=[120]) (b:=[120]) Z Z) (Eg Z Z (fun hc=>B.move Z) Z (Eg Z Z (fun hc=>B.move Z) Z (Eg Z Z (fun hc=>B.idx (z:=rrZ) (i:=k) (qr Z hc) (qr Z hc) un22 sz63 (fun _=>rfl) Z cd) Z (Eg Z Z (fun hc=>B.fadP (qr Z hc) fa63_1 Z) Z (Eg Z Z (fun hc=>B.loadP (qr Z hc) ag3 sz3) Z (Eg Z Z (fun hc=>B.gtr (qr Z hc) Z) Z (E Z (B.pick Z Z Z (gdB Z) Z (pick_and _)) (Cb Z Z (fun h2=>?_) (fun h2=>?_)))))))))
  ·refine E Z (B.idx (z:=rrZ) (i:=k) Z Z un22 sz63 (fun _=>rfl) Z cd) (E Z (B.idx (z:=rrZ) (i:=k) Z Z un22 sz63 (fun _=>rfl) Z cd) (C Z (w70i (fst (fst (getD P k rrZ))) eC) Z Z Z (C Z (w69 (snd (getD P k rrZ)) (((fst (fst (getD P k rrZ))):Int):Rat) (dvr_1 hV aa)) Z Z Z (E Z (B.idx (z:=rrZ) (i:=k) Z Z un22 sz63 (fun _=>rfl) Z cd) (E Z (B.sub Z Z eD) (E Z (B.idx (z:=rrZ) (i:=k) Z Z un22 sz63 (fun _=>rfl) Z cd) (E Z (B.run (val:=.pv (.agg [pS (bsO (txt ((snd (getD P k rrZ))*(((fst (fst (getD P k rrZ))):Int):Rat)))),pI ((fst (fst (getD P k rrZ)))-1),pI (snd (fst (getD P k rrZ)))])) (m:=[]) (rd:=[]) ae) (E Z (B.runZ (val:=.pv (.slice (List.map eR [(((((fst (fst (getD P k rrZ)))-1)),((snd (fst (getD P k rrZ))))),(((snd (getD P k rrZ))*(((fst (fst (getD P k rrZ))):Int):Rat)):Rat))]))) (val0:=.aref 58 0) (m0:=[(58,.arr 0 3 63 [[pS (bsO (txt (snd (((((fst (fst (getD P k rrZ)))-1)),((snd (fst (getD P k rrZ))))),(((snd (getD P k rrZ))*(((fst (fst (getD P k rrZ))):Int):Rat)):Rat))))),pI (fst (fst (((((fst (fst (getD P k rrZ)))-1)),((snd (fst (getD P k rrZ))))),(((snd (getD P k rrZ))*(((fst (fst (getD P k rrZ))):Int):Rat)):Rat)))),pI (snd (fst (((((fst (fst (getD P k rrZ)))-1)),((snd (fst (getD P k rrZ))))),(((snd (getD P k rrZ))*(((fst (fst (getD P k rrZ))):Int):Rat)):Rat))))]])]) (rd:=[]) ae (fun l=>Frz.arr l _ _ _ _ _) Z) (E Z (B.append (enc:=eR) (l:=o) (r:=[(((((fst (fst (getD P k rrZ)))-1)),((snd (fst (getD P k rrZ))))),(((snd (getD P k rrZ))*(((fst (fst (getD P k rrZ))):Int):Rat)):Rat))]) Z Z Z un22 in63 Z (fun _=>rfl) by63 cd) (Dr Z ae (E Z (B.seqB (a:=[120]) (b:=[121]) Z Z) (Eg Z Z (fun hc=>B.move Z) Z (Eg Z Z (fun hc=>B.move Z) Z ?_)))))))))))))
   refine Eg Z Z (fun hc=>B.idx (z:=rrZ) (i:=k) (qr Z hc) (qr Z hc) un22 sz63 (fun _=>rfl) Z cd) Z (Eg Z Z (fun hc=>B.fadP (qr Z hc) fa63_2 Z) Z (Eg Z Z (fun hc=>B.loadP (qr Z hc) ag3 sz3) Z (Eg Z Z (fun hc=>B.gtr (qr Z hc) Z) Z (E Z (B.pick Z Z Z (gdB Z) Z (pick_and _)) (CF Z Z (E Z (B.add Z Z eD) (pk Z (L3 (k+1) (v+1) (o++[(((((fst (fst (getD P k rrZ)))-1)),((snd (fst (getD P k rrZ))))),(((snd (getD P k rrZ))*(((fst (fst (getD P k rrZ))):Int):Rat)):Rat))]) ?_ ?_ (sb Z Z Z)))))))))
   · (first|exact⟨aa,by rw[hI0.2.1,za];rfl,by rw[hI0.2.2];exact (dvr_x1 aa (cg_2 ab)).symm⟩|exact⟨aa,hI0.2.1,by rw[hI0.2.2];exact (dvr_x2 aa (fun g=>cg_4 ab ⟨rfl,g⟩)).symm⟩)
   · omega
  refine E Z (B.seqB (a:=[120]) (b:=[121]) Z Z) (Eg Z Z (fun hc=>B.move Z) Z (Eg Z Z (fun hc=>B.move Z) Z (Eg Z Z (fun hc=>B.idx (z:=rrZ) (i:=k) (qr Z hc) (qr Z hc) un22 sz63 (fun _=>rfl) Z cd) Z (Eg Z Z (fun hc=>B.fadP (qr Z hc) fa63_2 Z) Z (Eg Z Z (fun hc=>B.loadP (qr Z hc) ag3 sz3) Z (Eg Z Z (fun hc=>B.gtr (qr Z hc) Z) Z (E Z (B.pick Z Z Z (gdB Z) Z (pick_and _)) (CF Z Z (E Z (B.add Z Z eD) (pk Z (L3 (k+1) v o ?_ ?_ (sb Z Z Z))))))))))))
  · (first|exact⟨aa,by rw[hI0.2.1,za];rfl,by rw[hI0.2.2];exact (dvr_x1 aa (cg_2 ab)).symm⟩|exact⟨aa,hI0.2.1,by rw[hI0.2.2];exact (dvr_x2 aa (fun g=>cg_4 ab ⟨rfl,g⟩)).symm⟩)
  · omega
 refine Fz 9 5 Z Z Z (C Z (w123 o (by rw[hI0.2.2];exact dvr_l hV) (by rw[hI0.2.2];exact dvr_z hV)) Z Z Z ?_)
 refine Rt Z ?_
 exact leafL (val0:=vL eR (nfP o)) (out0:=[]) (.inr Z) ae (by exact lsl (by rw[hI0.2.2,zz aa])) rfl
theorem w30yy (P:PL) (hV:DvR P):CKa 17 [vL eR P,vS (bsO [121])] (vL eR (nfP (derP 1 P))):=by
 refine cL 10 [] qf17 Z (nB Z) Z Z (kc (E Z (B.ZX (enc:=eR) Z) (E Z (B.adopt 15 3 63 Z Z) (l3 (fun (k:Nat) (v:Nat) (o:PL)=>[(0,vL eR P),(1,vS (bsO [121])),(5,.aref 15 v),(6,vI (k:Int))]) (fun _ v o=>[(15,.arr v 3 63 (List.map eR o))]) (fun k v o=>k<=P.length/\v=o.length/\o=derP 1 (take k P)) (fun k _ _=>P.length-k) 0 0 [] Z ?_ (sb Z Z Z) ?_))))
 · exact⟨zt _,rfl,rfl⟩
 intro k v o hI0
 have hl:=hV.l
 have hol:o.length<=100:=by rw[hI0.2.2];exact dvr_t hV
 refine E Z (B.jo Z un22) (Cp Z Z (fun h1=>?_) (fun h1=>?_))
 ·refine E Z (B.seqB (a:=[121]) (b:=[120]) Z Z) (Eg Z Z (fun hc=>B.move Z) Z (Eg Z Z (fun hc=>B.move Z) Z (Eg Z Z (fun hc=>B.idx (z:=rrZ) (i:=k) (qr Z hc) (qr Z hc) un22 sz63 (fun _=>rfl) Z cd) Z (Eg Z Z (fun hc=>B.fadP (qr Z hc) fa63_1 Z) Z (Eg Z Z (fun hc=>B.loadP (qr Z hc) ag3 sz3) Z (Eg Z Z (fun hc=>B.gtr (qr Z hc) Z) Z (E Z (B.pick Z Z Z (gdB Z) Z (pick_and _)) (CF Z Z (E Z (B.seqB (a:=[121]) (b:=[121]) Z Z) (Eg Z Z (fun hc=>B.move Z) Z (Eg Z Z (fun hc=>B.move Z) Z (Eg Z Z (fun hc=>B.idx (z:=rrZ) (i:=k) (qr Z hc) (qr Z hc) un22 sz63 (fun _=>rfl) Z cd) Z (Eg Z Z (fun hc=>B.fadP (qr Z hc) fa63_2 Z) Z ?_)))))))))))))
  refine Eg Z Z (fun hc=>B.loadP (qr Z hc) ag3 sz3) Z (Eg Z Z (fun hc=>B.gtr (qr Z hc) Z) Z (E Z (B.pick Z Z Z (gdB Z) Z (pick_and _)) (Cb Z Z (fun h2=>?_) (fun h2=>?_))))
  ·refine E Z (B.idx (z:=rrZ) (i:=k) Z Z un22 sz63 (fun _=>rfl) Z cd) (E Z (B.idx (z:=rrZ) (i:=k) Z Z un22 sz63 (fun _=>rfl) Z cd) (C Z (w70i (snd (fst (getD P k rrZ))) eC) Z Z Z (C Z (w69 (snd (getD P k rrZ)) (((snd (fst (getD P k rrZ))):Int):Rat) (dvr_1 hV aa)) Z Z Z (E Z (B.idx (z:=rrZ) (i:=k) Z Z un22 sz63 (fun _=>rfl) Z cd) (E Z (B.idx (z:=rrZ) (i:=k) Z Z un22 sz63 (fun _=>rfl) Z cd) (E Z (B.sub Z Z eD) (E Z (B.run (val:=.pv (.agg [pS (bsO (txt ((snd (getD P k rrZ))*(((snd (fst (getD P k rrZ))):Int):Rat)))),pI (fst (fst (getD P k rrZ))),pI ((snd (fst (getD P k rrZ)))-1)])) (m:=[]) (rd:=[]) ae) (E Z (B.runZ (val:=.pv (.slice (List.map eR [((((fst (fst (getD P k rrZ)))),(((snd (fst (getD P k rrZ)))-1))),(((snd (getD P k rrZ))*(((snd (fst (getD P k rrZ))):Int):Rat)):Rat))]))) (val0:=.aref 95 0) (m0:=[(95,.arr 0 3 63 [[pS (bsO (txt (snd ((((fst (fst (getD P k rrZ)))),(((snd (fst (getD P k rrZ)))-1))),(((snd (getD P k rrZ))*(((snd (fst (getD P k rrZ))):Int):Rat)):Rat))))),pI (fst (fst ((((fst (fst (getD P k rrZ)))),(((snd (fst (getD P k rrZ)))-1))),(((snd (getD P k rrZ))*(((snd (fst (getD P k rrZ))):Int):Rat)):Rat)))),pI (snd (fst ((((fst (fst (getD P k rrZ)))),(((snd (fst (getD P k rrZ)))-1))),(((snd (getD P k rrZ))*(((snd (fst (getD P k rrZ))):Int):Rat)):Rat))))]])]) (rd:=[]) ae (fun l=>Frz.arr l _ _ _ _ _) Z) (E Z (B.append (enc:=eR) (l:=o) (r:=[((((fst (fst (getD P k rrZ)))),(((snd (fst (getD P k rrZ)))-1))),(((snd (getD P k rrZ))*(((snd (fst (getD P k rrZ))):Int):Rat)):Rat))]) Z Z Z un22 in63 Z (fun _=>rfl) by63 cd) (Dr Z ae (E Z (B.add Z Z eD) (pk Z (L3 (k+1) (v+1) (o++[((((fst (fst (getD P k rrZ)))),(((snd (fst (getD P k rrZ)))-1))),(((snd (getD P k rrZ))*(((snd (fst (getD P k rrZ))):Int):Rat)):Rat))]) ?_ ?_ (sb Z Z Z))))))))))))))
   · (first|exact⟨aa,by rw[hI0.2.1,za];rfl,by rw[hI0.2.2];exact (dvr_y1 aa (cg_2 ab)).symm⟩|exact⟨aa,hI0.2.1,by rw[hI0.2.2];exact (dvr_y2 aa (fun g=>cg_4 ab ⟨rfl,g⟩)).symm⟩)
   · omega
  refine E Z (B.add Z Z eD) (pk Z (L3 (k+1) v o ?_ ?_ (sb Z Z Z)))
  · (first|exact⟨aa,by rw[hI0.2.1,za];rfl,by rw[hI0.2.2];exact (dvr_y1 aa (cg_2 ab)).symm⟩|exact⟨aa,hI0.2.1,by rw[hI0.2.2];exact (dvr_y2 aa (fun g=>cg_4 ab ⟨rfl,g⟩)).symm⟩)
  · omega
 refine Fz 9 5 Z Z Z (C Z (w123 o (by rw[hI0.2.2];exact dvr_l hV) (by rw[hI0.2.2];exact dvr_z hV)) Z Z Z ?_)
 refine Rt Z ?_
 exact leafL (val0:=vL eR (nfP o)) (out0:=[]) (.inr Z) ae (by exact lsl (by rw[hI0.2.2,zz aa])) rfl
theorem w31 (P:PL) (hV:DvR P):CKa 18 [vL eR P] (vL eR (nfP (turP P))):=by
 refine cL 10 [] qf18 Z (nB Z) Z Z (kc (E Z (B.ZX (enc:=eR) Z) (E Z (B.adopt 13 3 63 Z Z) (l2 (fun (k:Nat) (o:PL)=>[(0,vL eR P),(3,.aref 13 k),(4,vI (k:Int))]) (fun k o=>[(13,.arr k 3 63 (List.map eR o))]) (fun k o=>k<=P.length/\o=turP (take k P)) (fun k _=>P.length-k) 0 [] Z ?_ (sb Z Z Z) ?_))))
 · exact⟨zt _,rfl⟩
 intro k o hI0
 have hl:=hV.l
 have hol:o.length=k:=by rw[hI0.2,turP,zI,zn];omega
 refine E Z (B.jo Z un22) (Cp Z Z (fun h1=>?_) (fun h1=>?_))
 ·refine E Z (B.idx (z:=rrZ) (i:=k) Z Z un22 sz63 (fun _=>rfl) Z eE) (E Z (B.idx (z:=rrZ) (i:=k) Z Z un22 sz63 (fun _=>rfl) Z eE) (E Z (B.remN Z Z eE ah) (Cj [(0,vL eR P),(3,.aref 13 k),(4,vI (k:Int)),(5,vS (bsO (txt (turT (getD P k rrZ)).2)))] [(13,.arr k 3 63 (List.map eR o))] Z Z Z (fun h2=>?_) (fun h2=>?_) ?_)))
  ·replace h2:=X3 h2
   refine C Z (w87 (snd (getD P k rrZ)) (dvr_g hV aa)) Z Z Z (pk Z ?_)
   show Sub _ _ _
   first|rw[tur_1 ab]|rw[tur_2 ab]
   exact sb Z Z rfl
  ·replace h2:=XJ h2
   refine pk Z ?_
   show Sub _ _ _
   first|rw[tur_1 ab]|rw[tur_2 ab]
   exact sb Z Z rfl
  refine E Z (B.idx (z:=rrZ) (i:=k) Z Z un22 sz63 (fun _=>rfl) Z eE) (E Z (B.idx (z:=rrZ) (i:=k) Z Z un22 sz63 (fun _=>rfl) Z eE) (E Z (B.run (val:=.pv (.agg [pS (bsO (txt (turT (getD P k rrZ)).2)),pI (snd (fst (getD P k rrZ))),pI (fst (fst (getD P k rrZ)))])) (m:=[]) (rd:=[]) ae) (E Z (B.runZ (val:=.pv (.slice (List.map eR [((((snd (fst (getD P k rrZ)))),((fst (fst (getD P k rrZ))))),((turT (getD P k rrZ)).2:Rat))]))) (val0:=.aref 49 0) (m0:=[(49,.arr 0 3 63 [[pS (bsO (txt (snd ((((snd (fst (getD P k rrZ)))),((fst (fst (getD P k rrZ))))),((turT (getD P k rrZ)).2:Rat))))),pI (fst (fst ((((snd (fst (getD P k rrZ)))),((fst (fst (getD P k rrZ))))),((turT (getD P k rrZ)).2:Rat)))),pI (snd (fst ((((snd (fst (getD P k rrZ)))),((fst (fst (getD P k rrZ))))),((turT (getD P k rrZ)).2:Rat))))]])]) (rd:=[]) ae (fun l=>Frz.arr l _ _ _ _ _) Z) (E Z (B.append (enc:=eR) (l:=o) (r:=[((((snd (fst (getD P k rrZ)))),((fst (fst (getD P k rrZ))))),((turT (getD P k rrZ)).2:Rat))]) Z Z Z un22 in63 Z (fun _=>rfl) by63 eE) (Dr Z ae (E Z (B.add Z Z eD) (pk Z (L2 (k+1) (o++[((((snd (fst (getD P k rrZ)))),((fst (fst (getD P k rrZ))))),((turT (getD P k rrZ)).2:Rat))]) ?_ ?_ (sb Z Z Z)))))))))
  · (exact⟨aa,by rw[hI0.2];exact (tur_s aa).symm⟩)
  · omega
 refine Fz 9 3 Z Z Z (C Z (w123 o (by rw[hI0.2];exact tur_l hV) (by rw[hI0.2];exact tur_z hV)) Z Z Z ?_)
 refine Rt Z ?_
 exact leafL (val0:=vL eR (nfP o)) (out0:=[]) (.inr Z) ae (by exact lsl c8) rfl
end Go.Lens.Tb
end
section
namespace Go.Lens
variable [Lz]
section
variable {P:Program} {Y:Tab} [qI P Y] {nb:Nat} {s:St} {dst:Option Tmp} {ty:TypeId} {pos:String} {af:Array Edge} {gd:Option (Nat×Bool)} {t:TypeId} {x y:Operand}
theorem B.idxG {g n len:Nat} {m:Int} {e:TypeId} (ht:Y.underlying t=some (.array len e)) (hs:szT Y e=some 1) (hy:ev1 s y=.pv (.lit (.int .i64 m))) (h1:1<len) (hn:m=(n:Int)) (hlt:n<len) :
  Body P Y nb s ⟨dst,.indexAddr t (.global g) y,ty,pos,af,gd⟩ (.pv (.lit (.pointer (some ⟨g,n,none⟩)))) [] []:=by
 subst hn
 refine .inr (jN.of fun σ G a w hv _ I=>?_)
 have hY:=hv y aS
 rw[hy] at hY
 obtain⟨hY,_⟩:=qw hY
 have hx:a.eval (.global g)=.pointer (some ⟨g,0,none⟩):=rfl
 have hrun:(Instr.indexAt t (.pointer (some ⟨g,0,none⟩)) (.int .i64 (n:Int))).run P w=.ok (.pointer (some ⟨g,n,none⟩)) w:=by
  have hl:¬len<=1:=aa
  simp only[Instr.indexAt,qo,asIntOf,qp,qG ht,qm,Instr.sureAddr,Int.natCast_nonneg,Int.ofNat_lt,hlt,Wo,qk,Sem.run_ite,qT hs,Addr.add_lit,hl,zT,KL,K3]
 refine⟨.pointer (some ⟨g,n,none⟩),w,G,.inl ?_,qC I.ctxS (by simp[qt,qJ,isLit]) (fun k hk=>by simp[DV.refs] at hk)⟩
 simp only[execOp,hx,hY,qo,hrun,qm,qp]
theorem B.loadG {g n:Nat} {tab:List Int} {T:TypeId} {fr:Nat×Nat} (hx:ev1 s x=.pv (.lit (.pointer (some ⟨g,n,none⟩)))) (hL:Lz.L g=some (.cells (tab.map fun z=>Value.int .i64 z).toArray T fr)) (ha:aggT Y t=some false) (hlt:n<tab.length) :
  Body P Y nb s ⟨dst,.load t x,ty,pos,af,gd⟩ (.pv (.lit (.int .i64 (tab.getD n 0)))) [] []:=by
 refine .inr (jN.of fun σ G a w hv _ I=>?_)
 have hX:=hv x aS
 rw[hx] at hX
 obtain⟨hX,_⟩:=qw hX
 have hc:w.cell? ⟨g,n,none⟩=some (.int .i64 (tab.getD n 0)):=by
  simp only[World.cell?,(I.laid _ _ hL).2]
  grind
 have hrun:(Instr.loadAt t (.pointer (some ⟨g,n,none⟩))).run P w=.ok (.int .i64 (tab.getD n 0)) w:=by
  simp only[Instr.loadAt,qo,Instr.sureAddr,qp,qm]
  exact kF ha hc
 refine⟨.int .i64 (tab.getD n 0),w,G,.inl ?_,qC I.ctxS (by simp[qt,qJ,isLit]) (fun k hk=>by simp[DV.refs] at hk)⟩
 simp only[execOp,hX,qo,hrun,qm,qp]
end
section
variable [Fc] {P:Program} {Y:Tab} [qI P Y] {nb n:Nat} {ops ops':Array Oper} {p q:Nat}
def seqB (ops:Array Oper):Array Bool->List Nat->Bool
 | listed,[]=>(Region.ready .any ops listed).isEmpty
 | listed,i::l=>(Region.ready .any ops listed==[i])&&seqB ops (listed.setIfInBounds i true) l
theorem any_seq (r:Option Nat):∀ {os:List Oper} {l:List Nat} {listed:Array Bool} {s:St} {es:List Ef},efsR P Y nb ops os s es->l.map (fun i=>ops[i]?)=os.map some->os.all (fun o=>dstOk n o.dst)=true->seqB ops listed l=true->
  ∀ {G:Gh} {a:Act} {w:World} {Q:Exit->Act->World->Prop},Inv G s.vw a w->a.tmps.size=n->
  (∀ G' a' w',Inv G' (es.foldl stp s).vw a' w'->Since nb (qq s.ms) G w (qq (es.foldl stp s).ms) G' w'->a'.tmps.size=n->a'.defers=a.defers->Q .normal a' w')->wpAnyIn (fcR r) 0 P .any ops Q l.length listed a w
 | [],l,listed,s,es,h,hl,_,hq,G,a,w,Q,I,hn,hK=>by
  have:l=[]:=by cases l with|nil=>rfl|cons i l=>simp at hl
  subst this
  simp only[efsR] at h
  subst h
  simp only[seqB,List.isEmpty_iff] at hq
  exact⟨hq,hK G a w I (Since.refl _ _ _ _) hn rfl⟩
 | o::os,l,listed,s,es,h,hl,hda,hq,G,a,w,Q,I,hn,hK=>by
  obtain⟨e,es',rfl,he,hes⟩:=h
  cases l with
  | nil=>simp at hl
  | cons i l=>
  simp only[zy,Jw] at hl
  obtain⟨hi,hl⟩:=hl
  simp only[Kd,zj] at hda
  simp only[seqB,zj,Wi] at hq
  obtain⟨hq1,hq2⟩:=hq
  have pd:∀ v,(a.put o.dst v).defers=a.defers:=fun v=>by cases hd:o.dst<;>rfl
  refine⟨fun hr=>(by rw[hq1] at hr;cases hr),fun j hj=>?_⟩
  rw[hq1,zg] at hj
  subst hj
  have key:=EfR.sound (P:=P) (π:=s) he hda.1 (fun _ _=>rfl) (fun _ _=>rfl) I hn (Q:=Q) (next:=wpAnyIn (fcR r) 0 P .any ops Q l.length (listed.setIfInBounds j true)) ?_
  ·unfold wpOpIn
   rw[hi]
   simp only
   split
   ·grind
   rename_i hw;rw[Ww hw] at key;exact⟨fun _ _=>trivial,key⟩
  intro G1 v w1 I1 Sn1
  rw[<-he.dst] at I1 Sn1
  refine any_seq r hes hl hda.2 hq2 (G:=G1) aQ aP ?_
  intro G2 a2 w2 I2 Sn2 hn2 hd2
  exact hK G2 a2 w2 I2 (Sn1.trans Sn2) hn2 (hd2.trans (pd v))
def Fork (P:Program) (Y:Tab) (nb n:Nat) (ops ops':Array Oper) (p q:Nat) (s:St) (es:List Ef) (QF:St->Prop):Prop:=
 ∀ listed:Array Bool,listed.size=ops.size->Down ops' (fun k=>listed.getD k false)->listed.getD p false=false->q∈Region.ready .any ops listed->
  ∃ (oq:Oper) (e:Ef) (l:List Nat) (es2:List Ef),ops[q]? =some oq/\dstOk n oq.dst=true/\l.length+1=listed.toList.count false/\EfR P Y nb ops (stK s es (fun k=>listed.getD k false) ops.size) oq e/\
   efsR P Y nb ops (l.filterMap (fun i=>ops[i]?)) (stp (stK s es (fun k=>listed.getD k false) ops.size) e) es2/\l.map (fun i=>ops[i]?)=(l.filterMap (fun i=>ops[i]?)).map some/\(l.filterMap (fun i=>ops[i]?)).all (fun o=>dstOk n o.dst)=true/\seqB ops (listed.setIfInBounds q true) l=true/\
   QF (es2.foldl stp (stp (stK s es (fun k=>listed.getD k false) ops.size) e))
theorem fork_any {s:St} {es:List Ef} {QF:St->Prop} (hes:efsR P Y nb ops' ops'.toList s es) (hds:ops'.toList.all (fun o=>dstOk n o.dst)=true) (hsl:slotsOk ops'=true) (hef:Zb ops' 0 es=true) (hsz':ops'.size=ops.size) (hps:p<ops.size)
  (hr1:∀ (listed:Array Bool) (i:Nat),i∈Region.ready .any ops listed->i∈Region.ready .any ops' listed\/(i=q/\listed.getD p false=false)) (hr2:∀ (listed:Array Bool) (i:Nat),i∈Region.ready .any ops' listed->i∈Region.ready .any ops listed)
  (hw:∀ {F:Fence} {Q:Exit->Act->World->Prop} {i:Nat} {next:Act->World->Prop} {a:Act} {w:World},wpOpIn F 0 P ops' Q i next a w->wpOpIn F 0 P ops Q i next a w)
  (hA:QF (es.foldl stp s)) (hB:Fork P Y nb n ops ops' p q s es QF) {Q:Exit->Act->World->Prop} (r:Option Nat) :
  ∀ (fuel:Nat) (listed:Array Bool),listed.size=ops.size->listed.toList.count false=fuel->Down ops' (fun k=>listed.getD k false)->
  ∀ {G:Gh} {a:Act} {w:World},Inv G (stK s es (fun k=>listed.getD k false) ops.size).vw a w->a.tmps.size=n->
  (∀ sF G' a' w',QF sF->Inv G' sF.vw a' w'->Since nb (qq (stK s es (fun k=>listed.getD k false) ops.size).ms) G w (qq sF.ms) G' w'->a'.tmps.size=n->a'.defers=a.defers->Q .normal a' w')->
  wpAnyIn (fcR r) 0 P .any ops Q fuel listed a w:=by
 intro fuel
 induction fuel with
 | zero=>
  intro listed hsz hc D G a w I hn hK
  have h0:=drawnR_any (P:=P) hes hds hsl hef r 0 listed (by rw[hsz'];exact hsz) hc D (Q:=Q) eG hn (fun G' a' w' I' Sn=>hK _ G' a' w' hA I' (by rw[hsz'] at Sn;exact Sn))
  refine⟨?_,h0.2⟩
  refine Qe.2 fun i hi=>?_
  rcases hr1 listed i hi with h|⟨rfl,h⟩
  ·rw[h0.1] at h;cases h
  have hp:p<listed.size:=aa
  have:false∈listed.toList:=by
   have e:listed[p]=false:=by simpa [zC,hp] using h
   grind
  grind
 | succ fuel ih=>
  intro listed hsz hc D G a w I hn hK
  have h0:=drawnR_any (P:=P) hes hds hsl hef r (fuel+1) listed (by rw[hsz'];exact hsz) hc D (Q:=Q) eG hn (fun G' a' w' I' Sn=>hK _ G' a' w' hA I' (by rw[hsz'] at Sn;exact Sn))
  refine⟨fun hr=>h0.1 (Qe.2 fun i hi=>by have:=hr2 listed i hi;rw[hr] at this;cases this),fun i hi=>?_⟩
  by_cases hi':i∈Region.ready .any ops' listed
  ·refine hw ?_
   unfold Region.ready at hi'
   obtain⟨hi1,hi2⟩:=Jz.1 hi'
   have hin:=J1.1 hi1
   have hil:i<listed.size:=aa
   simp only[zj,XM] at hi2
   obtain⟨h1,h2⟩:=hi2
   have h1':listed.getD i false=false:=by grind
   have ho:ops'[i]? =some ops'[i]:=Qv hin
   rw[ho] at h2
   simp only[qb,zO] at h2
   rw[<-Array.all_toList] at h2
   have hr:∀ e∈ops'[i].after.toList,Region.binds .any e=true->listed.getD e.on false=true:=by grind
   have hS:∀ k,(listed.setIfInBounds i true).getD k false=(listed.getD k false||Nat.beq k i):=by
    intro k
    simp only[zC,Qi]
    by_cases hk:i=k
    ·subst hk;simp[hil]
    have:Nat.beq k i=false:=Bool.eq_false_iff.mpr fun h=>hk (zD h).symm
    simp[hk,this]
   have hSf:(fun k=>(listed.setIfInBounds i true).getD k false)=(fun k=>listed.getD k false||Nat.beq k i):=funext hS
   refine drawnR_step (P:=P) hes hds hsl hef D ho h1' hr eG hn ?_ r
   rw[hsz']
   intro G' a' w' I' Sn hn' hd'
   refine ih (listed.setIfInBounds i true) (by simp[hsz]) ?_ ?_ (by rw[hSf];exact I') hn' ?_
   ·have:=count_set (l:=listed.toList) (i:=i) (by
      have:listed[i]? =some false:=by
       rw[Qv hil]
       simpa [zC,hil] using h1'
      simpa using this)
    grind
   ·rw[hSf]
    intro j o2 hj ho2 e2 he2 hb2
    simp only[Jo] at hj ⊢
    rcases hj with hj|hj
    ·exact .inl (D j o2 hj ho2 e2 he2 hb2)
    have:=zD hj
    subst this
    rw[ho] at ho2;cases ho2
    exact .inl (hr e2 he2 hb2)
   intro sF G2 a2 w2 hq2 I2 Sn2 hn2 hd2
   rw[hSf] at Sn2
   exact hK sF G2 a2 w2 hq2 I2 (Sn.trans Sn2) hn2 (hd2.trans hd')
  rcases hr1 listed i hi with h|⟨rfl,h⟩
  ·exact absurd h hi'
  have hp:listed.getD p false=false:=h
  obtain⟨oq,e,l,es2,k1,k2,k3,k4,k5,k6,k7,k8,k9⟩:=hB listed hsz D hp hi
  have hl:l.length=fuel:=aa
  have pd:∀ v,(a.put oq.dst v).defers=a.defers:=fun v=>by cases hd:oq.dst<;>rfl
  have key:=EfR.sound (P:=P) k4 k2 (fun _ _=>rfl) (fun _ _=>rfl) I hn (Q:=Q) (next:=wpAnyIn (fcR r) 0 P .any ops Q fuel (listed.setIfInBounds i true)) ?_
  ·unfold wpOpIn
   rw[k1]
   simp only
   split
   ·rename_i hw;rw[Wx hw] at key;exact key r
   rename_i hw;rw[Ww hw] at key;exact⟨fun _ _=>trivial,key⟩
  intro G1 v w1 I1 Sn1
  rw[<-k4.dst] at I1 Sn1
  rw[<-hl]
  refine any_seq r k5 k6 k7 k8 (G:=G1) (by rw[<-k4.dst];exact I1) aP ?_
  intro G2 a2 w2 I2 Sn2 hn2 hd2
  exact hK _ G2 a2 w2 k9 I2 (Sn1.trans Sn2) hn2 (hd2.trans (pd v))
def addE (ops:Array Oper) (p q:Nat):Array Oper:=ops.modify q fun o=>{ o with after:=o.after.push ⟨p,.data⟩ }
theorem addE_get (i:Nat):(addE ops p q)[i]? =if q=i then (ops[i]?).map (fun o=>{ o with after:=o.after.push ⟨p,.data⟩ }) else ops[i]? :=QV
theorem addE_size:(addE ops p q).size=ops.size:=by simp[addE]
theorem addE_ready {listed:Array Bool} {i:Nat}:i∈Region.ready .any (addE ops p q) listed↔i∈Region.ready .any ops listed/\(i=q->listed.getD p false=true):=by
 unfold Region.ready
 rw[Jz,Jz,addE_size,addE_get]
 by_cases e:q=i
 ·subst e
  cases h:ops[q]? with
  | none=>simp
  | some o=>
   simp only[qk,qb,zO,Array.all_push,zj,forall_const]
   have:Region.binds .any ⟨p,.data⟩=true:=rfl
   grind
 grind
theorem addE_yield (ts:Array Value):yielded (addE ops p q) ts=yielded ops ts:=by
 funext j
 unfold yielded
 rw[addE_get]
 grind
theorem addE_wp {F:Fence} {Q:Exit->Act->World->Prop} {i:Nat} {next:Act->World->Prop} {a:Act} {w:World} (h:wpOpIn F 0 P (addE ops p q) Q i next a w):wpOpIn F 0 P ops Q i next a w:=by
 unfold wpOpIn at h ⊢
 rw[addE_get,addE_yield] at h
 by_cases e:q=i
 ·rw[Wx e] at h
  cases ho:ops[i]? with
  | none=>rw[ho] at h;exact h
  | some o=>
   rw[ho] at h
   obtain⟨d,op,ty,pos,af,gd⟩:=o
   exact h
 rw[Ww e] at h;exact h
theorem TK.fork (hm:P.follows .mixedOrders=true) {id:Nat} {s s0:St} {K:List Fr} {es:List Ef} {Q:Exit->St->Prop} (p q:Nat) (hps:p<ops.size) (hda:jg n (.region id (addE ops p q) true)=true) (hes:efsR P Y nb (addE ops p q) (addE ops p q).toList s es) (hef:Zb (addE ops p q) 0 es=true)
  (hA:Wk nb (es.foldl stp s) s0) (hB:Fork P Y nb n ops (addE ops p q) p q s es (fun s'=>Wk nb s' s0)) (k:PK P n nb Q K .normal s0):TK P n nb Q (.region id ops true) K s:=by
 intro G a w R I hn hK
 simp only[jg,zj] at hda
 have hsl:slotsOk (addE ops p q)=true:=by simpa using hda.2
 refine wpIn_region_any hm ?_
 have h0:∀ k,(Array.replicate ops.size false).getD k false=false:=by
  intro k
  simp only[zC,QH]
  split<;>rfl
 have hst:stK s es (fun k=>(Array.replicate ops.size false).getD k false) ops.size=s:=by
  rw[stK_congr (S':=fun _=>false) (fun k _=>h0 k)]
  have:∀ m,stK s es (fun _=>false) m=s:=by
   intro m
   induction m with
   | zero=>rfl
   | succ m ih=>simp only[stK];split<;>simp[ih]
  exact this _
 refine fork_any (P:=P) hes hda.1 hsl hef addE_size hps (fun listed i hi=>by by_cases e:i=q->listed.getD p false=true;exact .inl (addE_ready.2 ⟨hi,e⟩);(have e2:=Classical.not_imp.1 e;exact .inr ⟨e2.1,by simpa using e2.2⟩)) (fun listed i hi=>(addE_ready.1 hi).1) addE_wp (QF:=fun s'=>Wk nb s' s0) hA hB _ ops.size _ ao ao ?_ (G:=G) ?_ hn ?_
 ·intro j o hj;have hj':(Array.replicate ops.size false).getD j false=true:=hj;rw[h0] at hj';cases hj'
 ·rw[hst];exact I.drew _
 rw[hst]
 intro sF G0 a' w' hq I0 Sn0 hn' hd'
 obtain⟨G',I',Sn1⟩:=hq I0
 have Sn:=Sn0.trans Sn1
 exact hK _ _ _ _ _ k I' ⟨⟨Sn.later.base,Sn.later.R0,Sn.later.R0c,Sn.later.R0m,Sn.later.os,Sn.later.tape,Sn.later.output,Sn.later.size,Sn.later.cold,fun e=>qc (K1 _) (Sn.later.drawn e)⟩,Sn.keeps,Sn.newb⟩ hn' (Mks.of hd')
theorem Wk.trans {s s1 s2:St} (h:Wk nb s s1) (k:Wk nb s1 s2):Wk nb s s2:=fun I=>by
 obtain⟨G1,I1,S1⟩:=h I
 obtain⟨G2,I2,S2⟩:=k I1
 exact⟨G2,I2,S1.trans S2⟩
theorem wk_shutK {s:St} {h:Nat} {R R':List (PV×PV)->Prop} (hm:qq s.ms h=some (.kmap R)) (hR:∀ kv,R kv->R' kv):Wk nb s ⟨s.tm,(h,.kmap R')::s.ms⟩:=fun {G a w} I=>by
 have H:qR G w h (.kmap R'):=by
  have:=I.ms h _ hm
  grind [qR]
 have S:=qZ (m:=.kmap R') (val:=.dead) (r:=undef) I.ctxS (B:=G.ρ h) hm aU (w':=w) Z Z Z Z (fun _ _=>rfl) aB cz ak am
 rw[Gh.qQ] at S
 obtain⟨I1,Sn1⟩:=I.eff (s:=s) (K:=nb) S none ao
 exact⟨G,I1,Sn1⟩
theorem ready_after {listed:Array Bool} {i:Nat} (h:i∈Region.ready .any ops listed) {o:Oper} (ho:ops[i]? =some o):listed.getD i true=false/\∀ e∈o.after.toList,Region.binds .any e=true->listed.getD e.on false=true:=by
 unfold Region.ready at h
 have h2:=(Jz.1 h).2
 rw[ho] at h2
 simp only[zj,XM,qb,zO] at h2
 obtain⟨h1,h2⟩:=h2
 rw[<-Array.all_toList] at h2
 grind
end
section
variable {P:Program} {Y:Tab} [qI P Y] {nb:Nat} {s:St} {dst:Option Tmp} {ty u:TypeId} {pos:String} {af:Array Edge} {gd:Option (Nat×Bool)} {t:TypeId} {x y:Operand} {a b:Int}
theorem B.idxB {h c n len:Nat} {m:Int} {e:TypeId} {o:MO} (ht:Y.underlying t=some (.array len e)) (hs:szT Y e=some 1) (hx:ev1 s x=.bref h c) (hm:qq s.ms h=some o) (hy:ev1 s y=lit (.int .i64 m)) (h1:1<len) (hn:m=(n:Int)) (hlt:n<len) :
  Body P Y nb s ⟨dst,.indexAddr t x y,ty,pos,af,gd⟩ (.bref h (c+n)) [] [h]:=by
 subst hn
 refine .inr (jN.of fun σ G a w hv hl I=>?_)
 have hX:=hv x aS
 have hY:=hv y aS
 rw[hx] at hX;rw[hy] at hY
 have hY:=(qw hY).1
 have hlk:qq σ.ms h=some o:=by grind
 simp only[qt] at hX
 obtain⟨ha,b,hb,hX⟩:=hX
 have hrun:(Instr.indexAt t (.pointer (some ⟨b,c,none⟩)) (.int .i64 (n:Int))).run P w=.ok (.pointer (some ⟨b,c+n,none⟩)) w:=by
  have hl:¬len<=1:=aa
  simp only[Instr.indexAt,qo,asIntOf,qp,qG ht,qm,Instr.sureAddr,Int.natCast_nonneg,Int.ofNat_lt,hlt,Wo,qk,Sem.run_ite,qT hs,Addr.add_lit,hl,zT,K3]
 refine⟨.pointer (some ⟨b,c+n,none⟩),w,G,.inl ?_,qC I.ctxS ?_ (fun k hk=>?_)⟩
 ·simp only[execOp,hX,hY,qo,hrun,qm,qp]
 ·grind [qt]
 grind [DV.refs]
theorem B.loadM {h c k:Nat} {T:TypeId} {ds:List DV} (hx:ev1 s x=.bref h c) (hm:qq s.ms h=some (.box T ds)) (ha:aggT Y t=some false) (hs:szT Y t=some 1) (hd:ds[c]? =some (.mref k)) :
  Body P Y nb s ⟨dst,.load t x,ty,pos,af,gd⟩ (.mref k) [] [h]:=by
 refine .inr (jN.of fun σ G a w hv hl I=>?_)
 have hX:=hv x aS
 rw[hx] at hX
 have hlk:qq σ.ms h=some (.box T ds):=by grind
 have hcl:=(Qz.1 hd).1
 have hq:ZS Y t (qq σ.ms) (.bref h c)=some (true,.mref k):=by grind [ZS]
 obtain⟨r,h1,h2⟩:=ZN (P:=P) I.ctxS.sees hq hX
 refine⟨r,w,G,.inl ?_,qC I.ctxS h2 (fun j hj=>?_)⟩
 ·simp only[execOp,qo,h1,qm,qp]
 refine I.refsM h _ j hlk ?_
 have hk:(DV.mref k)∈ds:=Q9 hd
 have:∀ (l:List DV),DV.mref k∈l->∀ j∈(DV.mref k).refs,j∈DV.qK l:=by
  intro l
  induction l with
  | nil=>intro h;cases h
  | cons d l ih=>
   grind [DV.qK]
 exact this ds hk j hj
end
section
variable [Fc] {P:Program} {Y:Tab} [qI P Y] {nb n:Nat} {Q:Exit->St->Prop} {K:List Fr} {ops:Array Oper} {B:List Oper}
def CutW (P:Program) (Y:Tab) (nb n:Nat) (Q:Exit->St->Prop) (K:List Fr) (ops:Array Oper) (B:List Oper) (s:St):Prop:=∃ s2,Wk nb s s2/\RG P Y nb ops false B s2 [] (PK P n nb Q K .normal)
theorem CutW.mk {s s2:St} (h:Wk nb s s2) (k:RG P Y nb ops false B s2 [] (PK P n nb Q K .normal)):CutW P Y nb n Q K ops B s:=⟨s2,h,k⟩
end
section
variable {P:Program} {Y:Tab} [qI P Y] {nb:Nat} {s:St} {dst:Option Tmp} {ty:TypeId} {pos:String} {af:Array Edge} {gd:Option (Nat×Bool)} {t:TypeId} {x y:Operand}
theorem B.arrP {e:TypeId} {c0 c1:PV} (ht:Y.underlying t=some (.array 2 e)) (hx:ev1 s x=.pv (.slice [[c0],[c1]])) :
  Body P Y nb s ⟨dst,.sliceToArrayPointer t x,ty,pos,af,gd⟩ (.pv (.box [c0,c1])) [] []:=by
 refine .inr (jN.of fun σ G a w hv _ I=>?_)
 have hX:=hv x aS
 rw[hx] at hX
 simp only[qt,qJ] at hX
 obtain⟨p,cap,hX,hl,H⟩:=hX
 rcases H with H|⟨b,off,esz,rfl,H⟩
 ·cases H
 simp only[qN,qS,zb,zd] at H
 obtain⟨rfl,⟨h0,_⟩,_,⟨h1,_⟩,_⟩:=H
 have hrun:(Instr.arrayAt t (.slice (some ⟨b,off,none⟩) 2 cap)).run P w=.ok (.pointer (some ⟨b,off,none⟩)) w:=by simp only[Instr.arrayAt,qo,qG ht,qm,Nat.lt_irrefl,ql,qp]
 refine⟨.pointer (some ⟨b,off,none⟩),w,G,.inl ?_,qC I.ctxS ?_ (fun k hk=>by simp[DV.refs] at hk)⟩
 ·grind [execOp,Sem.run_bind,List.length_cons,List.length_nil,Result.andThen_ok,Sem.run_pure]
 grind [qt,qJ,qS]
theorem run_eqA2 {it:TypeId} {a0 a1 b0 b1:Value} {r0 r1:Bool} (hk:Y.underlying t=some (.array 2 it)) (ha:aggT Y it=some false) (hz:szT Y it=some 1) (h0:∀ n w,(Op.equalIn (n+1) it a0 b0).run P w=.ok r0 w) (h1:∀ n w,(Op.equalIn (n+1) it a1 b1).run P w=.ok r1 w) (w:World) :
  (Op.equalIn 10000 t (.agg #[a0,a1]) (.agg #[b0,b1])).run P w=.ok (r0&&r1) w:=by
 have p0:∀ (a b:Value) (w:World),(part it #[a,b] 0).run P w=.ok a w:=fun a b w=>by simp[part,qo,km ha]
 have p1:∀ (a b:Value) (w:World),(part it #[a,b] 1).run P w=.ok b w:=fun a b w=>by simp[part,qo,km ha]
 have key:∀ n:Nat,(Op.equalIn (n+1+1) t (.agg #[a0,a1]) (.agg #[b0,b1])).run P w=.ok (r0&&r1) w:=fun n=>by
  rw[Op.equalIn]
  simp only[qo,qG hk,qm,qT hz]
  cases r0<;>cases r1<;>simp[Qa,Std.Legacy.Range.size,List.range',p0,p1,h0,h1]
 exact key 9998
theorem B.eqA2 {it u:TypeId} {a0 a1 b0 b1:Value} {r0 r1:Bool} (hb:Y.eqBad t=false) (hk:Y.underlying t=some (.array 2 it)) (ha:aggT Y it=some false) (hz:szT Y it=some 1) (h0:∀ n w,(Op.equalIn (n+1) it a0 b0).run P w=.ok r0 w) (h1:∀ n w,(Op.equalIn (n+1) it a1 b1).run P w=.ok r1 w)
  (hx:ev1 s x=.pv (.agg [.lit a0,.lit a1])) (hy:ev1 s y=.pv (.agg [.lit b0,.lit b1])) (op:BinOp) (ho:op=.eql\/op=.neq) :
  Body P Y nb s ⟨dst,.binOp op t x y u,ty,pos,af,gd⟩ (lit (.bool (if op=.eql then r0&&r1 else !(r0&&r1)))) [] []:=by
 refine .inr (jN.of fun σ G a w hv _ I=>?_)
 have hX:=hv x aS
 have hY:=hv y aS
 rw[hx] at hX;rw[hy] at hY
 simp only[qt,qJ,qu] at hX hY
 obtain⟨vx,hX,_,v1,l1,e1,⟨rfl,_⟩,v2,l2,e2,⟨rfl,_⟩,e3⟩:=hX
 obtain⟨vy,hY,_,u1,m1,f1,⟨rfl,_⟩,u2,m2,f2,⟨rfl,_⟩,f3⟩:=hY
 subst e3;subst e2;subst f3;subst f2
 have ex:vx= #[v1,v2]:=by grind
 have ey:vy= #[u1,u2]:=by grind
 subst ex;subst ey
 have hst:=qI.eqs P hb
 simp only[z7] at hst
 have key:=run_eqA2 (P:=P) hk ha hz h0 h1 w
 refine⟨.bool (if op=.eql then r0&&r1 else !(r0&&r1)),w,G,.inl ?_,qC I.ctxS (qH Z) (fun k hk=>by simp[lit,DV.refs] at hk)⟩
 rcases ho with rfl|rfl
 ·simp only[execOp,hX,hY,qo,run_eqGuard_agg w _ t x y _ _ hst.2,qm,run_eql_struct,key,qk]
  rfl
 simp only[execOp,hX,hY,qo,run_eqGuard_agg w _ t x y _ _ hst.2,qm,run_neq_struct,key]
 rfl
theorem eqI_run {it:TypeId} (hi:Y.underlying it=some (.int .i64)) (a b:Int) (n:Nat) (w:World):(Op.equalIn (n+1) it (.int .i64 a) (.int .i64 b)).run P w=.ok (a==b) w:=by rw[Op.equalIn];simp[qG hi]
theorem eqS_run {it:TypeId} (hi:Y.underlying it=some .string) (a b:ByteArray) (n:Nat) (w:World):(Op.equalIn (n+1) it (.string a) (.string b)).run P w=.ok (a==b) w:=by rw[Op.equalIn];simp[qG hi]
end
abbrev YOrc:=Nat->Array Tmp->Code->Code->List DV->List DV->Na->Option (DV×Na)
def YOrcOk (P:Program) (U:YOrc):Prop:=∀ h ps asg bd ds xs l val ms,U h ps asg bd ds xs l=some (val,ms)->YldOk P h ps asg bd ds xs (qq l) val ms
abbrev XOp:=Nat->St->Oper->Option (DV×Na×List Nat)
def XOpOk (P:Program) (Y:Tab) (X:XOp):Prop:=∀ nb s o val m rd,X nb s o=some (val,m,rd)->Body P Y nb s o val m rd
theorem SubL.sel {ms:Na}:∀ {ns:List Nat},SubL ms (sel ms ns)
 | []=>trivial
 | h::ns=>by
  simp only[Go.Lens.sel]
  split
  ·rename_i o ho;exact⟨ho,SubL.sel⟩
  exact SubL.sel
noncomputable def fitE (ms l:Na) (r:Option (DV×Na)):Option (DV×Na×List Nat):=match r with
 | some (val,out)=>bif qY l&&out.all (fun p=>jB l p.1||!jB ms p.1) then some (val,out,l.map (·.1)) else none
 | none=>none
theorem fitE_ok {ms l:Na} {r:Option (DV×Na)} {val:DV} {m:Na} {rd:List Nat} (h:fitE ms l r=some (val,m,rd)):r=some (val,m)/\rd=l.map (·.1)/\qY l=true/\m.all (fun p=>jB l p.1||!jB ms p.1)=true:=by
 unfold fitE at h
 split at h
 ·rename_i v o
  cases hb:(qY l&&o.all (fun p=>jB l p.1||!jB ms p.1)) with
  | false=>rw[hb] at h;cases h
  | true=>
   rw[hb] at h
   simp only[Wm,zh,zx] at h
   obtain⟨rfl,rfl,rfl⟩:=h
   simp only[zj] at hb
   exact⟨rfl,rfl,hb.1,hb.2⟩
 cases h
noncomputable def yOp (O:Orc) (U:YOrc) (X:XOp) (Y:Tab) (nb:Nat) (s:St) (o:Oper):Option (DV×Na×List Nat):=
 match o.op with
 | .call ⟨.value f,args,_⟩=>match ev1 s f with
  | .yld h ps asg bd ds=>
   hfVs false false (args.toList.map (ev1 s)) fun xs=>
   hfSp (sel s.ms (jR s.ms 10000 (h::(DV.qK ds++DV.qK xs)) [])) fun l=>
   fitE s.ms l (U h ps asg bd ds xs l)
  | d=>match tgtX d with
   | some (fid,first,caps)=>
    hfVs false false (first++args.toList.map (ev1 s)++caps) fun ds=>
    hfSp (sel s.ms (jR s.ms 10000 (DV.qK ds) [])) fun l=>
    hfN (maxN s.ms nb) fun lo=>fitE s.ms l (O fid lo ds l)
   | none=>none
 | _=>match X nb s o with
  | some r=>some r
  | none=>bodyX Y nb s o
section
variable {P:Program} {Y:Tab} [qI P Y] {O:Orc} {U:YOrc} {X:XOp} {fr:Oper->Bool} {nb n:Nat}
theorem yOp_ok (hO:kQ P O) (hZ:YOrcOk P U) (hX:XOpOk P Y X) {s:St} {o:Oper} {val:DV} {m:Na} {rd:List Nat} (h:yOp O U X Y nb s o=some (val,m,rd)):Body P Y nb s o val m rd:=by
 obtain⟨dst,op,ty,pos,af,gd⟩:=o
 unfold yOp at h
 simp only[hfVs_eq,hfSp_eq,kC] at h
 split at h
 ·split at h
  ·rename_i hf
   obtain⟨h1,rfl,h3,h4⟩:=fitE_ok h
   exact B.yieldS (hZ _ _ _ _ _ _ _ _ _ h1) hf Z SubL.sel h3 h4
  split at h
  ·rename_i ht
   obtain⟨h1,rfl,h3,h4⟩:=fitE_ok h
   exact B.jK (hO _ _ _ _ _ _ h1) ht Z SubL.sel h3 h4
  cases h
 split at h
 ·rename_i hr;cases h;exact hX _ _ _ _ _ _ hr
 exact B.run h
noncomputable def yRg (O:Orc) (U:YOrc) (X:XOp) (Y:Tab) (nb:Nat) (ops:Array Oper) (dr:Bool) (os:List Oper):St->List Ef->Option St:=
 List.rec (motive:=fun _=>St->List Ef->Option St) (fun s acc=>bif !dr||Zb ops 0 acc then some s else none)
  (fun o _ ih s acc=>match gcond ops s o.guard with
   | some true=>match yOp O U X Y nb s o with
    | some (v,m,rd)=>hfE s o.dst v m rd fun s e=>ih s (acc++[e])
    | none=>none
   | some false=>hfE s o.dst (.gd false (lit (.bool false))) [] [] fun s e=>ih s (acc++[e])
   | none=>none) os
theorem yRg_ok (hO:kQ P O) (hZ:YOrcOk P U) (hX:XOpOk P Y X) {ops:Array Oper} {dr:Bool} {Q:St->Prop}:∀ (os:List Oper) {s s':St} {acc:List Ef},yRg O U X Y nb ops dr os s acc=some s'->Q s'->RG P Y nb ops dr os s acc Q
 | [],s,s',acc,h,q=>by
  replace h:(bif !dr||Zb ops 0 acc then some s else none)=some s':=h
  cases hb:(!dr||Zb ops 0 acc) with
  | false=>rw[hb] at h;cases h
  | true=>
   rw[hb] at h
   cases h
   exact RG.nil (fun hd=>by rw[hd] at hb;simpa using hb) q
 | o::os,s,s',acc,h,q=>by
  replace h:(match gcond ops s o.guard with
   | some true=>match yOp O U X Y nb s o with
    | some (v,m,rd)=>hfE s o.dst v m rd fun s e=>yRg O U X Y nb ops dr os s (acc++[e])
    | none=>none
   | some false=>hfE s o.dst (.gd false (lit (.bool false))) [] [] fun s e=>yRg O U X Y nb ops dr os s (acc++[e])
   | none=>none)=some s':=h
  simp only[hfE_eq] at h
  split at h
  ·rename_i hg
   split at h
   ·rename_i hy;exact RG.cons (EfR.on hg (yOp_ok hO hZ hX hy)) (yRg_ok hO hZ hX os h q)
   cases h
  ·rename_i hg;exact RG.cons (EfR.off hg) (yRg_ok hO hZ hX os h q)
  cases h
noncomputable def frz1 (s:St) (t:Nat):St:=match jD s.tm t with
 | .aref h v=>match qq s.ms h with
  | some (.arr v' _ _ es)=>bif Nat.beq v v' then ⟨(t,.pv (.slice es))::s.tm,(h,.farr v es)::s.ms⟩ else s
  | _=>s
 | _=>s
theorem Wk.refl {nb:Nat} {s:St}:Wk nb s s:=fun I=>⟨_,I,Since.refl _ _ _ _⟩
theorem Wk.tr {nb:Nat} {s s1 s2:St} (h:Wk nb s s1) (k:Wk nb s1 s2):Wk nb s s2:=fun I=>by
 obtain⟨G1,I1,S1⟩:=h I
 obtain⟨G2,I2,S2⟩:=k I1
 exact⟨G2,I2,S1.trans S2⟩
theorem Wk.frz1 {nb:Nat} {s:St} {t:Nat}:Wk nb s (frz1 s t):=by
 unfold Go.Lens.frz1
 split
 ·rename_i h v ht
  split
  ·rename_i v' sz T es hm
   cases hb:Nat.beq v v' with
   | false=>exact Wk.refl
   | true=>
    have:=zD hb
    subst this
    simp only[Wm]
    exact @wk_frz _ nb s t h _ (.farr v es) (.slice es) ht ao aR (by simp[pvOf,qx])
  exact Wk.refl
 exact Wk.refl
noncomputable def frzR (fr:Oper->Bool) (ops:Array Oper) (s:St):St:=bif ops.toList.any fr then (s.tm.map (·.1)).foldl frz1 s else s
theorem Wk.frzR {fr:Oper->Bool} {nb:Nat} {ops:Array Oper} {s:St}:Wk nb s (frzR fr ops s):=by
 unfold Go.Lens.frzR
 cases ops.toList.any fr with
 | false=>exact Wk.refl
 | true=>
  have key:∀ (l:List Nat) (s:St),Wk nb s (l.foldl Go.Lens.frz1 s):=by
   intro l
   induction l with
   | nil=>intro s;exact Wk.refl
   | cons t l ih=>intro s;exact Wk.frz1.tr (ih _)
  simp only[Wm]
  exact @key _ _
def nodB:List Nat->Bool
 | []=>true
 | a::l=>!(l.any (Nat.beq a))&&nodB l
theorem nodB_ok:∀ {l:List Nat},nodB l=true->l.Nodup
 | [],_=>J2
 | a::l,h=>by
  simp only[nodB,zj,XM,List.any_eq_false] at h
  refine JA.2 ⟨fun hm=>?_,nodB_ok h.2⟩
  exact h.1 a hm (Kx a)
noncomputable def rgEnd (h:Nat) (s:St) (r:Option (DV×Na)):Option (Exit×St):=match r with
 | some (_,out)=>bif !nodB (out.map (·.1)) then none else match qq out h with
  | some (.lrec .ready false)=>hfSt ⟨s.tm,(h,.gone)::(out.filter (fun p=>!Nat.beq p.1 h)++s.ms)⟩ fun s=>some (.normal,s)
  | some (.lrec .done true)=>hfSt ⟨s.tm,(h,.gone)::(out.filter (fun p=>!Nat.beq p.1 h)++s.ms)⟩ fun s=>some (.ret,s)
  | _=>none
 | none=>none
noncomputable def gcF (nb:Nat) (s:St):Option St:=match gcX nb s with
 | some s=>hfSt s some
 | none=>none
theorem gcF_eq:gcF nb=gcX nb:=funext fun s=>by
 unfold gcF
 split
 ·rename_i h;rw[hfSt_eq,h]
 rename_i h;rw[h]
variable (O U X fr Y n nb) in
noncomputable def yCode (en:FuncId->Bool) (rg:Bool) (kp:Nat) (c:Code) (s:St):Option (Exit×St):=
 Code.rec (motive:=fun _=>St->Option (Exit×St))
  (fun s=>some (.normal,s))
  (fun _ ops dr s=>match yRg O U X Y nb ops dr ops.toList (frzR fr ops s) [] with
   | some s'=>hfSp (keepF kp s'.tm) fun tm=>some (.normal,⟨tm,s'.ms⟩)
   | none=>none)
  (fun _ _ ix iy s=>match ix s with
   | some (.normal,s')=>iy s'
   | r=>r)
  (fun c _ _ ix iy s=>match evS s c with
   | .pv (.lit (.bool true))=>ix s
   | .pv (.lit (.bool false))=>iy s
   | _=>none)
  (fun id _ ic s=>match ic s with
   | some (.exit i,s')=>bif Nat.beq i id then some (.normal,s') else some (.exit i,s')
   | r=>r)
  (fun _ ic s=>iterX (gcF nb) ic 100000 s)
  (fun g ps asg bd _ _ s=>match tgtX (ev1 s g) with
   | some (f,first,caps)=>
    bif !(rg&&en f) then none else hfN (maxN s.ms nb+1) fun h=>hfVs false false (first++[.yld h ps asg bd ((List.range n).map (jD s.tm))]++caps) fun xs=>rgEnd h s (O f h xs ((h,.lrec .ready false)::s.ms))
   | none=>none)
  (fun id s=>some (.exit id,s))
  (fun _ ic s=>bif rg then (match ic s with
   | some (.goto _,_)=>none
   | r=>r) else none)
  (fun _ s=>some (.normal,s))
  (fun _ _=>none)
  (fun s=>some (.ret,s))
  (fun _ _=>none) c s
theorem T.wkPost [Fc] {c:Code} {s sA sB:St} {e0:Exit} (h:T P n nb c s fun e s1=>e=e0/\s1=sA) (hw:Wk nb sA sB):T P n nb c s fun e s1=>e=e0/\s1=sB:=by
 intro G a w R I hn hK
 refine h G a w R I hn ?_
 rintro e s1 G1 a1 w1 ⟨rfl,rfl⟩ I1 Sn1 hn1 hd1
 obtain⟨G2,I2,Sn2⟩:=hw I1
 exact hK _ _ _ _ _ ⟨rfl,rfl⟩ I2 (Sn1.trans Sn2) hn1 (Mks.next Sn1 hd1 Sn2 (Mks.of Z))
theorem maxN_no {ms:Na} {nb:Nat}:qq ms (maxN ms nb+1)=none:=by
 cases h:qq ms (maxN ms nb+1) with
 | none=>rfl
 | some o=>
  have:=(maxN_le ms nb).2 _ (ji h)
  simp only at this
  omega
theorem getD_rg {tm:List (Nat×DV)} {i:Nat} (h:i<n):((List.range n).map (jD tm)).getD i .dead=jD tm i:=by
 simp[ze,h]
theorem nbeq {a b:Nat} (h:a≠b):Nat.beq a b=false:=by
 cases hb:Nat.beq a b with
 | false=>rfl
 | true=>exact absurd (zD hb) h
theorem filt_perm {h:Nat} {m:MO}:∀ {l:Na},(l.map (·.1)).Nodup->qq l h=some m->((h,m)::l.filter (fun p=>!Nat.beq p.1 h)).Perm l
 | [],_,e=>by cases e
 | (k,o)::l,hd,e=>by
  rw[qx] at e
  simp only[zy,JA] at hd
  split at e
  ·rename_i hk
   subst hk
   cases e
   have:l.filter (fun p=>!Nat.beq p.1 k)=l:=by
    rw[Xh]
    intro p hp
    have hne:p.1≠k:=fun e=>hd.1 (by rw[<-e];exact zE.2 ⟨p,hp,rfl⟩)
    simp[nbeq hne]
   rw[List.filter_cons_of_neg ao,this]
  rename_i hk
  have ih:=filt_perm hd.2 e
  rw[List.filter_cons_of_pos (by simp[nbeq hk])]
  exact (List.Perm.swap _ _ _).trans (ih.cons _)
theorem rgEnd_ok {g:Operand} {ps:Array Tmp} {asg bd:Code} {s s':St} {e:Exit} {f:FuncId} {first caps:List DV} (hO:kQ P O) (he:∀ args w,(callFunc f args).run P w=.ok (.enter f args) w) (hg:tgtX (ev1 s g)=some (f,first,caps))
  (h:rgEnd (maxN s.ms nb+1) s (O f (maxN s.ms nb+1) (first++[.yld (maxN s.ms nb+1) ps asg bd ((List.range n).map (jD s.tm))]++caps) ((maxN s.ms nb+1,.lrec .ready false)::s.ms))=some (e,s')) :
  T P n nb (.rangeFunc g ps asg bd) s fun e2 s2=>e2=e/\s2=s':=by
 unfold rgEnd at h
 simp only[hfSt_eq] at h
 split at h
 ·rename_i val out ho
  have hc:=hO _ _ _ _ _ _ ho
  cases hb:nodB (out.map (·.1)) with
  | false=>rw[hb] at h;cases h
  | true=>
  rw[hb] at h
  simp only[Ka,Wj] at h
  have hd:=nodB_ok hb
  have key:∀ (st:LoopState) (pe:Bool),qq out (maxN s.ms nb+1)=some (.lrec st pe)->st≠.busy->T P n nb (.rangeFunc g ps asg bd) s fun e2 s2=>e2=(bif pe then .ret else .normal)/\s2=⟨s.tm,(maxN s.ms nb+1,.gone)::(out.filter (fun p=>!Nat.beq p.1 (maxN s.ms nb+1))++s.ms)⟩:=by
   intro st pe hl hst
   refine T.range (hl:=maxN s.ms nb+1) (ds:=(List.range n).map (jD s.tm)) (val:=val) (out:=out.filter (fun p=>!Nat.beq p.1 (maxN s.ms nb+1))) (st:=st) pe he hg maxN_no ao (fun i hi=>.inl (getD_rg hi)) ?_ hst ?_ ?_
   ·exact⟨hc.refs,fun G w vs M hv=>(hc.call G w vs M hv).mono fun r w' ⟨G',S⟩=>⟨G',S.perm (filt_perm hd hl)⟩⟩
   ·intro p hp
    have:=(Jz.1 hp).2
    intro e
    rw[e] at this
    simp at this
   exact⟨rfl,rfl⟩
  split at h
  ·rename_i hl
   cases h
   exact key _ _ hl ao
  ·rename_i hl
   cases h
   exact key _ _ hl ao
  cases h
 cases h
theorem yCode_ok [fc:Fc] (hm:P.follows .mixedOrders=true) (hO:kQ P O) (hZ:YOrcOk P U) (hX:XOpOk P Y X) {en:FuncId->Bool} (he:∀ f,en f=true->∀ args w,(callFunc f args).run P w=.ok (.enter f args) w) {rg:Bool} (hr:rg=true->fc=fc0) {kp:Nat} :
  ∀ (c:Code),jg n c=true->∀ {s s':St} {e:Exit},yCode Y O U X fr nb n en rg kp c s=some (e,s')->T P n nb c s fun e2 s2=>e2=e/\s2=s':=by
 intro c
 induction c with
 | skip=>intro hda s s' e h;cases h;exact T.skip ⟨rfl,rfl⟩
 | exit id=>intro hda s s' e h;cases h;exact T.exit ⟨rfl,rfl⟩
 | ret=>intro hda s s' e h;cases h;exact T.ret ⟨rfl,rfl⟩
 | label l=>intro hda s s' e h;cases h;exact TK.label (K:=[]) (l:=l) (show PK P n nb _ [] .normal s from ⟨rfl,rfl⟩)
 | seq x y ihx ihy=>
  intro hda s s' e h
  replace h:(match yCode Y O U X fr nb n en rg kp x s with
   | some (.normal,s')=>yCode Y O U X fr nb n en rg kp y s'
   | r=>r)=some (e,s'):=h
  simp only[jg,zj] at hda
  split at h
  ·rename_i s1 h1
   refine T.seq (ihx hda.1 h1) (fun s2 hs=>?_) (fun e2 s2 hne hs=>absurd hs.1 hne)
   rw[hs.2];exact ihy hda.2 h
  rename_i hne
  refine T.seq (ihx hda.1 h) (fun s2 hs=>?_) (fun e2 s2 _ hs=>hs)
  have:=hs.1
  subst this
  exact absurd h (hne s')
 | cond c x y ihx ihy=>
  intro hda s s' e h
  replace h:(match evS s c with
   | .pv (.lit (.bool true))=>yCode Y O U X fr nb n en rg kp x s
   | .pv (.lit (.bool false))=>yCode Y O U X fr nb n en rg kp y s
   | _=>none)=some (e,s'):=h
  simp only[jg,zj] at hda
  split at h
  ·rename_i hc;exact T.cond hc (fun _=>ihx hda.1 h) (fun e=>by cases e)
  ·rename_i hc;exact T.cond hc (fun e=>by cases e) (fun _=>ihy hda.2 h)
  cases h
 | block id c ih=>
  intro hda s s' e h
  replace h:(match yCode Y O U X fr nb n en rg kp c s with
   | some (.exit i,s')=>bif Nat.beq i id then some (.normal,s') else some (.exit i,s')
   | r=>r)=some (e,s'):=h
  split at h
  ·rename_i i s1 h1
   refine T.block (T.mono (ih eH h1) ?_)
   rintro e2 s2 ⟨rfl,rfl⟩
   simp only
   cases hb:Nat.beq i id with
   | true=>
    rw[hb] at h
    have:=zD hb
    subst this
    cases h
    rw[Wx rfl];exact⟨rfl,rfl⟩
   | false=>
    rw[hb] at h
    cases h
    rw[Ww (fun e=>by subst e;rw[Kx] at hb;cases hb)];exact⟨rfl,rfl⟩
  rename_i hne
  refine T.block (T.mono (ih eH h) ?_)
  rintro e2 s2 ⟨rfl,rfl⟩
  cases e2 with
  | exit i=>exact absurd h (hne i s2)
  | _=>exact⟨rfl,rfl⟩
 | loop c ih=>
  intro hda s s' e h
  replace h:iterX (gcF nb) (yCode Y O U X fr nb n en rg kp c) 100000 s=some (e,s'):=h
  rw[gcF_eq] at h
  refine T.loop (fun k s=>iterX (gcX nb) (yCode Y O U X fr nb n en rg kp c) k s=some (e,s')) ?_ h
  intro k s hk
  cases k with
  | zero=>cases hk
  | succ k=>
   rw[iterX_succ] at hk
   split at hk
   ·rename_i s1 h1
    split at hk
    ·rename_i s2 h2
     refine T.mono (T.wkPost (ih eH h1) (fun I=>I.gcX h2)) ?_
     rintro e2 s3 ⟨rfl,rfl⟩
     exact⟨k,Nat.lt_succ_self k,hk⟩
    cases hk
   rename_i hne
   refine T.mono (ih eH hk) ?_
   rintro e2 s3 ⟨rfl,rfl⟩
   cases e2 with
   | normal=>exact absurd hk (hne s3)
   | _=>exact⟨rfl,rfl⟩
 | region id ops dr=>
  intro hda s s' e h
  replace h:(match yRg O U X Y nb ops dr ops.toList (frzR fr ops s) [] with
   | some s'=>hfSp (Go.Lens.keepF kp s'.tm) fun tm=>some (.normal,⟨tm,s'.ms⟩)
   | none=>none)=some (e,s'):=h
  simp only[hfSp_eq] at h
  split at h
  ·rename_i s1 h1
   cases h
   exact T.wkPost (sA:=s1) (T.weak Wk.frzR (T.rg (Y:=Y) hm hda (yRg_ok hO hZ hX _ h1 ⟨rfl,rfl⟩))) (fun I=>I.keepF nb kp)
  cases h
 | rangeFunc g ps asg bd _ _=>
  intro hda s s' e h
  replace h:(match tgtX (ev1 s g) with
   | some (f,first,caps)=>
    bif !(rg&&en f) then none else hfN (maxN s.ms nb+1) fun h=>hfVs false false (first++[.yld h ps asg bd ((List.range n).map (jD s.tm))]++caps) fun xs=>rgEnd h s (O f h xs ((h,.lrec .ready false)::s.ms))
   | none=>none)=some (e,s'):=h
  split at h
  ·rename_i hg
   simp only[kC,hfVs_eq] at h
   cases hb:(rg&&en _) with
   | false=>rw[hb] at h;cases h
   | true=>
    rw[hb] at h
    simp only[zj] at hb
    have:=hr hb.1
    subst this
    exact rgEnd_ok hO (he _ hb.2) hg h
  cases h
 | scope c ih=>
  intro hda s s' e h
  replace h:(bif rg then (match yCode Y O U X fr nb n en rg kp c s with
   | some (.goto _,_)=>none
   | r=>r) else none)=some (e,s'):=h
  cases rg with
  | false=>cases h
  | true=>
   simp only[Wm] at h
   have:=hr rfl
   subst this
   split at h
   ·cases h
   rename_i hne
   refine TK.scope (K:=[]) (Q:=fun e2 s2=>e2=e/\s2=s') (fun l s2 hq=>?_) (ih eH h)
   rw[<-hq.1] at h
   exact hne l s' h
 | _=>intro hda s s' e h;cases h
end
theorem AgM.sel {ms:Na}:∀ {ns:List Nat},AgM ms (sel ms ns)
 | []=>trivial
 | h::ns=>by
  simp only[Go.Lens.sel]
  split
  ·rename_i o ho;exact⟨ho,AgM.sel⟩
  exact AgM.sel
theorem look_sel {ms:Na}:∀ {ns:List Nat} {h:Nat} {o:MO},(h,o)∈sel ms ns->qq (sel ms ns) h=some o
 | [],h,o,hm=>by cases hm
 | k::ns,h,o,hm=>by
  have hl:=sel_mem hm
  simp only[Go.Lens.sel] at hm ⊢
  split at hm
  ·rename_i o' ho'
   rw[qx]
   split
   ·rename_i e;rw[<-e,ho'] at hl;exact hl
   rename_i e
   rcases zF.1 hm with e2|e2
   ·cases e2;exact absurd Z e
   exact look_sel e2
  exact look_sel hm
noncomputable def yFin (h nb:Nat) (l:Na) (b:Bool) (s:St):Option (DV×Na):=match qq s.ms h with
 | some (.lrec .busy false)=>
  let out:=sel s.ms ((jR s.ms 20000 (l.map (·.1)) []).filter fun k=>!Nat.beq k h)
  bif l.all (fun p=>jB ((h,.gone)::out) p.1)&&qY ((h,.gone)::out)&&(qY ((h,.lrec .busy false)::out)&&s.ms.all (fun p=>Nat.ble nb p.1||jB ((h,.lrec .busy false)::out) p.1)) then some (lit (.bool b),(h,.lrec (bif b then .ready else .done) (!b))::out) else none
 | _=>none
noncomputable def yYld (O:Orc) (U:YOrc) (X:XOp) (fr:Oper->Bool) (Y:Tab) (en:FuncId->Bool):YOrc:=fun h ps asg bd ds xs l=>
 match qq l h with
 | some (.lrec .ready false)=>
  bif Nat.beq ps.toList.length xs.length&&ps.toList.all (fun t=>Nat.blt t ds.length)&&(DV.qK (xs++ds)).all (jB l)&&(jg ds.length asg&&jg ds.length bd) then
   hfN (maxN l 0+1) fun nb=>hfN ds.length fun n=>hfSp (zipP ps.toList xs (zipT 0 ds)) fun tm=>match yCode Y O U X fr nb n en false (2 ^ n-1) asg ⟨tm,l⟩ with
   | some (.normal,s1)=>match qq s1.ms h with
    | some (.lrec .ready false)=>match yCode Y O U X fr nb n en false (2 ^ n-1) bd ⟨s1.tm,(h,.lrec .busy false)::s1.ms⟩ with
     | some (.normal,s2)=>yFin h nb l true s2
     | some (.ret,s2)=>yFin h nb l false s2
     | _=>none
    | _=>none
   | _=>none
  else none
 | _=>none
noncomputable def yFun (O:Orc) (U:YOrc) (X:XOp) (fr:Oper->Bool) (Y:Tab) (en:FuncId->Bool) (F:FnI) (lo:Nat) (ds:List DV) (l:Na):Option (DV×Na):=
 hfN (maxN l lo+1) fun nb=>match F.body with
 | some c=>bif Nat.ble ds.length F.n&&(DV.qK ds).all (jB l) then
   hfSp (zipT 0 ds) fun tm=>match yCode Y O U X fr nb F.n en true F.kp c ⟨tm,l⟩ with
   | some (.normal,s)=>kP Y F nb l s
   | some (.ret,s)=>kP Y F nb l s
   | _=>none
  else none
 | none=>none
section
variable {P:Program} {Y:Tab} [qI P Y] {O:Orc} {U:YOrc} {X:XOp} {fr:Oper->Bool} {en:FuncId->Bool}
theorem maxN_all (l:Na) (lo:Nat):l.all (fun p=>Nat.blt p.1 (maxN l lo+1))=true:=zr.2 fun p hp=>by
 have:=(maxN_le l lo).2 p hp
 simp only[Wg];omega
theorem yYld_ok (hm:P.follows .mixedOrders=true) (hO:kQ P O) (hZ:YOrcOk P U) (hX:XOpOk P Y X) (he:∀ f,en f=true->∀ args w,(callFunc f args).run P w=.ok (.enter f args) w):YOrcOk P (yYld O U X fr Y en):=by
 intro h ps asg bd ds xs l val ms hy
 unfold yYld at hy
 split at hy
 ·rename_i h0
  cases hq:(Nat.beq ps.toList.length xs.length&&ps.toList.all (fun t=>Nat.blt t ds.length)&&(DV.qK (xs++ds)).all (jB l)&&(jg ds.length asg&&jg ds.length bd)) with
  | false=>rw[hq] at hy;cases hy
  | true=>
   rw[hq] at hy
   simp only[Wm,kC,hfSp_eq] at hy
   simp only[zj] at hq
   obtain⟨⟨⟨q1,q2⟩,q3⟩,q4,q5⟩:=hq
   split at hy
   ·rename_i s1 hc1
    split at hy
    ·rename_i h1
     have fin:∀ (b:Bool) (s2:St),yCode Y O U X fr (maxN l 0+1) ds.length en false (2 ^ ds.length-1) bd ⟨s1.tm,(h,.lrec .busy false)::s1.ms⟩=some (bif b then .normal else .ret,s2)->yFin h (maxN l 0+1) l b s2=some (val,ms)->YldOk P h ps asg bd ds xs (qq l) val ms:=by
      intro b s2 hc2 hf
      unfold yFin at hf
      split at hf
      ·rename_i hb
       simp only at hf
       generalize hout:sel s2.ms ((jR s2.ms 20000 (l.map (·.1)) []).filter fun k=>!Nat.beq k h)=out at hf
       cases hq2:(l.all (fun p=>jB ((h,.gone)::out) p.1)&&qY ((h,.gone)::out)&&(qY ((h,.lrec .busy false)::out)&&s2.ms.all (fun p=>Nat.ble (maxN l 0+1) p.1||jB ((h,.lrec .busy false)::out) p.1))) with
       | false=>rw[hq2] at hf;cases hf
       | true=>
        rw[hq2] at hf
        cases hf
        simp only[zj] at hq2
        obtain⟨⟨r1,r2⟩,r3,r4⟩:=hq2
        refine YldOk.of (nb:=maxN l 0+1) (n:=ds.length) (l1:=s1.ms) (tm1:=s1.tm) (out:=out) b Z (zD q1) (fun t ht=>by simpa using zr.1 q2 t ht) (fun k o e=>by have:=zr.1 (maxN_all l 0) _ (ji e);simpa using this) h0 q3 (fun r=>?_) h1 (fun r=>?_) ?_ ?_ r1 r2
        ·refine @T.mono _ _ _ _ _ _ _ ⟨some r⟩ _ (@yCode_ok _ _ _ _ _ _ _ _ _ _ ⟨some r⟩ hm hO hZ hX _ he _ (fun e=>by cases e) _ asg q4 _ _ _ hc1) ?_
         rintro e s3 ⟨rfl,rfl⟩
         exact⟨rfl,Wk.refl⟩
        ·refine @T.mono _ _ _ _ _ _ _ ⟨some r⟩ _ (@yCode_ok _ _ _ _ _ _ _ _ _ _ ⟨some r⟩ hm hO hZ hX _ he _ (fun e=>by cases e) _ bd q5 _ _ _ hc2) ?_
         rintro e s3 ⟨rfl,rfl⟩
         have hs:Sub (maxN l 0+1) s3 ⟨[],(h,.lrec .busy false)::out⟩:={ tm:=trivial,ms:=⟨hb,by rw[<-hout];exact AgM.sel⟩,shut:=?_ }
         ·exact⟨rfl,hs.wk⟩
         simp only[List.all_nil,J8,zj]
         exact⟨r3,r4⟩
        ·intro p hp e
         rw[<-hout] at hp
         have hmem:∀ {ns:List Nat} {p:Nat×MO},p∈sel s2.ms ns->p.1∈ns:=by
          intro ns
          induction ns with
          | nil=>intro p hp;cases hp
          | cons k ns ih=>
           intro p hp
           simp only[Go.Lens.sel] at hp
           split at hp
           ·rcases zF.1 hp with e|e
            ·rw[e];exact qg
            exact zN _ (ih e)
           exact zN _ (ih hp)
         have:=(Jz.1 (hmem hp)).2
         rw[e] at this
         simp at this
        intro k o hk
        rw[<-hout] at hk ⊢
        exact look_sel hk
      cases hf
     split at hy
     ·rename_i s2 hc2;exact fin true s2 hc2 hy
     ·rename_i s2 hc2;exact fin false s2 hc2 hy
     cases hy
    cases hy
   cases hy
 cases hy
end
section
variable {P:Program} {Y:Tab} [qI P Y] {O:Orc} {U:YOrc} {X:XOp} {fr:Oper->Bool} {en:FuncId->Bool}
theorem yFun_ok (hm:P.follows .mixedOrders=true) (hO:kQ P O) (hZ:YOrcOk P U) (hX:XOpOk P Y X) (hen:∀ f,en f=true->∀ args w,(callFunc f args).run P w=.ok (.enter f args) w) {F:FnI} {f:FuncId} {fn:Func} (hf:P.funcs[f]? =some fn) (hb:fn.body=F.body) (hn:fn.ntmps=F.n) (hr:fn.results=F.res)
  (hda:∀ c,F.body=some c->jg F.n c=true) (he:∀ args w,(callFunc f args).run P w=.ok (.enter f args) w) {lo:Nat} {ds:List DV} {l:Na} {val:DV} {ms:Na} (h:yFun O U X fr Y en F lo ds l=some (val,ms)):qz P f ds (qq l) val ms:=by
 unfold yFun at h
 simp only[kC,hfSp_eq] at h
 split at h
 ·rename_i c hc
  cases hq:(Nat.ble ds.length F.n&&(DV.qK ds).all (jB l)) with
  | false=>rw[hq] at h;cases h
  | true=>
   rw[hq] at h
   simp only[Wm] at h
   simp only[zj,Wf] at hq
   have key:∀ (e:Exit) (s:St),(e=.normal\/e=.ret)->yCode Y O U X fr (maxN l lo+1) F.n en true F.kp c ⟨zipT 0 ds,l⟩=some (e,s)->kP Y F (maxN l lo+1) l s=some (val,ms)->qz P f ds (qq l) val ms:=by
    intro e s hex hy hx
    refine callOk_ofL (Y:=Y) (F:=F) (maxN l lo+1) l hf (hb.trans hc) hn hr he hq.1 hq.2 (maxN_all l lo) ?_
    refine T.mono (yCode_ok hm hO hZ hX hen (fun _=>rfl) c (hda c hc) hy) ?_
    rintro e2 s2 ⟨rfl,rfl⟩
    exact⟨hex,hx⟩
   split at h
   ·rename_i s hy;exact key _ s (.inl Z) hy h
   ·rename_i s hy;exact key _ s (.inr Z) hy h
   cases h
 cases h
noncomputable def yBoth (SP:Orc) (FT:Tr FnI) (X:XOp) (fr:Oper->Bool) (Y:Tab):Nat->Orc×YOrc
 | 0=>(fun _ _ _ _=>none,fun _ _ _ _ _ _ _=>none)
 | k+1=>(fun f lo ds l=>match SP f lo ds l with
   | some r=>some r
   | none=>match FT.get f with
    | some F=>yFun (yBoth SP FT X fr Y k).1 (yBoth SP FT X fr Y k).2 X fr Y (fun f=>(FT.get f).isSome) F lo ds l
    | none=>none,yYld (yBoth SP FT X fr Y k).1 (yBoth SP FT X fr Y k).2 X fr Y (fun f=>(FT.get f).isSome))
theorem yBoth_ok (hm:P.follows .mixedOrders=true) (hX:XOpOk P Y X) {SP:Orc} {FT:Tr FnI} (hS:kQ P SP) (hF:FtOk P FT):∀ k,kQ P (yBoth SP FT X fr Y k).1/\YOrcOk P (yBoth SP FT X fr Y k).2
 | 0=>by
  constructor
  ·intro f lo ds l val ms h;cases h
  intro h ps avs bd ds xs l val ms h;cases h
 | k+1=>by
  obtain⟨h1,h2⟩:=yBoth_ok hm hX hS hF k
  have hen:∀ f,(FT.get f).isSome=true->∀ args w,(callFunc f args).run P w=.ok (.enter f args) w:=fun f hf=>by
   obtain⟨F,hF'⟩:=QK.1 hf
   obtain⟨fn,_,_,_,_,_,h6⟩:=hF _ (Tr.get_mem hF')
   exact h6
  refine⟨fun f lo ds l val ms h=>?_,yYld_ok hm h1 h2 hX hen⟩
  simp only[yBoth] at h
  split at h
  ·rename_i r hr
   cases h
   exact hS _ _ _ _ _ _ hr
  split at h
  ·rename_i F hF'
   obtain⟨fn,g1,g2,g3,g4,g5,g6⟩:=hF _ (Tr.get_mem hF')
   exact yFun_ok hm h1 h2 hX hen g1 g2 g3 g4 g5 g6 h
  cases h
end
end Go.Lens
end
section
namespace Go.Lens.Tb
open Go.Proofs Go.Lens.Un
variable [Lz]
noncomputable def arr2 (t:TypeId):Option TypeId:=match tab.underlying t with
 | some (.array 2 e)=>some e
 | _=>none
theorem arr2_ok {t e:TypeId} (h:arr2 t=some e):tab.underlying t=some (.array 2 e):=by
 unfold arr2 at h
 split at h
 ·rename_i h2;cases h;exact h2
 cases h
noncomputable def eqE (t it:TypeId):Bool:=!(tab.eqBad t)&&(match aggT tab it with|some false=>true|_=>false)&&(match szT tab it with|some 1=>true|_=>false)
theorem eqE_ok {t it:TypeId} (h:eqE t it=true):tab.eqBad t=false/\aggT tab it=some false/\szT tab it=some 1:=by
 simp only[eqE,zj,XM] at h
 obtain⟨⟨h1,h2⟩,h3⟩:=h
 refine⟨h1,?_,?_⟩
 ·split at h2
  ·assumption
  cases h2
 split at h3
 ·assumption
 cases h3
def eqO (op:BinOp) (r:Bool):Option (DV×Na×List Nat):=match op with
 | .eql=>some (lit (.bool r),[],[])
 | .neq=>some (lit (.bool (!r)),[],[])
 | _=>none
noncomputable def xArr:XOp:=fun nb s o=>match o.op with
 | .buildSlice t _ _=>bif [32,79,56,22].any (Nat.beq t) then (match bodyX tab nb s o with
  | some (.aref h v,[(h',.arr v' _ _ es)],rd)=>bif Nat.beq h h'&&Nat.beq v v' then some (.pv (.slice es),[(h,.farr v es)],rd) else none
  | _=>none) else none
 | .sliceToArrayPointer t x=>match ev1 s x,arr2 t with
  | .pv (.slice [[c0],[c1]]),some _=>some (.pv (.box [c0,c1]),[],[])
  | _,_=>none
 | .binOp op t x y _=>match arr2 t with
  | some it=>match ev1 s x,ev1 s y with
   | .pv (.agg [.lit (.int .i64 a0),.lit (.int .i64 a1)]),.pv (.agg [.lit (.int .i64 b0),.lit (.int .i64 b1)])=>match tab.underlying it with
    | some (.int .i64)=>bif eqE t it then eqO op (a0==b0&&a1==b1) else none
    | _=>none
   | .pv (.agg [.lit (.string a0),.lit (.string a1)]),.pv (.agg [.lit (.string b0),.lit (.string b1)])=>match tab.underlying it with
    | some .string=>bif eqE t it then eqO op (a0==b0&&a1==b1) else none
    | _=>none
   | _,_=>none
  | none=>none
 | .load t x=>match ev1 s x with
  | .bref h c=>match qq s.ms h with
   | some (.box _ ds)=>match ds[c]? with
    | some (.mref k)=>match aggT tab t,szT tab t with
     | some false,some 1=>some (.mref k,[],[h])
     | _,_=>none
    | _=>none
   | _=>none
  | _=>none
 | .indexAddr t x y=>match ev1 s x with
  | .bref h c=>match tab.underlying t,qq s.ms h,ev1 s y with
   | some (.array len e),some _,.pv (.lit (.int .i64 m))=>match szT tab e with
    | some 1=>bif decide (1<len)&&(decide (0<=m)&&decide (m.toNat<len)) then some (.bref h (c+m.toNat),[],[h]) else none
    | _=>none
   | _,_,_=>none
  | _=>none
 | _=>none
theorem xArr_ok:XOpOk prog tab xArr:=by
 intro nb s o val m rd h
 obtain⟨dst,op,ty,pos,af,gd⟩:=o
 unfold xArr at h
 simp only at h
 split at h
 ·rename_i t _ _
  cases hb:[32,79,56,22].any (Nat.beq t) with
  | false=>rw[hb] at h;cases h
  | true=>
   rw[hb] at h
   simp only[Wm] at h
   split at h
   ·rename_i hh v h' v' sz T es rd' he
    cases hc:(Nat.beq hh h'&&Nat.beq v v') with
    | false=>rw[hc] at h;cases h
    | true=>
     rw[hc] at h
     cases h
     simp only[zj] at hc
     obtain rfl:=zD hc.1
     obtain rfl:=zD hc.2
     exact B.zA he
   cases h
 ·split at h
  ·rename_i hx ht
   cases h
   exact B.arrP (arr2_ok ht) hx
  cases h
 ·split at h
  ·rename_i it ht
   have fin:∀ {a0 a1 b0 b1:Value} {r0 r1:Bool} {x y:Operand} {u:TypeId} {op:BinOp} {t:TypeId},arr2 t=some it->eqE t it=true->ev1 s x=.pv (.agg [.lit a0,.lit a1])->ev1 s y=.pv (.agg [.lit b0,.lit b1])->(∀ n w,(Op.equalIn (n+1) it a0 b0).run prog w=.ok r0 w)->(∀ n w,(Op.equalIn (n+1) it a1 b1).run prog w=.ok r1 w)->eqO op (r0&&r1)=some (val,m,rd)->Body prog tab nb s ⟨dst,.binOp op t x y u,ty,pos,af,gd⟩ val m rd:=by
    intro a0 a1 b0 b1 r0 r1 x y u op t ht he hx hy h0 h1 ho
    obtain⟨e1,e2,e3⟩:=eqE_ok he
    unfold eqO at ho
    split at ho
    ·cases ho;exact B.eqA2 (r0:=r0) (r1:=r1) e1 (arr2_ok ht) e2 e3 h0 h1 hx hy .eql (.inl Z)
    ·cases ho;exact B.eqA2 (r0:=r0) (r1:=r1) e1 (arr2_ok ht) e2 e3 h0 h1 hx hy .neq (.inr Z)
    cases ho
   split at h
   ·rename_i hx hy
    split at h
    ·rename_i hi
     cases hb:eqE _ it with
     | false=>rw[hb] at h;cases h
     | true=>rw[hb] at h;exact fin ht hb hx hy (fun n w=>eqI_run hi _ _ n w) (fun n w=>eqI_run hi _ _ n w) h
    cases h
   ·rename_i hx hy
    split at h
    ·rename_i hi
     cases hb:eqE _ it with
     | false=>rw[hb] at h;cases h
     | true=>rw[hb] at h;exact fin ht hb hx hy (fun n w=>eqS_run hi _ _ n w) (fun n w=>eqS_run hi _ _ n w) h
    cases h
   cases h
  cases h
 ·split at h
  ·rename_i hx
   split at h
   ·rename_i hm
    split at h
    ·rename_i hd
     split at h
     ·rename_i ha hs
      cases h
      exact B.loadM hx hm ha hs hd
     cases h
    cases h
   cases h
  cases h
 ·split at h
  ·rename_i hx
   split at h
   ·rename_i ht hm hy
    split at h
    ·rename_i hs
     rw[X4] at h
     split at h
     ·rename_i hb
      cases h
      simp only[zj,zf] at hb
      exact B.idxB ht hs hx hm hy hb.1 aa hb.2.2
     cases h
    cases h
   cases h
  cases h
 cases h
def frO (o:Oper):Bool:=match o.op with
 | .sliceToArrayPointer _ _=>true
 | .call ⟨.value (.func f),_,_⟩=>[9,21,11,12,34,35,40,42,43,46].any (Nat.beq f)
 | _=>false
end Go.Lens.Tb
end
section
namespace Go.Lens.Tb
open Go.Proofs Go.Lens.Un
variable [Lz] [Dn]
def decF:PV->Option Qn
 | .agg [.lit (.int .i64 a),.lit (.slice none 0 0),.lit (.int .i64 b),.lit (.slice none 0 0)]=>
  if h:((-9223372036854775808<=a/\a<=9223372036854775807)/\b<=9223372036854775807/\0<b)/\gcd a.natAbs b.natAbs=1 then
   some ⟨(a,false),(b,false),by unfold okI;rw[Ww ao];exact h.1.1,by unfold okI;rw[Ww ao];simp only;omega,h.1.2.2,h.2⟩ else none
 | _=>none
def decI:PV->Option {x:NI // okI x/\x.2=false}
 | .agg [.lit (.int .i64 a),.lit (.slice none 0 0)]=>if h: -9223372036854775808<=a/\a<=9223372036854775807 then some ⟨(a,false),by unfold okI;rw[Ww ao];exact h,rfl⟩ else none
 | _=>none
def smQ (x:Qn):Option DV:=match x with
 | ⟨(a,false),(b,false),_,_,_,_⟩=>some (.pv (.agg [.lit (.int .i64 a),.lit (.slice none 0 0),.lit (.int .i64 b),.lit (.slice none 0 0)]))
 | _=>none
theorem smQ_ok {x:Qn} {v:DV} (h:smQ x=some v):qV x=v:=by
 unfold smQ at h
 split at h
 ·cases h;rfl
 cases h
theorem sz_sm {x:Qn} (h1:x.n.1.natAbs<=9223372036854775808) (h2:x.d.1.natAbs<=9223372036854775808):sz x.q<=64:=by
 unfold sz
 have a1:q0 x.q.num.natAbs<=64:=ko (XF h1 ah)
 have a2:q0 x.q.den<=64:=ko (XF (show x.d.1.natAbs<=_ from h2) ah)
 omega
theorem decF_ok {p:PV} {x:Qn} (h:decF p=some x):p=qP x/\sz x.q<=64:=by
 unfold decF at h
 split at h
 ·split at h
  ·rename_i hh
   cases h
   exact⟨rfl,sz_sm (by simp only;omega) (by simp only;omega)⟩
  cases h
 cases h
theorem digS {a:Int} (h: -9223372036854775808<=a/\a<=9223372036854775807):(dig B64 a.natAbs).length<=400000:=by
 have:=ja (k:=1) b64_2 (n:=a.natAbs) bq
 omega
theorem decI_ok {p:PV} {x:{x:NI // okI x/\x.2=false}} (h:decI p=some x):p=nP x.1/\(dig B64 x.1.1.natAbs).length<=400000:=by
 unfold decI at h
 split at h
 ·split at h
  ·rename_i hh
   cases h
   exact⟨rfl,digS hh⟩
  cases h
 cases h
def oQ (g:Qn->Option DV):List DV->Option DV
 | [.pv x]=>match decF x with
  | some a=>g a
  | none=>none
 | _=>none
def oQ2 (g:Qn->Qn->Option DV):List DV->Option DV
 | [.pv x,.pv y]=>match decF x,decF y with
  | some a,some b=>g a b
  | _,_=>none
 | _=>none
def oS (g:Nb->Option DV):List DV->Option DV
 | [.pv (.lit (.string b))]=>g b.data.toList
 | _=>none
def oZ (g:Int->Option DV):List DV->Option DV
 | [.pv (.lit (.int .i64 z))]=>g z
 | _=>none
section
variable {f:FuncId} {ds:List DV} {v:DV} {O:List DV->Option DV}
theorem oQ_ok {g:Qn->Option DV} (h:oQ g ds=some v) (k:∀ a,sz a.q<=64->g a=some v->qz prog f [qV a] (qq []) v []):qz prog f ds (qq []) v []:=by
 unfold oQ at h
 split at h
 ·split at h
  ·rename_i hx
   obtain⟨rfl,hs⟩:=decF_ok hx
   exact k _ hs h
  cases h
 cases h
theorem oQ2_ok {g:Qn->Qn->Option DV} (h:oQ2 g ds=some v) (k:∀ a b,sz a.q+sz b.q<=20000000->g a b=some v->qz prog f [qV a,qV b] (qq []) v []):qz prog f ds (qq []) v []:=by
 unfold oQ2 at h
 split at h
 ·split at h
  ·rename_i hx hy
   obtain⟨rfl,hs⟩:=decF_ok hx
   obtain⟨rfl,hs2⟩:=decF_ok hy
   exact k _ _ aa h
  cases h
 cases h
theorem oS_ok {g:Nb->Option DV} (h:oS g ds=some v) (k:∀ s,g s=some v->qz prog f [vS (bsO s)] (qq []) v []):qz prog f ds (qq []) v []:=by
 unfold oS at h
 split at h
 ·exact k _ h
 cases h
theorem oZ_ok {g:Int->Option DV} (h:oZ g ds=some v) (k:∀ z,g z=some v->qz prog f [vI z] (qq []) v []):qz prog f ds (qq []) v []:=by
 unfold oZ at h
 split at h
 ·exact k _ h
 cases h
end
def numT:List (Nat×(List DV->Option DV)):=[
 (71,oQ2 fun a b=>smQ (a.add b)),(72,oQ2 fun a b=>smQ (a.mul b)),(163,oQ2 fun a b=>smQ (a.sub b)),(74,oQ2 fun a b=>if h:b.q≠0 then smQ (a.div b h) else none),(157,oQ2 fun a b=>some (vI (cmpQ2 a.q b.q))),
 (57,oQ fun a=>smQ a.neg),(96,oQ fun a=>some (vI (j3 a.q.num))),(117,oQ fun a=>some (vS (bsO (txt a.q)))),(116,oQ fun a=>some (vB (jF a.q))),
 (115,oZ fun z=>some (nV (ofI z))),(69,oZ fun z=>if h: -9223372036854775808<=z/\z<9223372036854775808 then smQ (Qn.ofZ z h) else none),
 (49,oS fun s=>bif Nat.ble s.length 1000 then some (vI (q9 s)) else none),(53,oS fun s=>if q9 s=0 then smQ (jh s) else none),
 (132,fun ds=>match ds with
  | [.pv x,.pv y]=>match decI x,decI y with
   | some a,some b=>if h:b.1.1≠0 then smQ (Qn.make a.1 b.1 a.2.1 b.2.1 h) else none
   | _,_=>none
  | _=>none)]
def assT {α:Type}:List (Nat×α)->Nat->Option α
 | [],_=>none
 | (k,a)::l,n=>bif Nat.beq k n then some a else assT l n
def pureO (T:List (Nat×(List DV->Option DV))):Orc:=fun f _ ds l=>match l with
 | []=>match assT T f with
  | some g=>match g ds with
   | some v=>some (v,[])
   | none=>none
  | none=>none
 | _=>none
theorem assT_mem {α:Type}:∀ {l:List (Nat×α)} {n:Nat} {a:α},assT l n=some a->(n,a)∈l
 | [],_,_,h=>by cases h
 | (k,b)::l,n,a,h=>by
  unfold assT at h
  cases hb:Nat.beq k n with
  | true=>
   rw[hb] at h
   cases h
   rw[zD hb];exact qg
  | false=>rw[hb] at h;exact zN _ (assT_mem h)
theorem pureO_ok {T:List (Nat×(List DV->Option DV))} (H:∀ p∈T,∀ ds v,p.2 ds=some v->qz prog p.1 ds (qq []) v []):kQ prog (pureO T):=by
 intro f lo ds l val ms h
 unfold pureO at h
 split at h
 ·split at h
  ·rename_i hg
   split at h
   ·rename_i hv
    cases h
    exact H _ (assT_mem hg) _ _ hv
   cases h
  cases h
 cases h
theorem num_ok (hp:qU):kQ prog (pureO numT):=pureO_ok fun p hm ds v h=>by
 simp only[numT,zF,qh,Wr] at hm
 rcases hm with rfl|rfl|rfl|rfl|rfl|rfl|rfl|rfl|rfl|rfl|rfl|rfl|rfl|rfl<;>simp only at h ⊢
 ·exact oQ2_ok h fun a b hs hv=>by rw[<-smQ_ok hv];exact w125 a b hs
 ·exact oQ2_ok h fun a b hs hv=>by rw[<-smQ_ok hv];exact w126 a b hs
 ·exact oQ2_ok h fun a b hs hv=>by rw[<-smQ_ok hv];exact w210 a b hs
 ·refine oQ2_ok h fun a b hs hv=>?_
  split at hv
  ·rename_i h0;rw[<-smQ_ok hv];exact w128 a b hs h0
  cases hv
 ·exact oQ2_ok h fun a b hs hv=>by cases hv;exact w166 a b hs
 ·exact oQ_ok h fun a hs hv=>by rw[<-smQ_ok hv];exact w118 a aa
 ·exact oQ_ok h fun a hs hv=>by cases hv;exact w145 a aa
 ·exact oQ_ok h fun a hs hv=>by cases hv;exact w162 hp a aa
 ·exact oQ_ok h fun a hs hv=>by cases hv;exact w181 hp a aa
 ·exact oZ_ok h fun z hv=>by cases hv;exact w177 z
 ·refine oZ_ok h fun z hv=>?_
  split at hv
  ·rename_i h0;rw[<-smQ_ok hv];exact w100 z h0
  cases hv
 ·refine oS_ok h fun s hv=>?_
  cases hb:Nat.ble s.length 1000 with
  | false=>rw[hb] at hv;cases hv
  | true=>rw[hb] at hv;cases hv;exact w112 s (by have:=zW hb;omega)
 ·refine oS_ok h fun s hv=>?_
  split at hv
  ·rename_i h0;rw[<-smQ_ok hv];exact w116 s h0
  cases hv
 split at h
 ·split at h
  ·rename_i hx hy
   obtain⟨rfl,g1⟩:=decI_ok hx
   obtain⟨rfl,g2⟩:=decI_ok hy
   split at h
   ·rename_i h0;rw[<-smQ_ok h];exact w179 _ _ _ _ g1 g2 h0
   cases h
  cases h
 cases h
end Go.Lens.Tb
end
section
namespace Go.Lens.Tb
open Go.Proofs Go.Lens.Un
variable [Lz] [Dn]
class Kr:Prop where
 k:Lz.kr=fun P kv=>∃ m,KP P m/\kv=kvO eP m
variable [Kr]
theorem kd_iff {P:PL} {G:Gh} {w:World} {h:Nat}:qR G w h (.kdat P)↔qR G w h (kR P):=by
 simp only[qR]
 rw[Kr.k]
theorem wkD {P:PL} {k:Nat} {l l':Na} (hl:WkL l l'):WkL ((k,kR P)::l) ((k,.kdat P)::l'):=⟨⟨rfl,rfl,fun _ _ H=>kd_iff.2 H⟩,hl⟩
theorem kd_in {f:FuncId} {ds:List DV} {a:Nat} {P:PL} {val:DV} {out:Na} (H:qz prog f ds (qq [(a,kR P)]) val out):qz prog f ds (qq [(a,.kdat P)]) val out:=by
 have hr:∀ k∈DV.qK ds,∃ o,qq [(a,MO.kdat P)] k=some o:=fun k hk=>by
  obtain⟨o,ho⟩:=H.refs k hk
  rw[qx] at ho ⊢
  split at ho
  ·rename_i e;exact⟨_,Wx e⟩
  cases ho
 refine qz.fam (ι:=Unit) (h:=a) (o:=.kdat P) (o':=fun _=>kR P) (p:=fun _=>True) (by rw[qx,Wx rfl]) (fun _=>rfl) hr (fun G w h=>⟨(),trivial,kd_iff.1 h⟩) fun _ _=>?_
 refine H.lk fun h=>?_
 rw[qx,qx,qx]
 split<;>rfl
def decT:List PV->Option Trm
 | [.lit (.string b),.lit (.int .i64 i),.lit (.int .i64 j)]=>some ⟨b.data.toList,i,j⟩
 | _=>none
def decP:List (List PV)->Option (List Trm)
 | []=>some []
 | x::l=>match decT x,decP l with
  | some t,some r=>some (t::r)
  | _,_=>none
theorem decT_ok {p:List PV} {t:Trm} (h:decT p=some t):p=eY t:=by
 unfold decT at h
 split at h
 ·cases h;rfl
 cases h
theorem decP_ok:∀ {l:List (List PV)} {f:List Trm},decP l=some f->l=f.map eY
 | [],f,h=>by cases h;rfl
 | x::l,f,h=>by
  simp only[decP] at h
  split at h
  ·rename_i t r ht hr
   cases h
   rw[decT_ok ht,decP_ok hr];rfl
  cases h
def kB (P:PL):Bool:=P.all fun p=>decide (0<=p.1.1/\0<=p.1.2/\p.1.1+p.1.2<=32)
def okB (P:PL):Bool:=kB P&&(decide (P.length<=100000)&&decide (szP P<=9000000))
theorem okB_ok {P:PL} (h:okB P=true):OkP P:=by
 simp only[okB,kB,zj,zr,zf] at h
 refine⟨fun k hk=>?_,h.2.1,h.2.2⟩
 obtain⟨p,hp,rfl⟩:=zE.1 hk
 exact h.1 p hp
def goodF (f:List Trm):Bool:=decide (f.length<=1000)&&(f.all (fun t=>Nat.ble t.c.length 1000)&&(decide (qF f=0)&&okB (plF f)))
structure GoodF (f:List Trm):Prop where
 l:f.length<=1000000
 s:∀ t∈f,t.c.length<=1000000000
 c:qF f=0
 o:OkP (plF f)
theorem goodF_ok {f:List Trm} (h:goodF f=true):GoodF f:=by
 simp only[goodF,zj,zr,zf] at h
 exact⟨aa,fun t ht=>by have:=zW (h.2.1 t ht);omega,h.2.2.1,okB_ok h.2.2.2⟩
def qnS (q:Rat):Option DV:=bif decide (-9223372036854775807<=q.num/\q.num<=9223372036854775807)&&decide (q.den<=9223372036854775807) then some (.pv (.agg [.lit (.int .i64 q.num),.lit (.slice none 0 0),.lit (.int .i64 (q.den:Int)),.lit (.slice none 0 0)])) else none
theorem small_n {x:NI} (hx:okI x) (h:x.1.natAbs<=9223372036854775807):nH x=x.1/\nW x=nilP:=by
 obtain⟨z,b⟩:=x
 cases b with
 | false=>exact⟨rfl,rfl⟩
 | true=>
  unfold okI at hx
  rw[Wx rfl] at hx
  unfold I63 at hx
  simp only at hx h
  omega
theorem qnS_ok {x:Qn} {v:DV} (h:qnS x.q=some v):qV x=v:=by
 unfold qnS at h
 cases hb:(decide (-9223372036854775807<=x.q.num/\x.q.num<=9223372036854775807)&&decide (x.q.den<=9223372036854775807)) with
 | false=>rw[hb] at h;cases h
 | true=>
  rw[hb] at h
  cases h
  simp only[zj,zf] at hb
  have e1:x.q.num=x.n.1:=rfl
  have e2:=x.q_den
  have hp:=x.pos
  obtain⟨a1,a2⟩:=small_n x.hn aa
  obtain⟨b1,b2⟩:=small_n x.hd aa
  simp only[qV,qP,eF,a1,a2,b1,b2,e1,e2]
def mapO:Orc:=fun f lo ds l=>
 bif Nat.beq f 51 then (match ds,l with
  | [.pv (.slice es)],[]=>match decP es with
   | some F=>bif goodF F then some (.mref (lo+1),[(lo+1,.kdat (plF F))]) else none
   | none=>none
  | _,_=>none)
 else bif Nat.beq f 55 then (match ds,l with
  | [.mref a,.pv (.lit (.int .i64 x))],[(b,.kdat P)]=>bif (Nat.beq a b&&(decide (x=0)||decide (x=1)))&&(okB P&&decide ((P.length+2)*(szP P+20)<=9000000)) then some (.mref (a+lo+1),[(a,.kdat P),(a+lo+1,.kdat (derP x P))]) else none
  | _,_=>none)
 else bif Nat.beq f 52 then (match ds,l with
  | [.mref a,.pv (.agg [c1,c2,c3,c4,d1,d2,d3,d4])],[(b,.kdat P)]=>match decF (.agg [c1,c2,c3,c4]),decF (.agg [d1,d2,d3,d4]) with
   | some x,some y=>bif Nat.beq a b&&(okB P&&decide ((P.length+2)*(szP P+34*(sz x.q+sz y.q+128))<=9000000)) then (match qnS (evP P x.q y.q) with
    | some v=>some (v,[(a,.kdat P)])
    | none=>none) else none
   | _,_=>none
  | _,_=>none)
 else none
theorem mapO_ok:kQ prog mapO:=by
 intro f lo ds l val ms h
 unfold mapO at h
 cases h1:Nat.beq f 51 with
 | true=>
  rw[h1] at h
  obtain rfl:=zD h1
  simp only[Wm] at h
  split at h
  ·split at h
   ·rename_i F hF
    cases hg:goodF F with
    | false=>rw[hg] at h;cases h
    | true=>
     rw[hg] at h
     cases h
     have g:=goodF_ok hg
     rw[decP_ok hF]
     exact (w114k F (lo+1) g.l g.c).wk (wkD trivial)
   cases h
  cases h
 | false=>
  rw[h1] at h
  simp only[Wj] at h
  cases h2:Nat.beq f 55 with
  | true=>
   rw[h2] at h
   obtain rfl:=zD h2
   simp only[Wm] at h
   split at h
   ·rename_i a x b P
    cases hg:((Nat.beq a b&&(decide (x=0)||decide (x=1)))&&(okB P&&decide ((P.length+2)*(szP P+20)<=9000000))) with
    | false=>rw[hg] at h;cases h
    | true=>
     rw[hg] at h
     cases h
     simp only[zj,Jo,zf] at hg
     obtain⟨⟨g1,g2⟩,g3,g4⟩:=hg
     obtain rfl:=zD g1
     exact kd_in ((w117k x P a (a+lo+1) aa g2 (okB_ok g3) g4).wk (wkD (wkD trivial)))
   cases h
  | false=>
   rw[h2] at h
   simp only[Wj] at h
   cases h3:Nat.beq f 52 with
   | false=>rw[h3] at h;cases h
   | true=>
    rw[h3] at h
    obtain rfl:=zD h3
    simp only[Wm] at h
    split at h
    ·rename_i a c1 c2 c3 c4 d1 d2 d3 d4 b P
     split at h
     ·rename_i x y hx hy
      cases hg:(Nat.beq a b&&(okB P&&decide ((P.length+2)*(szP P+34*(sz x.q+sz y.q+128))<=9000000))) with
      | false=>rw[hg] at h;cases h
      | true=>
       rw[hg] at h
       simp only[Wm] at h
       split at h
       ·rename_i v hv
        cases h
        simp only[zj,zf] at hg
        obtain⟨g1,g3,g4⟩:=hg
        obtain rfl:=zD g1
        have ex:=(decF_ok hx).1
        have ey:=(decF_ok hy).1
        simp only[qP,eF,PV.agg.injEq,Jw,Wp] at ex ey
        obtain⟨rfl,rfl,rfl,rfl⟩:=ex
        obtain⟨rfl,rfl,rfl,rfl⟩:=ey
        refine kd_in (qz.k1 cR fun m hm=>?_)
        have hq:=valM_q (x:=x) (y:=y) hm (okB_ok g3)
        rw[<-hq] at hv
        rw[<-qnS_ok hv]
        exact (w115 m P x y a hm (okB_ok g3) g4).wk (wkK (fun kv e=>⟨m,hm,e⟩) wk0) |>.wk (wkD trivial)
       cases h
     cases h
    cases h
end Go.Lens.Tb
end
section
namespace Go.Lens.Tb
open Go.Proofs Go.Lens.Un
variable [Lz] [Dn] [Kr]
theorem Body.ofS {P:Program} {Y:Tab} {nb:Nat} {s:St} {o:Oper} {val:DV} {m:Na} {rd:List Nat} (h:jN P s o val m rd):Body P Y nb s o val m rd:=.inr h
theorem TK.ofT [Fc] {P:Program} {n nb:Nat} {Q:Exit->St->Prop} {c:Code} {s:St} (h:T P n nb c s Q):TK P n nb Q c [] s:=h
attribute [local irreducible] TK PK T RG EfR Body CG
def facL:List Int:=[1,1,2,6,24,120,720,5040,40320]
def jq:Prop:=∃ T fr,Lz.L 0=some (.cells (facL.map fun z=>Value.int .i64 z).toArray T fr)
theorem jN.wkO {P:Program} {s:St} {o:Oper} {val:DV} {m m':Na} {rd:List Nat} (H:jN P s o val m rd) (h:WkL m m'):jN P s o val m' rd:=
 fun σ G a w next Q h1 h2 I hn=>H σ G a w next Q h1 (fun k hk=>h2 k (by rw[<-h.keys];exact hk)) I fun r w' G' S=>hn r w' G' (S.wk h)
theorem kd_open {P:PL} {G:Gh} {w:World} {h:Nat} (H:qR G w h (.kdat P)):∃ m,KP P m/\qR G w h (kO eP m):=by
 have H:=kd_iff.1 H
 simp only[qR] at H ⊢
 obtain⟨h1,es,kv,⟨m,hm,rfl⟩,h3⟩:=H
 exact⟨m,hm,h1,es,_,rfl,h3⟩
theorem jN.kd {s:St} {o:Oper} {val:DV} {out:Na} {rd:List Nat} {h:Nat} {P:PL} (hl:qq s.ms h=some (.kdat P)) (hin:h∈rd) (H:∀ m,KP P m->jN prog ⟨s.tm,(h,kO eP m)::s.ms⟩ o val out rd):jN prog s o val out rd:=by
 intro σ G a w next Q h1 h2 I hn
 have hσ:qq σ.ms h=some (.kdat P):=(h2 h (.inl hin)).trans hl
 obtain⟨m,hm,hR⟩:=kd_open (I.ms h _ hσ)
 have S:=qZ (m:=kO eP m) (val:=.dead) (r:=undef) I.ctxS (B:=G.ρ h) hσ aU (w':=w) Z Z Z Z (fun _ _=>rfl) aB (by rw[Gh.qQ];exact hR) ak am
 rw[Gh.qQ] at S
 obtain⟨I1,_⟩:=I.eff (s:=σ) (K:=0) S none ao
 have e:∀ k,qq ((h,kO eP m)::σ.ms) k=if h=k then some (kO eP m) else qq σ.ms k:=fun k=>qx ..
 have e2:∀ k,(∃ o,qq ((h,kO eP m)::σ.ms) k=some o)->∃ o,qq σ.ms k=some o:=fun k ⟨o,ho⟩=>by
  rw[e] at ho
  split at ho
  ·rename_i hk;subst hk;exact⟨_,hσ⟩
  exact⟨_,ho⟩
 refine H m hm ⟨σ.tm,(h,kO eP m)::σ.ms⟩ G a w next Q h1 (fun k hk=>?_) I1 fun r w' G' S=>hn r w' G' ⟨S.later,S.hval,S.hms,fun k o' hk=>?_,S.old,S.fresh,S.own,fun k hk=>(S.refs k hk).imp id (e2 k),fun k o hk j hj=>(S.refsM k o hk j hj).imp id (e2 j),S.newb,S.r0,S.r0m⟩
 ·show qq ((h,kO eP m)::σ.ms) k=qq ((h,kO eP m)::s.ms) k
  rw[qx,qx,h2 k hk]
 by_cases hh:h=k
 ·exact S.keeps k (kO eP m) (by rw[e,Wx hh])
 exact S.keeps k o' (by rw[e,Ww hh];exact hk)
theorem kd_add {P:PL} {m:List (KI×Qn)} {k:KI} {v:Qn} (hm:KP P m) (hk:k∉P.map (·.1)):KP (P++[(k,v.q)]) (ZW k v m):=by
 have h:=hm.add k v
 have:kL k m=none:=by
  cases hg:kL k m with
  | none=>rfl
  | some x=>exact absurd (hm.mem k (zE.2 ⟨_,mem_of_get hg,rfl⟩)) hk
 rwa [ad_n this] at h
def isOne:Option Nat->Bool
 | some 1=>true
 | _=>false
def isFa:Option Bool->Bool
 | some false=>true
 | _=>false
theorem isOne_ok:∀ {o:Option Nat},isOne o=true->o=some 1
 | some 1,_=>rfl
theorem isFa_ok:∀ {o:Option Bool},isFa o=true->o=some false
 | some false,_=>rfl
noncomputable def xMap:XOp:=fun nb s o=>match o with
 | ⟨some d,.makeMap t none,_,_,_,_⟩=>bif Nat.beq t 101&&!jB s.ms (nameOf nb s.ms (some d)) then some (.mref (nameOf nb s.ms (some d)),[(nameOf nb s.ms (some d),.kdat [])],[]) else none
 | ⟨none,.insert t x y z,_,_,_,_⟩=>bif Nat.beq t 101 then (match ev1 s x,ev1 s y,ev1 s z with
   | .mref h,.pv (.agg [.lit (.int .i64 i),.lit (.int .i64 j)]),.pv v=>match qq s.ms h,decF v with
     | some (.kdat P),some q=>bif P.all (fun p=>!(decide (p.1=(i,j)))) then some (.dead,[(h,.kdat (P++[((i,j),q.q)]))],[h]) else none
     | _,_=>none
   | _,_,_=>none) else none
 | ⟨_,.indexAddr t (.global 0) y,_,_,_,_⟩=>match tab.underlying t,ev1 s y with
   | some (.array len e),.pv (.lit (.int .i64 m))=>bif isOne (szT tab e)&&(decide (1<len)&&(decide (0<=m)&&decide (m.toNat<len))) then some (.pv (.lit (.pointer (some ⟨0,m.toNat,none⟩))),[],[]) else none
   | _,_=>none
 | ⟨dst,.load t x,ty,pos,af,gd⟩=>match ev1 s x with
   | .pv (.lit (.pointer (some ⟨0,n,none⟩)))=>bif isFa (aggT tab t)&&Nat.blt n 9 then some (.pv (.lit (.int .i64 (facL.getD n 0))),[],[]) else none
   | _=>xArr nb s ⟨dst,.load t x,ty,pos,af,gd⟩
 | o=>xArr nb s o
theorem xMap_ok (hf:jq):XOpOk prog tab xMap:=by
 intro nb s o val m rd h
 unfold xMap at h
 split at h
 ·rename_i d t _ _ _ _
  cases hb:(Nat.beq t 101&&!jB s.ms (nameOf nb s.ms (some d))) with
  | false=>rw[hb] at h;cases h
  | true=>
   rw[hb] at h
   cases h
   simp only[zj,XM] at hb
   obtain rfl:=zD hb.1
   exact Body.ofS (jN.wkO (B.newS (enc:=eP) hb.2) ⟨⟨rfl,rfl,fun G w H=>kd_iff.2 (by
    simp only[qR] at H ⊢
    obtain⟨h1,es,kv,h2,h3⟩:=H
    exact⟨h1,es,kv,⟨[],KP.nil,h2⟩,h3⟩)⟩,trivial⟩)
 ·rename_i t x y z _ _ _ _
  cases hb:Nat.beq t 101 with
  | false=>rw[hb] at h;cases h
  | true=>
   rw[hb] at h
   obtain rfl:=zD hb
   simp only[Wm] at h
   split at h
   ·rename_i hh i j v hx hy hz
    split at h
    ·rename_i P q hm hq
     cases ha:P.all (fun p=>!(decide (p.1=(i,j)))) with
     | false=>rw[ha] at h;cases h
     | true=>
      rw[ha] at h
      cases h
      have hk:(i,j)∉P.map (·.1):=fun hk=>by
       obtain⟨p,hp,e⟩:=zE.1 hk
       have:=zr.1 ha p hp
       simp only[XM,zG] at this
       exact this e
      rw[(decF_ok hq).1] at hz
      refine Body.ofS (jN.kd hm ao fun m hm'=>jN.wkO (B.setS (s:=⟨s.tm,(hh,kO eP m)::s.ms⟩) (o:=.insert 101 x y z) (enc:=eP) (l:=m) (k:=(i,j)) (v:=q) rfl (fun _=>rfl) kty hx hy hz (by rw[qx,Wx rfl])) ⟨⟨rfl,rfl,fun G w H=>kd_iff.2 ?_⟩,trivial⟩)
      simp only[qR] at H ⊢
      obtain⟨h1,es,kv,h2,h3⟩:=H
      exact⟨h1,es,kv,⟨_,kd_add hm' hk,h2⟩,h3⟩
    cases h
   cases h
 ·split at h
  ·rename_i y _ _ _ _ len e m ht hy
   rw[X4] at h
   split at h
   ·rename_i hb
    cases h
    simp only[zj,zf] at hb
    obtain⟨h1,h2,h3,h4⟩:=hb
    exact B.idxG ht (isOne_ok h1) hy h2 aa h4
   cases h
  cases h
 ·split at h
  ·rename_i n hx
   rw[X4] at h
   split at h
   ·rename_i hb
    cases h
    simp only[zj,Wg] at hb
    obtain⟨T,fr,hL⟩:=hf
    exact B.loadG hx hL (isFa_ok hb.1) hb.2
   cases h
  exact xArr_ok _ _ _ _ _ _ h
 exact xArr_ok _ _ _ _ _ _ h
theorem kd_in2 {f:FuncId} {ds:List DV} {a b:Nat} {P R:PL} {val:DV} {out l:Na} (hab:a≠b) (H:qz prog f ds (qq [(a,kR P),(b,kR R)]) val out) (hl:l=[(a,.kdat P),(b,.kdat R)]\/l=[(b,.kdat R),(a,.kdat P)]):qz prog f ds (qq l) val out:=by
 have e:∀ k,qq l k=if a=k then some (.kdat P) else if b=k then some (.kdat R) else none:=fun k=>by
  rcases hl with rfl|rfl
  ·simp only[qx];rfl
  simp only[qx]
  by_cases h1:a=k
  ·subst h1;rw[Ww (Wt hab),Wx rfl,Wx rfl]
  rw[Ww h1,Ww h1];rfl
 have hr:∀ k∈DV.qK ds,∃ o,qq l k=some o:=fun k hk=>by
  obtain⟨o,ho⟩:=H.refs k hk
  rw[qx,qx] at ho
  rw[e]
  split at ho
  ·rename_i h1;exact⟨_,Wx h1⟩
  rename_i h1
  rw[Ww h1]
  split at ho
  ·rename_i h2;exact⟨_,Wx h2⟩
  cases ho
 refine qz.fam (ι:=Unit) (h:=a) (o:=.kdat P) (o':=fun _=>kR P) (p:=fun _=>True) (by rw[e,Wx rfl]) (fun _=>rfl) hr (fun G w h=>⟨(),trivial,kd_iff.1 h⟩) fun _ _=>?_
 refine qz.fam (ι:=Unit) (h:=b) (o:=.kdat R) (o':=fun _=>kR R) (p:=fun _=>True) (by rw[qx,Ww hab,e,Ww hab,Wx rfl]) (fun _=>rfl) (fun k hk=>by
  obtain⟨o,ho⟩:=hr k hk
  rw[qx]
  split
  ·exact⟨_,rfl⟩
  exact⟨o,ho⟩) (fun G w h=>⟨(),trivial,kd_iff.1 h⟩) fun _ _=>?_
 refine H.lk fun k=>?_
 simp only[qx,e]
 by_cases h1:a=k
 ·subst h1;rw[Wx rfl,Ww (Wt hab),Wx rfl]
 by_cases h2:b=k
 ·rw[Ww h1,Wx h2,Wx h2]
 rw[Ww h1,Ww h2,Ww h2,Ww h1,Ww h1,Ww h2];rfl
theorem kB_ok {P:PL} (h:kB P=true):KB P:=fun k hk=>by
 obtain⟨p,hp,rfl⟩:=zE.1 hk
 have:=zr.1 h p hp
 simp only[zf] at this
 omega
def two (a b:Nat) (l:Na):Option (PL×PL):=match l with
 | [(c,.kdat P),(d,.kdat R)]=>bif Nat.beq a b then none else bif Nat.beq a c&&Nat.beq b d then some (P,R) else bif Nat.beq a d&&Nat.beq b c then some (R,P) else none
 | _=>none
theorem two_ok {a b:Nat} {l:Na} {P R:PL} (h:two a b l=some (P,R)):a≠b/\(l=[(a,.kdat P),(b,.kdat R)]\/l=[(b,.kdat R),(a,.kdat P)]):=by
 unfold two at h
 split at h
 ·rename_i c P' d R'
  cases h0:Nat.beq a b with
  | true=>rw[h0] at h;cases h
  | false=>
   rw[h0] at h
   have hab:a≠b:=fun e=>by rw[e,Kx] at h0;cases h0
   simp only[Wj] at h
   cases h1:(Nat.beq a c&&Nat.beq b d) with
   | true=>
    rw[h1] at h
    cases h
    simp only[zj] at h1
    obtain rfl:=zD h1.1
    obtain rfl:=zD h1.2
    exact⟨hab,.inl rfl⟩
   | false=>
    rw[h1] at h
    simp only[Wj] at h
    cases h2:(Nat.beq a d&&Nat.beq b c) with
    | true=>
     rw[h2] at h
     cases h
     simp only[zj] at h2
     obtain rfl:=zD h2.1
     obtain rfl:=zD h2.2
     exact⟨hab,.inr rfl⟩
    | false=>rw[h2] at h;cases h
 cases h
def mapO2:Orc:=fun f lo ds l=>
 bif Nat.beq f 70 then (match ds with
  | [.mref a,.mref b]=>match two a b l with
   | some (P,R)=>bif (kB P&&kB R)&&decide ((P.length*R.length+2)*(szP P+szP R+2)<=10000000) then some (.mref (a+b+lo+1),[(b,.kdat R),(a,.kdat P),(a+b+lo+1,.kdat (js P R))]) else none
   | none=>none
  | _=>none)
 else bif Nat.beq f 76 then (match ds with
  | [.mref a,.mref b,.pv v]=>match two a b l,decF v with
   | some (P,R),some q=>bif decide (szP P+(R.length+1)*(szP R+sz q.q+2)<=10000000) then some (.mref (a+b+lo+1),[(b,.kdat R),(a,.kdat P),(a+b+lo+1,.kdat (P++scl q.q R))]) else none
   | _,_=>none
  | _=>none)
 else bif Nat.beq f 56 then (match ds,l with
  | [.mref a],[(b,.kdat P)]=>bif Nat.beq a b&&okB P then some (.tup [vL eY (polT P),vI (polE P)],[(a,.kdat P)]) else none
  | _,_=>none)
 else none
theorem mapO2_ok (hp:qU):kQ prog mapO2:=by
 intro f lo ds l val ms h
 unfold mapO2 at h
 cases h1:Nat.beq f 70 with
 | true=>
  rw[h1] at h
  obtain rfl:=zD h1
  simp only[Wm] at h
  split at h
  ·rename_i a b
   split at h
   ·rename_i P R ht
    rw[X4] at h
    split at h
    ·rename_i hg
     cases h
     simp only[zj,zf] at hg
     obtain⟨hab,hl⟩:=two_ok ht
     exact kd_in2 hab ((w101k P R a b (a+b+lo+1) hab aa aa (kB_ok hg.1.1) (kB_ok hg.1.2) hg.2).wk (wkD (wkD (wkD trivial)))) hl
    cases h
   cases h
  cases h
 | false=>
  rw[h1] at h
  simp only[Wj] at h
  cases h2:Nat.beq f 76 with
  | true=>
   rw[h2] at h
   obtain rfl:=zD h2
   simp only[Wm] at h
   split at h
   ·rename_i a b v
    split at h
    ·rename_i P R q ht hq
     rw[X4] at h
     split at h
     ·rename_i hg
      cases h
      rw[(decF_ok hq).1]
      obtain⟨hab,hl⟩:=two_ok ht
      exact kd_in2 hab ((w102k P R q a b (a+b+lo+1) hab aa aa (X3 hg)).wk (wkD (wkD (wkD trivial)))) hl
     cases h
    cases h
   cases h
  | false=>
   rw[h2] at h
   simp only[Wj] at h
   cases h3:Nat.beq f 56 with
   | false=>rw[h3] at h;cases h
   | true=>
    rw[h3] at h
    obtain rfl:=zD h3
    simp only[Wm] at h
    split at h
    ·rename_i a b P
     rw[X4] at h
     split at h
     ·rename_i hg
      cases h
      simp only[zj] at hg
      obtain rfl:=zD hg.1
      exact kd_in ((w104k hp P a (okB_ok hg.2)).wk (wkD trivial))
     cases h
    cases h
def sqP:PL:=[((2,0),1),((0,2),1)]
section
variable {n k:Int}
theorem kp_sq {h1 h2:R64 1}:KP sqP (ZW (0,2) (Qn.ofZ 1 h1) (ZW (2,0) (Qn.ofZ 1 h2) [])):=by
 have:=(KP.nil.add (2,0) (Qn.ofZ 1 h2)).add (0,2) (Qn.ofZ 1 h1)
 simpa [Qn.ofZ_q,sqP,addK,ZW,kL] using this
theorem kp_sq2 {h1 h2:R64 1}:KP sqP (ZW (2,0) (Qn.ofZ 1 h1) (ZW (0,2) (Qn.ofZ 1 h2) [])):=by
 have:=(KP.nil.add (0,2) (Qn.ofZ 1 h2)).add (2,0) (Qn.ofZ 1 h1)
 have h:KP [((0,2),1),((2,0),1)] (ZW (2,0) (Qn.ofZ 1 h1) (ZW (0,2) (Qn.ofZ 1 h2) [])):=by simpa [Qn.ofZ_q,addK,ZW,kL] using this
 refine h.congr (Eqv.perm (List.Perm.swap _ _ _)) fun k hk=>?_
 simp[sqP] at hk ⊢
 exact hk.symm
theorem fk_9 {listed:Array Bool} (hs:listed.size=9) (h0:listed.getD 0 false=true) (h2:listed.getD 2 false=true) (h3:listed.getD 3 false=false) (h4:listed.getD 4 false=true) (h5:listed.getD 5 false=true) (h6:listed.getD 6 true=false)
  (h7:listed.getD 7 false=true->listed.getD 3 false=true) (h8:listed.getD 8 false=true->listed.getD 7 false=true):∃ b,listed= #[true,b,true,false,true,true,false,false,false]:=by
 obtain⟨l⟩:=listed
 match l,hs with
 | [a0,a1,a2,a3,a4,a5,a6,a7,a8],_=>
  simp at h0 h2 h3 h4 h5 h6 h7 h8
  grind
abbrev es103:List Ef:=[⟨some 10,.mref 20,[(20,kO eP ([]:List (KI×Qn)))],[]⟩,⟨some 11,.pv (.agg [pI 2,pI 0]),[],[]⟩,⟨some 12,.pv (eP (Qn.ofZ 1 bg)),[],[]⟩,⟨none,.dead,[(20,kO eP (ZW (2,0) (Qn.ofZ 1 bg) []))],[20]⟩,
 ⟨some 13,.pv (.agg [pI 0,pI 2]),[],[]⟩,⟨some 14,.pv (eP (Qn.ofZ 1 bg)),[],[]⟩,⟨none,.dead,[(20,kO eP (ZW (0,2) (Qn.ofZ 1 bg) (ZW (2,0) (Qn.ofZ 1 bg) [])))],[20]⟩,⟨some 15,.mref 20,[],[]⟩,⟨some 5,.mref 20,[],[]⟩]
end
noncomputable def spR:Orc:=orO (pureO numT) mapO2
noncomputable def radC:Code:=match fn90.body with
 | some (.seq _ (.seq _ c))=>c
 | _=>.skip
noncomputable def radY (n k:Int):Option (DV×Na):=match yCode tab (yBoth spR ft xMap frO tab 20).1 (yBoth spR ft xMap frO tab 20).2 xMap frO 10 fn90.n (fun f=>(ft.get f).isSome) true fn90.kp radC ⟨[(0,vI n),(1,vI k),(5,.mref 20)],[(20,.kdat sqP)]⟩ with
 | some (.normal,s)=>kP tab fn90 10 [] s
 | some (.ret,s)=>kP tab fn90 10 [] s
 | _=>none
theorem w103y (hp:qU) (hf:jq) {n k:Int} {val:DV} {out:Na} (h:radY n k=some (val,out)):qz prog 90 [vI n,vI k] (qq []) val out:=by
 obtain⟨b1,b2⟩:=yBoth_ok (FT:=ft) (X:=xMap) (fr:=frO) mixed (xMap_ok hf) (orO_ok (num_ok hp) (mapO2_ok hp)) ft_ok 20
 refine cL 10 [] qf90 Z (nB Z) Z Z (kc ?_)
 refine tk 1 Z ?_
 refine TK.fork mixed 3 6 (es:=es103) (s0:=⟨[(0,vI n),(1,vI k),(5,.mref 20)],[(20,kR sqP)]⟩) ah ae ⟨_,_,rfl,EfR.on Z (B.newK (enc:=eP) Z Z),_,_,rfl,EfR.on Z (B.run (val:=.pv (.agg [pI 2,pI 0])) (m:=[]) (rd:=[]) ae),_,_,rfl,EfR.on Z (B.call (w100 1 bg) Z Z Z),_,_,rfl,EfR.on Z (B.insK (enc:=eP) (l:=[]) (k:=(2,0)) (v:=(Qn.ofZ 1 bg)) kty Z Z Z Z),_,_,rfl,EfR.on Z (B.run (val:=.pv (.agg [pI 0,pI 2])) (m:=[]) (rd:=[]) ae),_,_,rfl,EfR.on Z (B.call (w100 1 bg) Z Z Z),_,_,rfl,EfR.on Z (B.insK (enc:=eP) (l:=[((2,0),(Qn.ofZ 1 bg))]) (k:=(0,2)) (v:=(Qn.ofZ 1 bg)) kty Z Z Z Z),_,_,rfl,EfR.on Z (B.run Z),_,_,rfl,EfR.on Z (B.run Z),rfl⟩ ae (Wk.trans (wk_shutK (h:=20) Z (fun kv e=>⟨_,kp_sq,e⟩)) (sb Z Z Z).wk) (fun listed hsz D hp hq=>?_) ?_
 · obtain⟨h6,ha⟩:=ready_after hq rfl
   have h5:listed.getD 5 false=true:=ha ⟨5,.data⟩ (.tail _ (.tail _ (.head _))) rfl
   obtain⟨b,rfl⟩:=fk_9 hsz (ha ⟨0,.data⟩ (.head _) rfl) (D 5 _ h5 rfl ⟨2,_⟩ (.head _) rfl) hp (ha ⟨4,.data⟩ (.tail _ (.head _)) rfl) h5 h6 (fun h=>D 7 _ h rfl ⟨3,.data⟩ (.tail _ (.tail _ (.tail _ (.head _)))) rfl) (fun h=>D 8 _ h rfl ⟨7,.data⟩ (.head _) rfl)
   cases b
   · exact⟨_,_,[1,3,7,8],_,rfl,rfl,rfl,EfR.on Z (B.insK (enc:=eP) (l:=[]) (k:=(0,2)) (v:=(Qn.ofZ 1 bg)) kty Z Z Z Z),⟨_,_,rfl,EfR.on Z (B.run (val:=.pv (.agg [pI 2,pI 0])) (m:=[]) (rd:=[]) ae),_,_,rfl,EfR.on Z (B.insK (enc:=eP) (l:=[((0,2),(Qn.ofZ 1 bg))]) (k:=(2,0)) (v:=(Qn.ofZ 1 bg)) kty Z Z Z Z),_,_,rfl,EfR.on Z (B.run Z),_,_,rfl,EfR.on Z (B.run Z),rfl⟩,rfl,rfl,ae,Wk.trans (wk_shutK (h:=20) Z (fun kv e=>⟨_,kp_sq2,e⟩)) (sb Z Z Z).wk⟩
   · exact⟨_,_,[3,7,8],_,rfl,rfl,rfl,EfR.on Z (B.insK (enc:=eP) (l:=[]) (k:=(0,2)) (v:=(Qn.ofZ 1 bg)) kty Z Z Z Z),⟨_,_,rfl,EfR.on Z (B.insK (enc:=eP) (l:=[((0,2),(Qn.ofZ 1 bg))]) (k:=(2,0)) (v:=(Qn.ofZ 1 bg)) kty Z Z Z Z),_,_,rfl,EfR.on Z (B.run Z),_,_,rfl,EfR.on Z (B.run Z),rfl⟩,rfl,rfl,ae,Wk.trans (wk_shutK (h:=20) Z (fun kv e=>⟨_,kp_sq2,e⟩)) (sb Z Z Z).wk⟩
 refine a1 ?_
 refine TK.moE (ι:=Unit) (h:=20) (o:=kR sqP) (p:=fun _=>True) (o':=fun _=>.kdat sqP) Z (fun G w H=>⟨(),trivial,kd_iff.2 H⟩) (fun _=>rfl) fun _ _=>?_
 refine TK.norm ⟨[(0,vI n),(1,vI k),(5,.mref 20)],[(20,.kdat sqP)]⟩ (sb Z Z Z) ?_
 have hen:∀ f,(ft.get f).isSome=true->∀ args w,(callFunc f args).run prog w=.ok (.enter f args) w:=fun f hf=>by
  obtain⟨F,hF'⟩:=QK.1 hf
  obtain⟨fn,_,_,_,_,_,h6⟩:=ft_ok _ (Tr.get_mem hF')
  exact h6
 have key:∀ e s,(e=.normal\/e=.ret)->yCode tab (yBoth spR ft xMap frO tab 20).1 (yBoth spR ft xMap frO tab 20).2 xMap frO 10 fn90.n (fun f=>(ft.get f).isSome) true fn90.kp radC ⟨[(0,vI n),(1,vI k),(5,.mref 20)],[(20,.kdat sqP)]⟩=some (e,s)->kP tab fn90 10 [] s=some (val,out)->T prog fn90.n 10 radC ⟨[(0,vI n),(1,vI k),(5,.mref 20)],[(20,.kdat sqP)]⟩ (PostL tab fn90 10 [] val out):=by
  intro e s he hy hc
  refine T.mono (yCode_ok mixed b1 b2 (xMap_ok hf) hen (fun _=>rfl) radC ae hy) ?_
  rintro e2 s2 ⟨rfl,rfl⟩
  exact leafL he hc Z rfl
 refine TK.ofT ?_
 unfold radY at h
 split at h
 ·rename_i s hy;exact key _ s (.inl Z) hy h
 ·rename_i s hy;exact key _ s (.inr Z) hy h
 cases h
noncomputable def radO:Orc:=fun f lo ds l=>bif Nat.beq f 90 then (match ds,l with
  | [.pv (.lit (.int .i64 n)),.pv (.lit (.int .i64 k))],[]=>match radY n k with
   | some (.mref z,[(y,.kdat P)])=>bif Nat.beq z y then some (.mref (lo+1),[(lo+1,.kdat P)]) else none
   | _=>none
  | _,_=>none) else none
theorem radO_ok (hp:qU) (hf:jq):kQ prog radO:=by
 intro f lo ds l val ms h
 unfold radO at h
 cases h1:Nat.beq f 90 with
 | false=>rw[h1] at h;cases h
 | true=>
  rw[h1] at h
  obtain rfl:=zD h1
  simp only[Wm] at h
  split at h
  ·split at h
   ·rename_i z y P hr
    rw[X4] at h
    split at h
    ·rename_i hb
     cases h
     obtain rfl:=zD hb
     simpa [renM,DV.renL,DV.ren,MO.ren,r1_1] using (w103y hp hf hr).r1 z (lo+1)
    cases h
   cases h
  cases h
end Go.Lens.Tb
end
section
namespace Go.Lens.Tb
open Go.Proofs Go.Lens.Un
variable [Lz] [Dn] [Kr]
def oP (g:List Trm->Option DV):List DV->Option DV
 | [.pv (.slice es)]=>match decP es with
  | some F=>bif goodF F then g F else none
  | none=>none
 | _=>none
theorem oP_ok {f:FuncId} {ds:List DV} {v:DV} {g:List Trm->Option DV} (h:oP g ds=some v) (k:∀ F,GoodF F->g F=some v->qz prog f [vL eY F] (qq []) v []):qz prog f ds (qq []) v []:=by
 unfold oP at h
 split at h
 ·split at h
  ·rename_i F hF
   cases hg:goodF F with
   | false=>rw[hg] at h;cases h
   | true=>
    rw[hg] at h
    rw[decP_ok hF]
    exact k F (goodF_ok hg) h
  cases h
 cases h
def polyT:List (Nat×(List DV->Option DV)):=[
 (25,oP fun F=>some (vI (qF F))),
 (12,oP fun F=>bif decide (((plF F).length+2)*(szP (plF F)+20)<=9000000) then some (.tup [vL eY (erL (qF F) (polT (turP (plF F)))),vI (erE (qF F) (polE (turP (plF F))))]) else none),
 (21,fun ds=>match ds with
  | [.pv (.slice es),.pv (.slice fs)]=>match decP es,decP fs with
   | some F,some G=>bif (goodF F&&goodF G)&&(decide (((plF F).length*(plF G).length+2)*(szP (plF F)+szP (plF G)+2)<=5000000)&&decide ((plF F).length*(plF G).length<=3000)) then
     some (.tup [vS (bsO (erL (ki F G) (resT (lin dF (js (plF F) (plF G)))))),vI (erE (ki F G) (resE (lin dF (js (plF F) (plF G)))))]) else none
   | _,_=>none
  | _=>none),
 (11,fun ds=>match ds with
  | [.pv (.slice es),.pv (.lit (.string b))]=>match decP es with
   | some F=>bif goodF F&&decide (((plF F).length+2)*(szP (plF F)+20)<=9000000) then
     some (.tup [vL eY (erL (qB [qF F,je (!(axB b.data.toList)) 13]) (polT (derP (axI b.data.toList) (plF F)))),vI (erE (qB [qF F,je (!(axB b.data.toList)) 13]) (polE (derP (axI b.data.toList) (plF F))))]) else none
   | none=>none
  | _=>none),
 (9,fun ds=>match ds with
  | [.pv (.slice es),.pv (.agg [.lit (.string x),.lit (.string y)])]=>match decP es with
   | some F=>bif goodF F&&(Nat.ble x.data.toList.length 1000&&Nat.ble y.data.toList.length 1000&&decide (((plF F).length+2)*(szP (plF F)+34*(sz (jh x.data.toList).q+sz (jh y.data.toList).q+128))<=9000000)) then
     some (.tup [vS (bsO (erL (qB [qF F,q9 x.data.toList,q9 y.data.toList]) (resT (evP (plF F) (Qn.q (jh x.data.toList)) (Qn.q (jh y.data.toList)))))),vI (erE (qB [qF F,q9 x.data.toList,q9 y.data.toList]) (resE (evP (plF F) (Qn.q (jh x.data.toList)) (Qn.q (jh y.data.toList)))))]) else none
   | none=>none
  | _=>none)]
theorem poly_ok (hp:qU):kQ prog (pureO polyT):=pureO_ok fun p hm ds v h=>by
 simp only[polyT,zF,qh,Wr] at hm
 rcases hm with rfl|rfl|rfl|rfl|rfl<;>simp only at h ⊢
 ·exact oP_ok h fun F g hv=>by cases hv;exact w81 F g.l g.s
 ·refine oP_ok h fun F g hv=>?_
  cases hb:decide (((plF F).length+2)*(szP (plF F)+20)<=9000000) with
  | false=>rw[hb] at hv;cases hv
  | true=>rw[hb] at hv;cases hv;exact w25 hp F g.l g.s fun _=>⟨g.o,by have:=X3 hb;exact this⟩
 ·split at h
  ·split at h
   ·rename_i F G hF hG
    cases hb:((goodF F&&goodF G)&&(decide (((plF F).length*(plF G).length+2)*(szP (plF F)+szP (plF G)+2)<=5000000)&&decide ((plF F).length*(plF G).length<=3000))) with
    | false=>rw[hb] at h;cases h
    | true=>
     rw[hb] at h
     cases h
     simp only[zj,zf] at hb
     have g1:=goodF_ok hb.1.1
     have g2:=goodF_ok hb.1.2
     rw[decP_ok hF,decP_ok hG]
     exact w33 hp F G g1.l g1.s g2.l g2.s fun _=>hb.2
   cases h
  cases h
 ·split at h
  ·split at h
   ·rename_i b _ F hF
    cases hb:(goodF F&&decide (((plF F).length+2)*(szP (plF F)+20)<=9000000)) with
    | false=>rw[hb] at h;cases h
    | true=>
     rw[hb] at h
     cases h
     simp only[zj,zf] at hb
     have g:=goodF_ok hb.1
     rw[decP_ok hF]
     exact w24 hp F b.data.toList g.l g.s fun _=>⟨g.o,hb.2⟩
   cases h
  cases h
 split at h
 ·split at h
  ·rename_i x y _ F hF
   cases hb:(goodF F&&(Nat.ble x.data.toList.length 1000&&Nat.ble y.data.toList.length 1000&&decide (((plF F).length+2)*(szP (plF F)+34*(sz (jh x.data.toList).q+sz (jh y.data.toList).q+128))<=9000000))) with
   | false=>rw[hb] at h;cases h
   | true=>
    rw[hb] at h
    cases h
    simp only[zj,zf,Wf] at hb
    have g:=goodF_ok hb.1
    rw[decP_ok hF]
    exact w22 hp F x.data.toList y.data.toList g.l g.s aa aa fun _=>⟨g.o,hb.2.2⟩
  cases h
 cases h
noncomputable def spO:Orc:=orO (pureO numT) (orO (pureO polyT) (orO mapO (orO mapO2 radO)))
theorem sp_ok (hp:qU) (hf:jq):kQ prog spO:=orO_ok (num_ok hp) (orO_ok (poly_ok hp) (orO_ok mapO_ok (orO_ok (mapO2_ok hp) (radO_ok hp hf))))
end Go.Lens.Tb
end
section
namespace Go.Lens
variable [Lz]
section
variable {P:Program} {Y:Tab} [qI P Y] {O:Orc} {U:YOrc} {X:XOp} {fr:Oper->Bool} {en:FuncId->Bool}
noncomputable def yFunZ (O:Orc) (U:YOrc) (X:XOp) (fr:Oper->Bool) (Y:Tab) (en:FuncId->Bool) (F:FnI) (ds:List DV):Option DV:=
 match F.body with
 | some c=>bif Nat.ble ds.length F.n&&(DV.qK ds).isEmpty then
   match yCode Y O U X fr 2 F.n en true F.kp c ⟨zipT 0 ds,[]⟩ with
   | some (.normal,s)=>(match kP Y F 2 [] ((s.tm.map (·.1)).foldl frz1 s) with
     | some (v,[])=>some v
     | _=>none)
   | some (.ret,s)=>(match kP Y F 2 [] ((s.tm.map (·.1)).foldl frz1 s) with
     | some (v,[])=>some v
     | _=>none)
   | _=>none
  else none
 | none=>none
theorem Wk.frzL {nb:Nat}:∀ (l:List Nat) (s:St),Wk nb s (l.foldl Go.Lens.frz1 s)
 | [],_=>Wk.refl
 | _::l,_=>Wk.tr Wk.frz1 (Wk.frzL l _)
theorem yFunZ_ok (hm:P.follows .mixedOrders=true) (hO:kQ P O) (hZ:YOrcOk P U) (hX:XOpOk P Y X) (hen:∀ f,en f=true->∀ args w,(callFunc f args).run P w=.ok (.enter f args) w) {F:FnI} {f:FuncId} {fn:Func} (hf:P.funcs[f]? =some fn) (hb:fn.body=F.body) (hn:fn.ntmps=F.n) (hr:fn.results=F.res)
  (hda:∀ c,F.body=some c->jg F.n c=true) (he:∀ args w,(callFunc f args).run P w=.ok (.enter f args) w) {ds:List DV} {val:DV} (h:yFunZ O U X fr Y en F ds=some val):qz P f ds (qq []) val []:=by
 unfold yFunZ at h
 split at h
 ·rename_i c hc
  cases hq:(Nat.ble ds.length F.n&&(DV.qK ds).isEmpty) with
  | false=>rw[hq] at h;cases h
  | true=>
   rw[hq] at h
   simp only[Wm] at h
   simp only[zj,Wf,List.isEmpty_iff] at hq
   have key:∀ (e:Exit) (s:St),(e=.normal\/e=.ret)->yCode Y O U X fr 2 F.n en true F.kp c ⟨zipT 0 ds,[]⟩=some (e,s)->kP Y F 2 [] ((s.tm.map (·.1)).foldl frz1 s)=some (val,[])->qz P f ds (qq []) val []:=by
    intro e s hex hy hx
    refine callOk_ofL (Y:=Y) (F:=F) 2 [] hf (hb.trans hc) hn hr he hq.1 (by rw[hq.2];rfl) Z ?_
    refine T.mono (T.wkPost (yCode_ok hm hO hZ hX hen (fun _=>rfl) c (hda c hc) hy) (Wk.frzL (s.tm.map (·.1)) s)) ?_
    rintro e2 s2 ⟨rfl,rfl⟩
    exact⟨hex,hx⟩
   split at h
   ·rename_i s hy
    split at h
    ·rename_i hx;cases h;exact key _ s (.inl Z) hy hx
    cases h
   ·rename_i s hy
    split at h
    ·rename_i hx;cases h;exact key _ s (.inr Z) hy hx
    cases h
   cases h
 cases h
theorem yFunZ_of (hm:P.follows .mixedOrders=true) {SP:Orc} {FT:Tr FnI} {k:Nat} (hX:XOpOk P Y X) (hS:kQ P SP) (hF:FtOk P FT) {f:FuncId} {F:FnI} (hf:FT.get f=some F) {ds:List DV} {val:DV}
  (h:yFunZ (yBoth SP FT X fr Y k).1 (yBoth SP FT X fr Y k).2 X fr Y (fun f=>(FT.get f).isSome) F ds=some val):qz P f ds (qq []) val []:=by
 obtain⟨h1,h2⟩:=yBoth_ok (fr:=fr) hm hX hS hF k
 have hen:∀ f,(FT.get f).isSome=true->∀ args w,(callFunc f args).run P w=.ok (.enter f args) w:=fun f hf=>by
  obtain⟨F,hF'⟩:=QK.1 hf
  obtain⟨fn,_,_,_,_,_,h6⟩:=hF _ (Tr.get_mem hF')
  exact h6
 obtain⟨fn,g1,g2,g3,g4,g5,g6⟩:=hF _ (Tr.get_mem hf)
 exact yFunZ_ok hm h1 h2 hX hen g1 g2 g3 g4 g5 g6 h
end
end Go.Lens
end
section
namespace Go.Lens.Tb
open Go.Proofs Go.Lens.Un
variable [Lz] [Dn] [Kr]
theorem fact (hp:qU) (hf:jq) {f:FuncId} {F:FnI} (q:ft.get f=some F) {ds:List DV} {val:DV} (h:yFunZ (yBoth spO ft xMap frO tab 30).1 (yBoth spO ft xMap frO tab 30).2 xMap frO tab (fun f=>(ft.get f).isSome) F ds=some val):qz prog f ds (qq []) val []:=
 yFunZ_of mixed (xMap_ok hf) (sp_ok hp hf) ft_ok q h
end Go.Lens.Tb
end
section
namespace Go.Lens.Tb
open Go.Proofs Go.Lens.Un
variable [Lz] [Dn] [Kr]
def eqBs:Nb->Nb->Bool
 | [],[]=>true
 | a::l,b::m=>Nat.beq a.toNat b.toNat&&eqBs l m
 | _,_=>false
theorem eqBs_ok:∀ {a b:Nb},eqBs a b=true->a=b
 | [],[],_=>rfl
 | [],_::_,h=>by cases h
 | _::_,[],h=>by cases h
 | a::l,b::m,h=>by
  simp only[eqBs,zj] at h
  rw[JR.1 (zD h.1),eqBs_ok h.2]
mutual
def eqPV:PV->PV->Bool
 | .lit (.int .i64 a),.lit (.int .i64 b)=>ieqF a b
 | .lit (.string a),.lit (.string b)=>eqBs a.data.toList b.data.toList
 | .lit (.slice none 0 0),.lit (.slice none 0 0)=>true
 | .agg a,.agg b=>eqPVs a b
 | .slice a,.slice b=>eqPVss a b
 | _,_=>false
def eqPVs:List PV->List PV->Bool
 | [],[]=>true
 | a::l,b::m=>eqPV a b&&eqPVs l m
 | _,_=>false
def eqPVss:List (List PV)->List (List PV)->Bool
 | [],[]=>true
 | a::l,b::m=>eqPVs a b&&eqPVss l m
 | _,_=>false
end
mutual
theorem eqPV_ok:∀ {a b:PV},eqPV a b=true->a=b:=by
 intro a b h
 unfold eqPV at h
 split at h
 ·rw[ieqF_eq,Wi] at h;rw[h]
 ·rename_i a b
  have:=eqBs_ok h
  obtain⟨⟨a⟩⟩:=a
  obtain⟨⟨b⟩⟩:=b
  simp only at this
  rw[this]
 ·rfl
 ·rw[eqPVs_ok h]
 ·rw[eqPVss_ok h]
 cases h
theorem eqPVs_ok:∀ {a b:List PV},eqPVs a b=true->a=b:=by
 intro a b h
 unfold eqPVs at h
 split at h
 ·rfl
 ·simp only[zj] at h
  rw[eqPV_ok h.1,eqPVs_ok h.2]
 cases h
theorem eqPVss_ok:∀ {a b:List (List PV)},eqPVss a b=true->a=b:=by
 intro a b h
 unfold eqPVss at h
 split at h
 ·rfl
 ·simp only[zj] at h
  rw[eqPVs_ok h.1,eqPVss_ok h.2]
 cases h
end
def eqDs:List DV->List PV->Bool
 | [],[]=>true
 | .pv a::l,b::m=>eqPV a b&&eqDs l m
 | _,_=>false
theorem eqDs_ok:∀ {a:List DV} {b:List PV},eqDs a b=true->a=b.map .pv
 | [],[],_=>rfl
 | [],_::_,h=>by cases h
 | d::l,[],h=>by cases d<;>cases h
 | d::l,b::m,h=>by
  cases d<;>first|cases h|skip
  simp only[eqDs,zj] at h
  rw[eqPV_ok h.1,eqDs_ok h.2];rfl
def factO:List (Nat×List PV×DV)->Orc
 | []=>fun _ _ _ _=>none
 | (g,xs,v)::T=>fun f lo ds l=>match l with
  | []=>bif Nat.beq g f&&eqDs ds xs then some (v,[]) else factO T f lo ds []
  | _=>none
theorem factO_ok:∀ {T:List (Nat×List PV×DV)},(∀ p∈T,qz prog p.1 (p.2.1.map .pv) (qq []) p.2.2 [])->kQ prog (factO T)
 | [],_=>fun _ _ _ _ _ _ h=>by cases h
 | (g,xs,v)::T,H=>fun f lo ds l val ms h=>by
  unfold factO at h
  split at h
  ·cases hb:(Nat.beq g f&&eqDs ds xs) with
   | true=>
    rw[hb] at h
    cases h
    simp only[zj] at hb
    obtain rfl:=zD hb.1
    rw[eqDs_ok hb.2]
    exact H _ qg
   | false=>
    rw[hb] at h
    exact factO_ok (fun p hp=>H p (zN _ hp)) _ _ _ _ _ _ h
  cases h
end Go.Lens.Tb
end
