/- A part of the proof of PupilDiscCardSaid, without conditions. -/
import Derived.Test.YthmgaldefkaglaaGreatDoorP10
set_option linter.unusedVariables false
set_option linter.unusedSimpArgs false
set_option linter.unusedSectionVars false
set_option maxHeartbeats 4000000
section
namespace Go.Lens.Tb
open Go.Proofs Go.Lens.Un
variable [Lz] [Dn]
set_option maxRecDepth 100000
abbrev trZ' (Z:ZL):List Trm:=(Z.map cI).map trR
structure GdZ (Z:ZL):Prop where
 o:ZOk Z
 n:Z.length<=1000
 c:∀ t∈trZ' Z,List.length (Trm.c t)<=18
 e:qQ (trZ' Z)=0
 p:plF (trZ' Z)=Z.map cI
section
variable {Z A B:ZL} {q:Rat} {z:Int} {a j b k:Nat}
theorem gzB_e (h:gzB Z=true):GdZ Z:=by
 unfold gzB at h
 simp only[zj,zf,zr] at h
 exact⟨zokB_e h.1.1.1,h.1.1.2,h.1.2,h.2.1,h.2.2⟩
theorem GdZ.l (h:GdZ Z):(trZ' Z).length<=1000000:=by rw[zJ,zJ];have:=h.n;omega
theorem gd_t (ha:a<=8) (hj:j<=a):GdZ (zt a j):=gzB_e (allM_e gdt_b ha hj)
theorem gd_u (ha:a<=8) (hj:j<=a):GdZ (zu a j):=gzB_e (zj _ _▸allM_e gdu_b ha hj).1
theorem nd_D (h:q*((10321920:Nat):Rat)=(z:Rat)) (hz:z.natAbs<=10321920):qS q/\je q=false:=by
 have:=nd_of (b:=((10321920:Nat):Int)) ah h
 have h1:q.num.natAbs<=10321920:=aa
 have h2:q.den<=10321920:=this.2
 refine⟨⟨aa,aa⟩,?_⟩
 unfold je
 rw[lg_0 aa,lg_0 aa];rfl
theorem rs_s (h:je q=false):resT q=txt q/\resE q=0:=by unfold resT resE;rw[h];exact⟨rfl,rfl⟩
theorem z33 (hp:qX) (A B:ZL) (gA:GdZ A) (gB:GdZ B) (h:diB A B=true) (hz:(ipN A B).natAbs<=10321920):CKa 33 [vL eY (trZ' A),vL eY (trZ' B)] (.tup [vS (bsO (txt (ipQ A B))),vI 0]):=by
 have g:=w33 hp (trZ' A) (trZ' B) gA.l gA.c gB.l gB.c (fun _=>by rw[gA.p,gB.p];exact (dio h).1)
 have e:jy (trZ' A) (trZ' B)=0:=by unfold jy;rw[gA.e,gB.e];rfl
 rw[e,gA.p,gB.p] at g
 have r:=rs_s (nd_D (dio h).2 hz).2
 unfold erL erE at g
 rw[if_neg ah,if_neg ah,r.1,r.2] at g
 exact g
theorem zeE_0:allM (fun a j=>decide (zeE (a:Int) ((a:Int)-2*(j:Int))=0))=true:=ae
theorem z16 (hp:qX) (hf:FacLaid) (a j:Nat) (ha:a<=8) (hj:j<=a):CKa 16 [vI (a:Int),vI ((a:Int)-2*(j:Int))] (.tup [vL eY (trZ' (zt a j)),vI 0]):=by
 have g:=w16 hp hf (a:Int) ((a:Int)-2*(j:Int))
 have e0:=of_decide_eq_true (allM_e zeE_0 ha hj)
 have e1:zeP (a:Int) ((a:Int)-2*(j:Int))=_:=zeZ_e fun s hs=>of_decide_eq_true (zr.1 (allM_e zcr_b ha hj) s (List.mem_range.2 hs))
 have e2:=pol_c (eqZ_e (allM_e zeq_b ha hj))
 rw[<-e1] at e2
 rw[e0,e2.1,e2.2,(gd_t ha hj).o.pol.1,(gd_t ha hj).o.pol.2] at g
 exact g
theorem z16n (hp:qX) (hf:FacLaid) (a j:Nat) (ha:a<=8) (hj:j<=a):CKa 16 [vI (a:Int),vI (0-((a:Int)-2*(j:Int)))] (.tup [vL eY (trZ' (zt a (a-j))),vI 0]):=by
 have g:=z16 hp hf a (a-j) ha aa
 rwa [show (a:Int)-2*((a-j:Nat):Int)=0-((a:Int)-2*(j:Int)) by omega] at g
theorem ok_Z (h:GdZ Z) (hl:Un.l1 Z<=4000):OkP (Z.map cI)/\DrOk (Z.map cI):=by
 have hb:NB (Z.map cI) 4000:=⟨Z,rfl,hl⟩
 refine⟨⟨fun k hk=>?_,by rw[zJ];have:=h.n;omega,hb.le ah⟩,hb.le ah⟩
 rw[ZOk.keys] at hk
 obtain⟨a,ha,rfl⟩:=zF.1 hk
 have:=h.o.c a ha
 omega
theorem l1_b:allM (fun a j=>decide (Un.l1 (zt a j)<=4000))=true:=ae
theorem z25 (hp:qX) (a j:Nat) (ha:a<=8) (hj:j<=a):CKa 25 [vL eY (trZ' (zt a j))] (.tup [vL eY (trZ' (zu a j)),vI 0]):=by
 have gA:=gd_t ha hj
 have hl:=of_decide_eq_true (allM_e l1_b ha hj)
 have g:=w25 hp (trZ' (zt a j)) gA.l gA.c (fun _=>by rw[gA.p];exact ok_Z gA hl)
 have e2:=pol_c (eqZ_e (zj _ _▸allM_e gdu_b ha hj).2)
 rw[<-turZ_e] at e2
 rw[gA.e,gA.p,e2.1,e2.2,(gd_u ha hj).o.pol.1,(gd_u ha hj).o.pol.2] at g
 exact g
def egQ (a j:Nat):Rat:=bif decide (2*j<=a) then 1 else 0
theorem egv_b:allM (fun a j=>decide (evP ((zt a j).map cI) 1 0=egQ a j))=true:=ae
theorem pw_1 (n:Nat):(1:Rat) ^ n=1:=by induction n with
 | zero=>rfl
 | succ n ih=>rw[Rat.pow_succ,ih,Rat.mul_one]
theorem pw_0 (n:Nat):∃ d:Nat,(0:Rat) ^ n=((d:Int):Rat)/\d<=1:=by
 cases n with
 | zero=>exact⟨1,rfl,zC _⟩
 | succ n=>exact⟨0,by rw[Rat.pow_succ,Rat.mul_zero];rfl,zw _⟩
theorem ev_z {P:PL} (h:NB P 4000):∀ (l:List KI) (r:Int),∃ z:Int,evR P 1 0 l (r:Rat)=(z:Rat)/\z.natAbs<=r.natAbs+4000*l.length
 | [],r=>⟨r,rfl,zC _⟩
 | k::l,r=>by
  obtain⟨c,e,hc⟩:=h.cf k
  obtain⟨d,e2,hd⟩:=pw_0 k.2.toNat
  obtain⟨z,e3,hz⟩:=ev_z h l (r+c*(d:Int))
  refine⟨z,?_,?_⟩
  ·rw[evR,e,pw_1,Rat.mul_one,e2,<-Rat.intCast_mul,<-Rat.intCast_add];exact e3
  have h1:(r+c*(d:Int)).natAbs<=r.natAbs+4000:=by
   refine qh (Int.natAbs_add_le _ _) (Nat.add_le_add_left ?_ _)
   rw[Int.natAbs_mul,Int.natAbs_natCast]
   exact qh (Nat.mul_le_mul hc hd) ah
  rw[zb];omega
theorem v49:(qJ [49]).q=1/\jg [49]=0/\(qJ [48]).q=0/\jg [48]=0:=dc ae
theorem szi (h:z.natAbs<=1000000000):sz (z:Rat)<=30:=qh (sz_int z) (Nat.max_le.2 ⟨jb aa,ah⟩)
theorem ev_ok (g:GdZ Z) (hl:Un.l1 Z<=4000):EvOk (Z.map cI) (qJ [49]) (qJ [48]):=by
 have hb:NB (Z.map cI) 4000:=⟨Z,rfl,hl⟩
 unfold EvOk
 rw[v49.1,v49.2.2.1]
 have hr:∀ l:List KI,l.length<=1000->sz (evR (Z.map cI) 1 0 l 0)<=30:=fun l hl=>by
  obtain⟨z,e,hz⟩:=ev_z hb l 0
  rw[show (((0:Int):Int):Rat)=0 from rfl] at e
  rw[e];exact szi aa
 have hn:(q9 (Z.map cI)).length<=1000:=by rw[g.o.ord,zJ];exact g.n
 refine⟨fun j hj=>?_,qh (hr _ hn) ah⟩
 have hk:=jf (z:=((0:Int),(0:Int))) hj
 obtain⟨a,ha,e⟩:=zF.1 ((g.o.mem _).1 hk)
 rw[<-e]
 have hc:=g.o.c a ha
 have h1:=hr (List.take j (q9 (Z.map cI))) (by rw[zn];omega)
 obtain⟨d,e2,hd⟩:=pw_0 a.1.2.toNat
 have hm:=qh (l1_mem ha) hl
 unfold EvT
 rw[v49.1,v49.2.2.1,g.o.cf a ha,pw_1,Rat.mul_one,e2,<-Rat.intCast_mul,show sz (1:Rat)=1 by decide +kernel,show sz (0:Rat)=1 from sz_0]
 have h2:sz ((a.2:Int):Rat)<=30:=szi aa
 have h3:sz (((d:Nat):Int):Rat)<=30:=szi aa
 have h4:sz ((a.2*((d:Nat):Int):Int):Rat)<=30:=szi (by rw[Int.natAbs_mul,Int.natAbs_natCast];exact qh (Nat.mul_le_mul hm hd) ah)
 omega
theorem z22 (hp:qX) (a j:Nat) (ha:a<=8) (hj:j<=a):CKa 22 [vL eY (trZ' (zt a j)),.pv (.agg [pS (bsO [49]),pS (bsO [48])])] (.tup [vS (bsO (txt (egQ a j))),vI 0]):=by
 have gA:=gd_t ha hj
 have hl:=of_decide_eq_true (allM_e l1_b ha hj)
 have g:=w22 hp (trZ' (zt a j)) [49] [48] gA.l gA.c ah ah (fun _=>by rw[gA.p];exact⟨(ok_Z gA hl).1,ev_ok gA hl⟩)
 rw[gA.p,v49.1,v49.2.2.1,of_decide_eq_true (allM_e egv_b ha hj),gA.e,v49.2.1,v49.2.2.2] at g
 have r:je (egQ a j)=false:=by unfold egQ;cases decide (2*j<=a)<;>decide +kernel
 rw[(rs_s r).1,(rs_s r).2] at g
 exact g
theorem cp_Z (g:GdZ Z):CpOk (Z.map cI):=by
 have hl:=g.n
 have hg:∀ k,k<Z.length->(Z.map cI).getD k rrZ=cI (Z.getD k ((0,0),0)):=fun k hk=>by
  rw[ze,ze,qe,zm hk];rfl
 refine⟨by rw[zJ];omega,fun k hk=>?_,fun k hk h0=>?_⟩
 ·rw[zJ] at hk
  rw[hg k hk]
  have hc:=g.o.c _ (jf (z:=((0,0),0)) hk)
  refine⟨⟨?_,?_⟩,icast_ne hc.1,hc.2.2⟩
  ·show ((_:Int):Rat).num.natAbs<_
   rw[Rat.num_intCast];exact hc.2.1
  show ((_:Int):Rat).den<_
  rw[Rat.den_intCast];decide
 rw[zJ] at hk
 rw[hg k hk,hg (k-1) aa]
 have hp:=List.pairwise_iff_getElem.1 g.o.p (k-1) k (by rw[zJ];omega) (by rw[zJ];exact hk) aa
 rw[List.getElem_map,List.getElem_map,ordI_lt] at hp
 rw[ze,ze,zm hk,zm (show k-1<Z.length by omega)]
 show aftB (Z[k]).1 (Z[k-1]).1=true
 unfold aftB
 rcases hp with hp|hp
 ·rw[zl (show (Z[k]).1.1+(Z[k]).1.2≠(Z[k-1]).1.1+(Z[k-1]).1.2 by omega)]
  exact zl hp
 rw[zk (show ¬(Z[k]).1.1+(Z[k]).1.2≠(Z[k-1]).1.1+(Z[k-1]).1.2 by omega)]
 exact zl hp.2
theorem z26 (g:GdZ Z):CKa 26 [vL eY (trZ' Z)] (vI 0):=by
 rw[<-trR_m];exact w26 _ (cp_Z g)
end
end Go.Lens.Tb
end
section
namespace Go.Lens.Tb
open Go.Proofs Go.Lens.Un
variable [Lz] [Dn]
set_option maxRecDepth 100000
attribute [local irreducible] TK PK T RG EfR Body CG
theorem _root_.Go.Lens.B.remB {P:Program} {Y:Tab} [qM P Y] {nb:Nat} {s:St} {dst:Option Tmp} {ty u:TypeId} {pos:String} {af:Array Edge} {gd:Option (Nat×Bool)} {t:TypeId} {x y:Operand} {a b:Int} (hx:ev1 s x=lit (.int .u8 a)) (hy:ev1 s y=lit (.int .u8 b)) (h:0<=a/\0<b):Body P Y nb s ⟨dst,.binOp .rem t x y u,ty,pos,af,gd⟩ (lit (.int .u8 (a%b))) [] []:=by
 refine B.bin hx hy ?_
 show qE (some (b != 0,lit (.int .u8 (a.tmod b))))=_
 have h0:(b != 0)=true:=by simpa using (show b≠0 by omega)
 rw[h0,Int.tmod_eq_emod_of_nonneg h.1];rfl
theorem md_9 {x:Int} (h:0<=x):∃ a:Nat,a<=8/\x%9=((a:Nat):Int):=⟨(x%9).toNat,aa,aa⟩
theorem md_n {y:Int} {a:Nat} (h:0<=y):∃ j:Nat,j<=a/\y%(((a:Nat):Int)+1)=((j:Nat):Int):=by
 have h1:=Int.emod_nonneg y (show ((a:Nat):Int)+1≠0 by omega)
 have h2:=Int.emod_lt_of_pos y (show 0<((a:Nat):Int)+1 by omega)
 exact⟨(y%(((a:Nat):Int)+1)).toNat,aa,aa⟩
theorem md_r {x y:Int} (hx:0<=x) (hy:0<=y):0<=y%(x%9+1)/\y%(x%9+1)<=8:=by
 have h0:=Int.emod_nonneg x (show (9:Int)≠0 by decide)
 have h1:=Int.emod_nonneg y (show x%9+1≠0 by omega)
 have h2:=Int.emod_lt_of_pos y (show 0<x%9+1 by omega)
 omega
def wnQ (a j b k:Nat):Rat:=if a=b/\j=k then (if 2*j=a then frq 1 (((a:Nat):Int)+1) else frq 1 (((a:Nat):Int)+1)*(1 / 2)) else 0
section
variable {a j b k:Nat} {q r:Rat} {X W:Int}
theorem prs_a (ha:a<=8):prs a=true:=by
 have h0:=prs_0
 have h1:=prs_1
 simp only[zj] at h0 h1
 match a,ha with
 | 0,_=>exact h0.1.1.1.1
 | 1,_=>exact h0.1.1.1.2
 | 2,_=>exact h0.1.1.2
 | 3,_=>exact h0.1.2
 | 4,_=>exact h0.2
 | 5,_=>exact h1.1
 | 6,_=>exact h1.2
 | 7,_=>exact prs_2
 | 8,_=>exact prs_3
theorem wn_le:0<=wnN a j b k/\wnN a j b k<=10321920:=by
 have h1:(0:Int)<=10321920 / ((a:Int)+1):=Int.ediv_nonneg ah aa
 have h2:(10321920:Int) / ((a:Int)+1)<=10321920:=Int.ediv_le_self _ ah
 unfold wnN
 cases (a==b&&j==k)<;>cases (2*j==a)<;>simp only[cond_true,cond_false]<;>omega
theorem pr_b (ha:a<=8) (hj:j<=a) (hb:b<=8) (hk:k<=b):diB (zt a j) (zt b k)=true/\(ipN (zt a j) (zt b k)).natAbs<=10321920/\ipN (zt a j) (zt b k)=wnN a j b k:=by
 have h:=allM_e (zr.1 (prs_a ha) j (List.mem_range.2 aa)) hb hk
 simp only[zj,zf] at h
 have:=wn_le (a:=a) (j:=j) (b:=b) (k:=k)
 exact⟨h.1,by rw[h.2];omega,h.2⟩
theorem wnQ_b:allM (fun a j=>decide (wnQ a j a j*((10321920:Nat):Rat)=((wnN a j a j:Int):Rat)))=true:=ae
theorem wnQ_e (ha:a<=8) (hj:j<=a):wnQ a j b k*((10321920:Nat):Rat)=((wnN a j b k:Int):Rat):=by
 by_cases h:a=b/\j=k
 ·obtain⟨rfl,rfl⟩:=h
  exact of_decide_eq_true (allM_e wnQ_b ha hj)
 have e:wnN a j b k=0:=by
  unfold wnN
  have:(a==b&&j==k)=false:=by simpa using h
  rw[this];rfl
 rw[e];unfold wnQ
 rw[if_neg h,Rat.zero_mul];rfl
theorem D_ne:((10321920:Nat):Rat)≠0:=by decide +kernel
theorem D_inj (h:q*((10321920:Nat):Rat)=(X:Rat)) (g:r*((10321920:Nat):Rat)=(X:Rat)):q=r:=by
 have h1:=D_ne
 generalize ((10321920:Nat):Rat)=D at*
 have:q*D=r*D:=h.trans g.symm
 have e:∀ z:Rat,z=z*D*D⁻¹:=fun z=>by rw[Rat.mul_assoc,Rat.mul_inv_cancel _ h1,Rat.mul_one]
 rw[e q,e r,this]
theorem ip_w (ha:a<=8) (hj:j<=a) (hb:b<=8) (hk:k<=b):ipQ (zt a j) (zt b k)=wnQ a j b k:=by
 have h:=pr_b ha hj hb hk
 have g:=(dio h.1).2
 rw[h.2.2] at g
 exact D_inj g (wnQ_e ha hj)
theorem tu_x (ha:a<=8) (hj:j<=a):(diB (zu a j) (zu a j)=true/\diB (zu a j) (zt a j)=true/\diB (zu a j) (zt a (a-j))=true)/\ipN (zu a j) (zu a j)=wnN a j a j/\(ipN (zu a j) (zt a (a-j))).natAbs<=10321920/\
  (a%2=1->ipN (zu a j) (zt a j)=0/\(((ipN (zu a j) (zt a (a-j))).natAbs:Nat):Int)=wnN a j a j)/\(¬a%2=1->(((ipN (zu a j) (zt a j)).natAbs:Nat):Int)=wnN a j a j):=by
 have h:=allM_e tur_b ha hj
 simp only[zj,zf] at h
 obtain⟨⟨⟨⟨⟨h1,h2⟩,h3⟩,h4⟩,h5⟩,h6⟩:=h
 refine⟨⟨h1,h2,h3⟩,h4,h5,fun e=>?_,fun e=>?_⟩
 ·rw[show (a%2==1)=true by simpa using e,cond_true,zj,zf,zf] at h6
  exact h6
 rw[show (a%2==1)=false by simpa using e,cond_false,zf] at h6
 exact h6
theorem td_b (ha:a<=8) (hj:j<=a):diB (zu a j) (zu a j)=true/\(ipN (zu a j) (zu a j)).natAbs<=10321920/\diB (zu a j) (zt a j)=true/\(ipN (zu a j) (zt a j)).natAbs<=10321920/\diB (zu a j) (zt a (a-j))=true/\(ipN (zu a j) (zt a (a-j))).natAbs<=10321920:=by
 have h:=tu_x ha hj
 have g:=wn_le (a:=a) (j:=j) (b:=a) (k:=j)
 refine⟨h.1.1,by rw[h.2.1];omega,h.1.2.1,?_,h.1.2.2,h.2.2.1⟩
 by_cases e:a%2=1
 ·rw[(h.2.2.2.1 e).1];decide
 have:=h.2.2.2.2 e;omega
theorem fr_s (ha:a<=8):qS (frq 1 (((a:Nat):Int)+1)):=by
 have h0:(((((a:Nat):Int)+1:Int)):Rat)≠0:=icast_ne aa
 have h1:frq 1 (((a:Nat):Int)+1)*(((((a:Nat):Int)+1:Int)):Rat)=((1:Int):Rat):=by
  unfold frq
  generalize (((((a:Nat):Int)+1:Int)):Rat)=D at*
  rw[Rat.div_def,Rat.mul_assoc,Rat.inv_mul_cancel _ h0,Rat.mul_one]
 have:=nd_of (show ((a:Nat):Int)+1≠0 by omega) h1
 have e:((1:Int)).natAbs=1:=rfl
 exact⟨aa,aa⟩
theorem qs_3 (ha:a<=8) (hj:j<=a):∀ q∈[ipQ (zu a j) (zt a j),ipQ (zu a j) (zt a (a-j)),ipQ (zt a j) (zt a j)],qS q:=by
 have h:=td_b ha hj
 have g:=pr_b ha hj ha hj
 intro q hq
 rcases zG.1 hq with rfl|hq
 ·exact (nd_D (dio h.2.2.1).2 h.2.2.2.1).1
 rcases zG.1 hq with rfl|hq
 ·exact (nd_D (dio h.2.2.2.2.1).2 h.2.2.2.2.2).1
 rw[zg.1 hq];exact (nd_D (dio g.1).2 g.2.1).1
theorem qk_len9 (h:qS q):(txt q).length<=900000:=qh (qk_len Z h) ah
theorem dw_1 (h:(bif decide (((a:Nat):Int)=((b:Nat):Int)) then decide (((a:Nat):Int)-2*((j:Nat):Int)=((b:Nat):Int)-2*((k:Nat):Int)) else false)=true) (h2:((a:Nat):Int)-2*((j:Nat):Int)≠0):txt (frq 1 (((a:Nat):Int)+1)*(1 / 2))=txt (wnQ a j b k):=by
 have h:=qk_two h
 have h3:=of_decide_eq_true h.1
 have h4:=of_decide_eq_true h.2
 unfold wnQ
 rw[if_pos aa,if_neg aa]
theorem dw_2 (h:(bif decide (((a:Nat):Int)=((b:Nat):Int)) then decide (((a:Nat):Int)-2*((j:Nat):Int)=((b:Nat):Int)-2*((k:Nat):Int)) else false)=true) (h2:¬((a:Nat):Int)-2*((j:Nat):Int)≠0):txt (frq 1 (((a:Nat):Int)+1))=txt (wnQ a j b k):=by
 have h:=qk_two h
 have h3:=of_decide_eq_true h.1
 have h4:=of_decide_eq_true h.2
 unfold wnQ
 rw[if_pos aa,if_pos aa]
theorem dw_3 (h:(bif decide (((a:Nat):Int)=((b:Nat):Int)) then decide (((a:Nat):Int)-2*((j:Nat):Int)=((b:Nat):Int)-2*((k:Nat):Int)) else false)=false):([48]:List UInt8)=txt (wnQ a j b k):=by
 have e:¬(a=b/\j=k):=by
  rintro⟨rfl,rfl⟩
  rw[zl rfl,zl rfl] at h;cases h
 unfold wnQ
 rw[if_neg e]
 exact (show ([48]:List UInt8)=txt 0 by kernel_rfl)
theorem self_e (ha:a<=8) (hj:j<=a):ipQ (zt a j) (zt a j)*((10321920:Nat):Rat)=((wnN a j a j:Int):Rat):=by
 have h:=pr_b ha hj ha hj
 rw[<-h.2.2];exact (dio h.1).2
theorem wn_pos (ha:a<=8):0<wnN a j a j:=by
 have h2:(2:Int)<=10321920 / ((a:Int)+1):=(Int.le_ediv_iff_mul_le aa).2 aa
 unfold wnN
 rw[show (a==a&&j==j)=true by simp]
 cases (2*j==a)<;>simp only[cond_true,cond_false]<;>omega
theorem ds_x (ha:a<=8) (hj:j<=a) (h:ipQ (zt a j) (zt a j)=0):False:=by
 have g:=self_e ha hj
 rw[h,Rat.zero_mul] at g
 have:=wn_pos (j:=j) ha
 exact icast_ne (show wnN a j a j≠0 by omega) g.symm
theorem ab_D (h:q*((10321920:Nat):Rat)=(X:Rat)) (g:r*((10321920:Nat):Rat)=(W:Rat)) (e:((X.natAbs:Nat):Int)=W):abQ q=r:=by
 have hq:q=(X:Rat) / (((10321920:Nat):Int):Rat):=by
  have h1:=D_ne
  rw[<-h]
  show q=q*((10321920:Nat):Rat) / ((10321920:Nat):Rat)
  rw[Rat.div_def,Rat.mul_assoc,Rat.mul_inv_cancel _ h1,Rat.mul_one]
 have hn:=(mk_nd (X:=X) (show (0:Int)<((10321920:Nat):Int) by decide)).1
 rw[<-hq] at hn
 have hg:(0:Int)<((Nat.gcd X.natAbs (((10321920:Nat):Int)).natAbs:Nat):Int):=by
  have:=Nat.gcd_pos_of_pos_right X.natAbs (show 0<(((10321920:Nat):Int)).natAbs by decide)
  omega
 unfold abQ
 by_cases hx:X<0
 ·rw[hn,if_pos (Int.ediv_neg_of_neg_of_pos hx hg)]
  refine D_inj (X:=W) ?_ g
  rw[Rat.neg_mul,h,<-Rat.intCast_neg]
  congr 1;omega
 have:=Int.ediv_nonneg (show 0<=X by omega) (Int.le_of_lt hg)
 rw[hn,if_neg aa]
 refine D_inj (X:=W) ?_ g
 rw[h];congr 1;omega
theorem tm_2:(Int.tmod (((a:Nat):Int)-2*((j:Nat):Int)) 2=0↔¬a%2=1):=by
 have h1:=Int.mul_tdiv_add_tmod (((a:Nat):Int)-2*((j:Nat):Int)) 2
 have h2:=Int.tmod_lt_of_pos (((a:Nat):Int)-2*((j:Nat):Int)) (show (0:Int)<2 by decide)
 have h3:=Int.lt_tmod_of_pos (((a:Nat):Int)-2*((j:Nat):Int)) (show (0:Int)<2 by decide)
 omega
theorem ds_y (ha:a<=8) (hj:j<=a) (h:(bif (bif decide (Int.tmod (((a:Nat):Int)-2*((j:Nat):Int)) 2≠0) then (bif !(decide (ipQ (zu a j) (zt a j)=0)) then true else decide (txt (abQ (ipQ (zu a j) (zt a (a-j))))≠txt (ipQ (zt a j) (zt a j)))) else false) then true else (bif decide (Int.tmod (((a:Nat):Int)-2*((j:Nat):Int)) 2=0) then decide (txt (abQ (ipQ (zu a j) (zt a j)))≠txt (ipQ (zt a j) (zt a j))) else false))=true):False:=by
 have t:=tu_x ha hj
 have s:=self_e ha hj
 by_cases e:a%2=1
 ·have f:=t.2.2.2.1 e
  have h0:¬Int.tmod (((a:Nat):Int)-2*((j:Nat):Int)) 2=0:=fun g=>tm_2.1 g e
  have hx:ipQ (zu a j) (zt a j)=0:=D_inj (X:=0) (by rw[(dio t.1.2.1).2,f.1]) (by rw[Rat.zero_mul];rfl)
  have hy:=ab_D (dio t.1.2.2).2 s f.2
  rw[zl h0,zk h0,hx,hy] at h
  simp at h
 have f:=t.2.2.2.2 e
 have h0:=tm_2 (j:=j).2 e
 have hy:=ab_D (dio t.1.2.1).2 s f
 rw[zk (fun g=>g h0),zl h0,hy] at h
 simp at h
theorem ds_e (ha:a<=8) (hj:j<=a) (hb:b<=8) (hk:k<=b):(bif (bif (bif (bif (decide (txt (ipQ (zt a j) (zt b k))=txt (wnQ a j b k))) then (decide (txt (ipQ (zu a j) (zu a j))=txt (ipQ (zt a j) (zt a j)))) else false) then ((decide (txt (egQ a j)=[49]))==(decide (0<=((a:Nat):Int)-2*((j:Nat):Int)))) else false) then (bif decide (0<=((a:Nat):Int)-2*((j:Nat):Int)) then true else decide (txt (egQ a j)=[48])) else false) then true else false)=true:=by
 have t:=tu_x ha hj
 have e2:ipQ (zu a j) (zu a j)=ipQ (zt a j) (zt a j):=D_inj (X:=wnN a j a j) (by rw[(dio t.1.1).2,t.2.1]) (self_e ha hj)
 rw[ip_w ha hj hb hk,e2,zl rfl,zl rfl]
 unfold egQ
 by_cases h:2*j<=a
 ·rw[zl h,zl (show 0<=((a:Nat):Int)-2*((j:Nat):Int) by omega),cond_true (1:Rat),show txt 1=[49] by kernel_rfl];rfl
 rw[zk h,zk (show ¬0<=((a:Nat):Int)-2*((j:Nat):Int) by omega),cond_false (1:Rat),show txt 0=[48] by kernel_rfl];rfl
end
theorem w9 (hp:qX) (hf:FacLaid) (x0 x1 y0 y1:Int) (hx:0<=x0/\0<=x1) (hy:0<=y0/\0<=y1) (hx2:x0<256/\x1<256) (hy2:y0<256/\y1<256):CKa 9 [.pv (.agg [.lit (.int .u8 x0),.lit (.int .u8 x1)]),.pv (.agg [.lit (.int .u8 y0),.lit (.int .u8 y1)])] (vB true):=by
 refine cL 10 [] qf9 Z (nB Z) Z Z (kc (E Z (B.run Z) (E Z (B.remB Z Z aa) (E Z (B.toI Z un5 un3 bj Z) (E Z (B.run Z) (E Z (B.remB Z Z aa) (E Z (B.toI Z un5 un3 bj Z) (Dr Z ae ?_))))))))
 have m1:=md_r (x:=x0) hx.1 hy.1
 have m2:=md_r (x:=x1) hx.2 hy.2
 refine E Z (B.run Z) (E Z (B.toI Z un5 un3 bj Z) (E Z (B.add Z Z bj) (E Z (B.remN Z Z aa aa) (E Z (B.mul Z Z bj) (E Z (B.sub Z Z bj) (E Z (B.run Z) (E Z (B.toI Z un5 un3 bj Z) (E Z (B.add Z Z bj) (E Z (B.remN Z Z aa aa) (E Z (B.mul Z Z bj) (E Z (B.sub Z Z bj) (Dr Z ae ?_))))))))))))
 refine tk 3 Z ?_
 refine tn ⟨[(5,vI (x0%9)),(6,vI (x1%9)),(7,vI ((x0%9)-(2*(y0%((x0%9)+1))))),(8,vI ((x1%9)-(2*(y1%((x1%9)+1)))))],[]⟩ rfl rfl Z ?_
 obtain⟨a,ha,ea⟩:=md_9 hx.1
 obtain⟨b,hb,eb⟩:=md_9 hx.2
 rw[ea,eb]
 obtain⟨j,hj,ej⟩:=md_n (a:=a) hy.1
 obtain⟨k,hk,ek⟩:=md_n (a:=b) hy.2
 rw[ej,ek]
 refine kc (C Z (z16 hp hf a j ha hj) Z Z Z (C Z (z16 hp hf b k hb hk) Z Z Z (C Z (z33 hp (zt a j) (zt b k) (gd_t ha hj) (gd_t hb hk) (pr_b ha hj hb hk).1 (pr_b ha hj hb hk).2.1) Z Z Z (E Z (B.run Z) (E Z (B.run Z) (Et Z Z (B.move Z) (Et Z Z (B.call (w58 (trZ' (zt a j)) (gd_t ha hj).l) Z Z Z) (Et Z Z (B.call (z26 (gd_t ha hj)) Z Z Z) (Et Z Z (B.move Z) (Et Z Z (B.call (w58 (trZ' (zt b k)) (gd_t hb hk).l) Z Z Z) (Et Z Z (B.call (z26 (gd_t hb hk)) Z Z Z) (Et Z Z (B.run Z) (Et Z Z (B.neq Z Z) ?_)))))))))))))
 refine E Z (B.pkF Z Z Z Z Z) (CF Z Z (Eg Z Z (fun hc=>B.move Z) Z (Eg Z Z (fun hc=>B.move Z) Z (Eg Z Z (fun hc=>B.eql (qz Z hc) (qz Z hc)) Z (E Z (B.pick Z Z Z (gdB Z) Z (q0 _)) (Cj [(5,vI ((a:Nat):Int)),(7,vI (((a:Nat):Int)-2*((j:Nat):Int))),(9,vL eY (trZ' (zt a j))),(13,vS (bsO (txt (ipQ (zt a j) (zt b k))))),(15,vS (bsO (txt (wnQ a j b k))))] [] Z Z Z (fun h1=>?_) (fun h1=>?_) ?_))))))
 ·refine E Z (B.add Z Z bj) (C Z (w59 1 (((a:Nat):Int)+1) aa ah aa) Z Z Z (Cp Z Z (fun h2=>?_) (fun h2=>?_)))
  ·refine C Z (w60 (frq 1 (((a:Nat):Int)+1)) (fr_s ha)) Z Z Z (pk Z ?_)
   show Sub _ _ _
   first|rw[dw_1 ab ab]|rw[dw_2 ab ab]|rw[dw_3 ab]
   exact sb Z Z rfl
  refine pk Z ?_
  show Sub _ _ _
  first|rw[dw_1 ab ab]|rw[dw_2 ab ab]|rw[dw_3 ab]
  exact sb Z Z rfl
 ·refine pk Z ?_
  show Sub _ _ _
  first|rw[dw_1 ab ab]|rw[dw_2 ab ab]|rw[dw_3 ab]
  exact sb Z Z rfl
 refine E Z (B.run (val:=.pv (.agg [pS (bsO [49]),pS (bsO [48])])) (m:=[]) (rd:=[]) ae) (C Z (z22 hp a j ha hj) Z Z Z (C Z (z25 hp a j ha hj) Z Z Z (C Z (z33 hp (zu a j) (zu a j) (gd_u ha hj) (gd_u ha hj) (td_b ha hj).1 (td_b ha hj).2.1) Z Z Z (C Z (z33 hp (zt a j) (zt a j) (gd_t ha hj) (gd_t ha hj) (pr_b ha hj ha hj).1 (pr_b ha hj ha hj).2.1) Z Z Z (E Z (B.neg Z bj) (C Z (z16n hp hf a j ha hj) Z Z Z (C Z (z33 hp (zu a j) (zt a j) (gd_u ha hj) (gd_t ha hj) (td_b ha hj).2.2.1 (td_b ha hj).2.2.2.1) Z Z Z (C Z (z33 hp (zu a j) (zt a (a-j)) (gd_u ha hj) (gd_t ha aa) (td_b ha hj).2.2.2.2.1 (td_b ha hj).2.2.2.2.2) Z Z Z (E Z (B.run Z) (E Z (B.run Z) (E Z (B.run Z) (E Z (B.run Z) (E Z (B.run Z) ?_)))))))))))))
 refine E Z (B.run Z) (Et Z Z (B.move Z) (Et Z Z (B.move Z) (Et Z Z (B.move Z) (Et Z Z (B.ja (val:=.pv (.slice (List.map eQt [(ipQ (zu a j) (zt a j)),(ipQ (zu a j) (zt a (a-j))),(ipQ (zt a j) (zt a j))]))) (val0:=.aref 175 0) (m0:=[(175,.arr 0 1 33 [[pS (bsO (txt (ipQ (zu a j) (zt a j))))],[pS (bsO (txt (ipQ (zu a j) (zt a (a-j)))))],[pS (bsO (txt (ipQ (zt a j) (zt a j))))]])]) (rd:=[]) ae (fun l=>Frz.arr l _ _ _ _ _) Z) (Et Z Z (B.call (w61 [(ipQ (zu a j) (zt a j)),(ipQ (zu a j) (zt a (a-j))),(ipQ (zt a j) (zt a j))] (nB Z) (qs_3 ha hj)) Z Z Z) (Et Z Z (B.neq Z Z) (E Z (B.pkF Z Z Z Z Z) (Et Z Z (B.move Z) (Et Z Z (B.call (w62 (ipQ (zt a j) (zt a j))) Z Z Z) (E Z (B.pkF Z Z Z Z Z) (Cp Z Z (fun h3=>?_) (fun h3=>?_))))))))))))
 ·exact (ds_x ha hj h3).elim
 refine E Z (B.rem Z Z aa) (Eg Z Z (fun hc=>B.move Z) Z (Eg Z Z (fun hc=>B.call (w62 (ipQ (zu a j) (zt a j))) Z (ds1 (qz Z hc)) Z) Z (Eg Z Z (fun hc=>B.not (qz Z hc)) Z (Eg Z Z (fun hc=>B.move (qz Z hc)) Z (Eg Z Z (fun hc=>B.move Z) Z (Eg Z Z (fun hc=>B.call (w63q (ipQ (zu a j) (zt a (a-j))) (qk_len9 (qs_3 ha hj (ipQ (zu a j) (zt a (a-j))) ao))) rfl (ds1 (qz rfl hc)) rfl) rfl (Eg rfl rfl (fun hc=>B.move rfl) rfl (Eg rfl rfl (fun hc=>B.sneB (a:=(txt (abQ (ipQ (zu a j) (zt a (a-j)))))) (b:=(txt (ipQ (zt a j) (zt a j)))) (qz rfl hc) (qz rfl hc)) rfl (Eg rfl rfl (fun hc=>B.pick (qz rfl hc) rfl rfl rfl (gdB rfl) (pick_or2 hc)) rfl (E rfl (B.pick rfl rfl rfl (gdB rfl) rfl (q0 _)) (Eg rfl rfl (fun hc=>B.move rfl) rfl (Eg rfl rfl (fun hc=>B.rem (qz rfl hc) rfl aa) Z (Eg Z Z (fun hc=>B.eql (qz Z hc) Z) Z ?_)))))))))))))
 refine Eg Z Z (fun hc=>B.move (qz Z hc)) Z (Eg Z Z (fun hc=>B.move Z) Z (Eg Z Z (fun hc=>B.call (w63q (ipQ (zu a j) (zt a j)) (qk_len9 (qs_3 ha hj (ipQ (zu a j) (zt a j)) ao))) rfl (ds1 (qz rfl hc)) rfl) rfl (Eg rfl rfl (fun hc=>B.move rfl) rfl (Eg rfl rfl (fun hc=>B.sneB (a:=(txt (abQ (ipQ (zu a j) (zt a j))))) (b:=(txt (ipQ (zt a j) (zt a j)))) (qz rfl hc) (qz rfl hc)) rfl (Eg rfl rfl (fun hc=>B.pick (qz rfl hc) rfl rfl (gdB rfl) rfl (pick_and2 hc)) rfl (E rfl (B.pick rfl rfl rfl rfl (gdB rfl) (jj _)) (Cb rfl rfl (fun h4=>?_) (fun h4=>?_))))))))
 ·exact (ds_y ha hj h4).elim
 refine E Z (B.seqB (a:=(txt (ipQ (zt a j) (zt b k)))) (b:=(txt (wnQ a j b k))) Z Z) (Eg Z Z (fun hc=>B.move Z) Z (Eg Z Z (fun hc=>B.move Z) Z (Eg Z Z (fun hc=>B.seqB (a:=(txt (ipQ (zu a j) (zu a j)))) (b:=(txt (ipQ (zt a j) (zt a j)))) (qz Z hc) (qz Z hc)) Z (E Z (B.pick Z Z Z (gdB Z) Z (q0 _)) (Eg Z Z (fun hc=>B.move Z) Z (Eg Z Z (fun hc=>B.seqB (a:=(txt (egQ a j))) (b:=[49]) (qz Z hc) Z) Z (Eg Z Z (fun hc=>B.move Z) Z (Eg Z Z (fun hc=>B.geq (qz Z hc) Z) Z (Eg Z Z (fun hc=>B.bqB (qz Z hc) (qz Z hc) un4) Z (E Z (B.pick Z Z Z (gdB Z) Z (q0 _)) (Eg Z Z (fun hc=>B.move Z) Z (Eg Z Z (fun hc=>B.geq (qz Z hc) Z) Z (Eg Z Z (fun hc=>B.move (qz Z hc)) Z ?_)))))))))))))
 refine Eg Z Z (fun hc=>B.move Z) Z (Eg Z Z (fun hc=>B.seqB (a:=(txt (egQ a j))) (b:=[48]) (qz Z hc) Z) Z (Eg Z Z (fun hc=>B.pick (qz Z hc) Z Z Z (gdB Z) (pick_or2 hc)) Z (E Z (B.pick Z Z Z (gdB Z) Z (q0 _)) (Eg Z Z (fun hc=>B.call (w20 hp hf) Z Z Z) Z (E Z (B.pick Z Z Z (gdB Z) Z (q0 _)) ?_)))))
 refine Rt Z ?_
 exact q5 (val0:=vB (bif (bif (bif (bif (decide ((txt (ipQ (zt a j) (zt b k)))=(txt (wnQ a j b k)))) then (decide ((txt (ipQ (zu a j) (zu a j)))=(txt (ipQ (zt a j) (zt a j))))) else false) then ((decide ((txt (egQ a j))=[49]))==(decide (0<=(((a:Nat):Int)-2*((j:Nat):Int))))) else false) then (bif (decide (0<=(((a:Nat):Int)-2*((j:Nat):Int)))) then true else (decide ((txt (egQ a j))=[48]))) else false) then true else false)) (out0:=[]) (.inr Z) ae (by exact lb (ds_e ha hj hb hk)) rfl
end Go.Lens.Tb
end
