/- A part of the proof of PupilFieldsCardSaid, without conditions. -/
import Derived.Test.YtpfnmbpfhlllaaaGreatDoorP5
import Derived.Test.YtpfnmbpfhlllaaaGreatDoorP3
set_option linter.unusedVariables false
set_option linter.unusedSimpArgs false
set_option linter.unusedSectionVars false
set_option maxRecDepth 100000
set_option maxHeartbeats 4000000
open Int (natAbs toNat)
open Prod (fst snd)
open List (getD replicate take drop)
open Nat (gcd)
open Go.Proofs.Tryz (prog)
open Go.Lib (decDigits)
section
namespace Go.Lens.Tb
open Go.Proofs Go.Lens.Un
variable [Lz] [Dn]
attribute [local irreducible] TK PK T RG EfR Body CG
structure OkP (P:PL):Prop where
 k32:∀ k∈P.map (·.1),0<=k.1/\0<=k.2/\k.1+k.2<=32
 len:P.length<=100000
 sz:szP P<=9000000
def gQ (m:List (KI×Qn)) (k:KI):Qn:=Option.getD (kN k m) frZ
def trmG (m:List (KI×Qn)) (k:KI):Trm:=⟨txt (Qn.q (gQ m k)),k.1,k.2⟩
def polL (P:PL):Bool:=(jd P).any fun k=>jk (cf P k)
def Zp (P:PL):List Trm:=(jd P).map fun k=>⟨txt (cf P k),k.1,k.2⟩
def polT (P:PL):List Trm:=bif polL P then [] else Zp P
def polE (P:PL):Int:=bif polL P then 4 else 0
section
variable {P:PL} {m q:List (KI×Qn)} {k:KI} {j i:Nat} {o:List Trm} {x y r v:Qn} {n:Array Nat} {ax:Int}
theorem ok_32 (hm:KP P m) (hP:OkP P):∀ k∈m.map (·.1),0<=k.1/\0<=k.2/\k.1+k.2<=32:=fun k hk=>hP.k32 k (hm.mem k hk)
theorem ok_n (hm:KP P m) (hP:OkP P):m.length<=1000000:=by have:=hm.len;have:=hP.len;omega
theorem ok_z (hm:KP P m) (hP:OkP P):∀ k x,kN k m=some x->sz (Qn.q x)<=20000000:=fun k x h=>by have:=hm.szg h;have:=hP.sz;omega
theorem ok_q (hP:OkP P):(jd P).length<=561:=by
 unfold jd
 refine qd (Q7 _ _) ?_
 decide +kernel
theorem ord_len:(jd P).length<=P.length:=by
 have:=nd_len (pw_nd ordP_pw) (r:=P.map (·.1)) fun k hk=>by
  by_cases h:k∈P.map (·.1)
  ·exact h
  exact absurd (cf_no h) (kJ.1 hk).2
 simpa using this
theorem gQ_ok (hm:KP P m) (hk:k∈jd P):kN k m=some (gQ m k):=by
 unfold gQ
 cases h:kN k m with
 | some x=>rfl
 | none=>
  have:=hm.q k
  unfold cfM at this
  rw[h] at this
  exact absurd this.symm (kJ.1 hk).2
theorem gQ_q (hm:KP P m) (hk:k∈jd P):(gQ m k).q=cf P k:=hm.val (ZO (gQ_ok hm hk))
theorem gQ_s (hm:KP P m) (hk:k∈jd P):sz (gQ m k).q<=szP P:=hm.szg (gQ_ok hm hk)
theorem gQ_z (hm:KP P m) (hP:OkP P) (hk:k∈jd P):sz (gQ m k).q<=20000000:=by have:=gQ_s hm hk;have:=hP.sz;omega
theorem pp_s (h:o=List.map (trmG m) (take j (jd P))) (hj:j<(jd P).length):o++[Trm.mk (txt (Qn.q (gQ m (getD (jd P) j (0,0))))) (fst (getD (jd P) j (0,0))) (snd (getD (jd P) j (0,0)))]=List.map (trmG m) (take (j+1) (jd P)):=by rw[h,Qf hj,z8,ze,zm hj];rfl
theorem pp_l (h:∀ i,i<j->jk (Qn.q (gQ m (getD (jd P) i (0,0))))=false) (hj:jk (Qn.q (gQ m (getD (jd P) j (0,0))))=false):∀ i,i<j+1->jk (Qn.q (gQ m (getD (jd P) i (0,0))))=false:=fun i hi=>by
 grind
theorem pl_1 (hm:KP P m) (hj:j<(jd P).length) (h:jk (Qn.q (gQ m (getD (jd P) j (0,0))))=true):polL P=true:=by
 unfold polL
 rw[X9]
 exact⟨_,ki hj,by rw[<-gQ_q hm (ki hj)];exact h⟩
theorem pl_2 (hm:KP P m) (h:∀ i,i<j->jk (Qn.q (gQ m (getD (jd P) i (0,0))))=false) (hj:(jd P).length<=j):polL P=false:=by
 unfold polL
 rw[XT]
 intro k hk
 obtain⟨i,hi,rfl⟩:=Xq hk
 have:=h i aa
 grind [gQ_q]
theorem pp_1 (hm:KP P m) (_:∀ i,i<j->jk (Qn.q (gQ m (getD (jd P) i (0,0))))=false) (hj:j<(jd P).length) (h:jk (Qn.q (gQ m (getD (jd P) j (0,0))))=true):[]=polT P:=by unfold polT;rw[pl_1 hm hj h];rfl
theorem pp_2 (hm:KP P m) (_:∀ i,i<j->jk (Qn.q (gQ m (getD (jd P) i (0,0))))=false) (hj:j<(jd P).length) (h:jk (Qn.q (gQ m (getD (jd P) j (0,0))))=true):4=polE P:=by unfold polE;rw[pl_1 hm hj h];rfl
theorem pp_3 (hm:KP P m) (h0:o=List.map (trmG m) (take j (jd P))) (h:∀ i,i<j->jk (Qn.q (gQ m (getD (jd P) i (0,0))))=false) (hj:(jd P).length<=j):o=polT P:=by
 unfold polT
 rw[pl_2 hm h hj,h0,zz hj,Ww]
 exact Xs fun k hk=>by unfold trmG;rw[gQ_q hm hk]
theorem pp_4 (hm:KP P m) (h:∀ i,i<j->jk (Qn.q (gQ m (getD (jd P) i (0,0))))=false) (hj:(jd P).length<=j):0=polE P:=by unfold polE;rw[pl_2 hm h hj];rfl
def evS (m:List (KI×Qn)) (x y:Qn):List KI->Qn->Qn
 | [],r=>r
 | k::l,r=>evS m x y l (Qn.add r (Qn.mul (Qn.mul (gQ m k) (qnP x k.1.toNat)) (qnP y k.2.toNat)))
def valM (m:List (KI×Qn)) (P:PL) (x y:Qn):Qn:=evS m x y (jd P) frZ
def EvOk (P:PL) (x y:Qn):Prop:=(P.length+2)*(szP P+34*(sz x.q+sz y.q+128))<=9000000
theorem evS_app (l:List KI) (k:KI) (r:Qn):evS m x y (l++[k]) r=Qn.add (evS m x y l r) (Qn.mul (Qn.mul (gQ m k) (qnP x k.1.toNat)) (qnP y k.2.toNat)):=by
 induction l generalizing r with
 | nil=>rfl
 | cons a l ih=>exact ih _
theorem ev_s (h:r=evS m x y (take j (jd P)) frZ) (hj:j<(jd P).length):Qn.add r (Qn.mul (Qn.mul (gQ m (getD (jd P) j (0,0))) (qnP x (toNat (fst (getD (jd P) j (0,0)))))) (qnP y (toNat (snd (getD (jd P) j (0,0))))))=evS m x y (take (j+1) (jd P)) frZ:=by grind [List.take_succ_eq_append_getElem,evS_app]
theorem ev_e (h:r=evS m x y (take j (jd P)) frZ) (hj:(jd P).length<=j):r=valM m P x y:=by rw[h,zz hj];rfl
theorem w191i (x:Qn) (z:Int) (h:0<=z/\z<=32/\(z.toNat+1)*(sz x.q+64)<=20000000):CKa 119 [qV x,vI z] (qV (qnP x z.toNat)):=by
 have:=w191 x z.toNat h.2.2 aa
 grind
theorem sz_pow (q:Rat) (k:Nat):sz (q ^ k)<=k*sz q+1:=by
 induction k with
 | zero=>rw[KZ];exact qd (sz_int 1) (by rw[KU];decide)
 | succ k ih=>
  rw[KY,KR]
  have:=jv (q ^ k) q
  omega
theorem ev_b (hz:EvOk P x y):szP P+34*(sz x.q+sz y.q+128)<=4500000:=by grind [EvOk]
theorem ev_p (hz:EvOk P x y) (_:OkP P) (hk:k∈jd P):(0<=k.1/\k.1<=32/\(k.1.toNat+1)*(sz x.q+64)<=20000000)/\(0<=k.2/\k.2<=32/\(k.2.toNat+1)*(sz y.q+64)<=20000000):=by
 obtain⟨⟨h1,h2,h3⟩,_⟩:=kJ.1 hk
 have hb:=ev_b hz
 have e1:(k.1.toNat+1)*(sz x.q+64)<=33*(sz x.q+64):=Xh _ aa
 have e2:(k.2.toNat+1)*(sz y.q+64)<=33*(sz y.q+64):=Xh _ aa
 omega
theorem ev_pw (hk:k∈jd P):sz (qnP x k.1.toNat).q<=32*sz x.q+1/\sz (qnP y k.2.toNat).q<=32*sz y.q+1:=by
 obtain⟨⟨h1,h2,h3⟩,_⟩:=kJ.1 hk
 rw[qnP_q,qnP_q]
 have a1:=sz_pow x.q k.1.toNat
 have a2:=sz_pow y.q k.2.toNat
 have e1:k.1.toNat*sz x.q<=32*sz x.q:=Xh _ aa
 have e2:k.2.toNat*sz y.q<=32*sz y.q:=Xh _ aa
 omega
theorem ev_m1 (hm:KP P m) (hz:EvOk P x y) (_:OkP P) (hk:k∈jd P):sz (gQ m k).q+sz (qnP x k.1.toNat).q<=20000000:=by have:=ev_b hz;have:=gQ_s hm hk;have:=(ev_pw (x:=x) (y:=y) hk).1;omega
theorem ev_t (hm:KP P m) (hk:k∈jd P):sz (Qn.mul (gQ m k) (qnP x k.1.toNat)).q<=szP P+32*sz x.q+1:=by
 rw[Qn.mul_q]
 have:=jv (gQ m k).q (qnP x k.1.toNat).q
 have:=gQ_s hm hk;have:=(ev_pw (x:=x) (y:=x) hk).1;omega
theorem ev_m2 (hm:KP P m) (hz:EvOk P x y) (_:OkP P) (hk:k∈jd P):sz (Qn.mul (gQ m k) (qnP x k.1.toNat)).q+sz (qnP y k.2.toNat).q<=20000000:=by have:=ev_b hz;have:=ev_t (x:=x) hm hk;have:=(ev_pw (x:=x) (y:=y) hk).2;omega
theorem ev_u (hm:KP P m) (hk:k∈jd P):sz (Qn.mul (Qn.mul (gQ m k) (qnP x k.1.toNat)) (qnP y k.2.toNat)).q<=szP P+32*(sz x.q+sz y.q)+2:=by
 rw[Qn.mul_q]
 have:=jv (Qn.mul (gQ m k) (qnP x k.1.toNat)).q (qnP y k.2.toNat).q
 have:=ev_t (x:=x) hm hk;have:=(ev_pw (x:=x) (y:=y) hk).2;omega
theorem ev_sz (hm:KP P m):∀ (l:List KI) (r:Qn),(∀ k∈l,k∈jd P)->sz (evS m x y l r).q<=sz r.q+l.length*(szP P+32*(sz x.q+sz y.q)+3)
 | [],r,_=>by show sz r.q<=_;omega
 | k::l,r,h=>by
  rw[evS]
  refine qd (ev_sz hm l _ fun k hk=>h k (by simp[hk])) ?_
  obtain⟨S,hS⟩:∃ S,S=szP P+32*(sz x.q+sz y.q)+3:=⟨_,rfl⟩
  rw[<-hS,Qn.add_q,zb,KR]
  have:=sz_add r.q (Qn.mul (Qn.mul (gQ m k) (qnP x k.1.toNat)) (qnP y k.2.toNat)).q
  have:=ev_u (x:=x) (y:=y) hm (h k ao)
  omega
theorem frZ_s:sz frZ.q<=1:=by rw[show frZ.q=((0:Int):Rat) from Qn.ofZ_q _];exact qd (sz_int 0) ah
theorem ev_a (hm:KP P m) (hz:EvOk P x y) (_:OkP P) (hj:j<(jd P).length) (h:r=evS m x y (take j (jd P)) frZ):sz r.q+sz (Qn.mul (Qn.mul (gQ m (getD (jd P) j (0,0))) (qnP x (toNat (fst (getD (jd P) j (0,0)))))) (qnP y (toNat (snd (getD (jd P) j (0,0)))))).q<=20000000:=by
 have h1:=ev_sz (x:=x) (y:=y) hm (take j (jd P)) frZ fun k hk=>zu hk
 have h2:=ev_u (x:=x) (y:=y) hm (ki (z:=(0,0)) hj)
 have h3:=frZ_s
 have h4:=ord_len (P:=P)
 have h5:(take j (jd P)).length*(szP P+32*(sz x.q+sz y.q)+3)<=(P.length+2)*(szP P+34*(sz x.q+sz y.q+128)):=Ka cN aa
 grind [EvOk]
def canP (P:PL):PL:=(jd P).map fun k=>(k,cf P k)
theorem cf_map {F:KI->Rat}:∀ {l:List KI},l.Nodup->cf (l.map fun k=>(k,F k)) k=if k∈l then F k else 0
 | [],_=>by simp[cf_nil]
 | a::l,h=>by
  rw[JD] at h
  rw[zy,jI,cf_map h.2]
  grind
theorem can_eqv (hP:OkP P):Eqv (canP P) P:=fun k=>by
 unfold canP
 rw[cf_map (pw_nd ordP_pw)]
 by_cases h:k∈jd P
 ·rw[WK h]
 rw[WJ h]
 by_cases e:cf P k=0
 ·exact e.symm
 exact absurd (kJ.2 ⟨hP.k32 k (by
  by_cases hk:k∈P.map (·.1)
  ·exact hk
  exact absurd (cf_no hk) e),e⟩) h
def evP (P:PL) (a b:Rat):Rat:=lin (fun k=>a ^ k.1.toNat*b ^ k.2.toNat) P
theorem valM_q (hm:KP P m) (hP:OkP P):(valM m P x y).q=evP P x.q y.q:=by
 have key:∀ (l:List KI) (r:Qn),(∀ k∈l,k∈jd P)->(evS m x y l r).q=r.q+lin (fun k=>x.q ^ k.1.toNat*y.q ^ k.2.toNat) (l.map fun k=>(k,cf P k)):=by
  intro l
  induction l with
  | nil=>intro r _;simp[evS,lin,KW]
  | cons k l ih=>
   intro r h
   rw[evS,ih _ fun k hk=>h k (by simp[hk]),Qn.add_q,Qn.mul_q,Qn.mul_q,qnP_q,qnP_q,gQ_q hm (h k ao)]
   simp only[zy,lin]
   grind
 unfold valM evP
 rw[key _ _ fun k hk=>hk,show frZ.q=((0:Int):Rat) from Qn.ofZ_q _]
 rw[<-(can_eqv hP).lin]
 show ((0:Int):Rat)+lin _ (canP P)=_
 rw[Rat.intCast_zero,K0]
def DrOk (P:PL):Prop:=(P.length+2)*(szP P+20)<=9000000
def DrI (m:List (KI×Qn)) (ax:Int) (n:Array Nat) (q:List (KI×Qn)):Prop:=VI m n/\KP (jO ax (plM (visL m n))) q
theorem dr_0:DrI m ax #[] []:=⟨VI.nil _,KP.nil⟩
theorem der_app (A B:PL):jO ax (A++B)=jO ax A++jO ax B:=List.flatMap_append
theorem dr_1:jO ax (plM [(k,v)])=derT ax (k,v.q):=by simp[jO,plM]
theorem dr_s (hI:DrI m ax n q) (hk:m[i]? =some (k,v)) (hi:i∉n) (h:0<kax ax k) (hz:R64 (kax ax k)):DrI m ax (n.push i) (addK (kdec ax k) (Qn.mul v (Qn.ofI (kax ax k))) q):=by
 refine⟨hI.1.push hk hi,?_⟩
 rw[kF hk,plM_app,der_app,dr_1]
 unfold derT
 rw[WK h]
 have:=hI.2.add (kdec ax k) (Qn.mul v (Qn.ofI (kax ax k)))
 rw[Qn.mul_q,ofI_q hz] at this
 exact this
theorem dr_n (hI:DrI m ax n q) (hk:m[i]? =some (k,v)) (hi:i∉n) (h:¬0<kax ax k):DrI m ax (n.push i) q:=by
 refine⟨hI.1.push hk hi,?_⟩
 rw[kF hk,plM_app,der_app,dr_1]
 unfold derT
 rw[WJ h,zR]
 exact hI.2
theorem de_b2 (hm:KP P m) (hP:OkP P) (hk:m[i]? =some (k,v)):0<=k.1/\k.1<=32/\0<=k.2/\k.2<=32:=by
 have:=ok_32 hm hP k (zE.2 ⟨_,Xe hk,rfl⟩)
 omega
theorem dr_m (hm:KP P m) (hd:DrOk P) (hk:m[i]? =some (k,v)) {z:Int} (hz: -1<=z/\z<=64):sz v.q+sz (Qn.ofI z).q<=20000000:=by
 have h1:=hm.sz (Xe hk)
 have h2:=ofI_sz hz
 grind [DrOk]
theorem dr_a (hm:KP P m) (hP:OkP P) (hd:DrOk P) (hI:DrI m ax n q) (hk:m[i]? =some (k,v)) {z:Int} (hz: -1<=z/\z<=64) {K:KI}:∀ x,kN K q=some x->sz x.q+sz (Qn.mul v (Qn.ofI z)).q<=20000000:=by
 intro x hx
 have h1:=hm.sz (Xe hk)
 have h2:=ofI_sz hz
 have h3:=hI.2.szg hx
 have h4:szP (jO ax (plM (visL m n)))<=P.length*(szP P+8)+1:=by
  refine szP_le (S:=szP P+7) ?_ fun p hp=>?_
  ·have h5:∀ A:PL,(jO ax A).length<=A.length:=by
    intro A
    induction A with
    | nil=>exact zB _
    | cons a A ih=>
     show (derT ax a++jO ax A).length<=_
     grind [List.length_append,List.length_cons,derT]
   have:=h5 (plM (visL m n))
   have:=vis_len m n
   have:=hI.1.size
   have:=hm.len
   grind [plM]
  unfold jO at hp
  rw[Jf] at hp
  obtain⟨a,ha,hp⟩:=hp
  simp only[plM,zE] at ha
  obtain⟨b,hb,rfl⟩:=ha
  have hb':=vis_mem hb
  obtain⟨i',hi'⟩:=List.mem_iff_getElem?.1 hb'
  have hs:=hm.sz (k:=b.1) (x:=b.2) hb'
  have hr:=de_b2 (k:=b.1) (v:=b.2) hm hP hi'
  unfold derT at hp
  split at hp
  ·rw[zg] at hp
   subst hp
   simp only
   have hk: -1<=kax ax b.1/\kax ax b.1<=64:=by unfold kax;split<;>omega
   have:=jv b.2.q (kax ax b.1:Rat)
   have h6:=ofI_sz hk
   rw[ofI_q bg] at h6
   omega
  cases hp
 have h5:=jv v.q (Qn.ofI z).q
 rw[Qn.mul_q]
 unfold DrOk at hd
 have:(P.length+2)*(szP P+20)=P.length*(szP P+8)+P.length*12+2*(szP P+20):=by rw[Wa,show szP P+20=(szP P+8)+12 by omega,Wd P.length]
 omega
theorem dr_e (hm:KP P m) (hI:DrI m ax n q) (ha:∀ i,i<m.length->i∈n):KP (jO ax P) q:=by
 have hp:=plM_perm (hI.1.all ha)
 refine hI.2.congr (Eqv.der ax ((Eqv.perm hp).trans hm.eqv)) fun k hk=>?_
 have hkeys:∀ (A:PL) (k:KI),k∈(jO ax A).map (·.1)↔∃ a∈A.map (·.1),0<kax ax a/\k=kdec ax a:=by
  intro A k
  simp only[jO,zE,Jf]
  constructor
  ·grind [derT,List.mem_singleton]
  rintro⟨_,⟨a,ha,rfl⟩,h,rfl⟩
  exact⟨_,⟨a,ha,by unfold derT;rw[WK h];exact zg.2 rfl⟩,rfl⟩
 rw[hkeys] at hk ⊢
 obtain⟨a,h1,h2,h3⟩:=hk
 exact⟨a,hm.keysP a ((hp.map (·.1)).mem_iff.1 h1),h2,h3⟩
end
theorem by74:ty74.info.bytes=32:=ae
theorem in74:tab.info? 74=some ty74.info:=ae
theorem w104' (hp:qJ) (m:List (KI×Qn)) (P:PL) (hm:KP P m) (hP:OkP P):qA prog 56 [.mref 1] (qr [(1,(kO eP m))]) (.tup [vL eY (polT P),vI (polE P)]) [(1,(kO eP m))]:=by
 refine cL 10 [(1,(kO eP m))] qf56 Z (nB Z) Z Z (kc (E Z (B.nilS (enc:=eY) Z) (E Z (B.adopt 14 3 74 Z Z) (E Z (B.jx (w180 m P 1 hm (ok_32 hm hP) (ok_n hm hP) (ok_z hm hP)) Z Z ⟨rfl,trivial⟩ rfl rfl) (E Z (B.ju Z un179) (l2 (fun (k:Nat) (o:List Trm)=>[(0,.mref 1),(4,.aref 14 k),(8,vL eK (jd P)),(9,vI (((jd P).length:Nat):Int)),(10,vI (k:Int))]) (fun k o=>[(1,(kO eP m)),(14,.arr k 3 74 (List.map eY o))]) (fun k o=>k<=(jd P).length/\o=List.map (trmG m) (take k (jd P))/\∀ j,j<k->jk (Qn.q (gQ m (getD (jd P) j (0,0))))=false) (fun k _=>(jd P).length-k) 0 [] Z ?_ (sb Z Z Z) ?_))))))
 · exact⟨zt _,rfl,fun j hj=>aa⟩
 intro k o hI0
 have hq:=ok_q (P:=P) hP
 have hol:o.length=k:=by grind
 refine Cp Z Z (fun h1=>?_) (fun h1=>?_)
 ·refine E Z (B.idx (z:=(0,0)) Z Z un179 sz112 (fun _=>rfl) Z cg) (E Z (B.getK0 kty Z Z Z in99 Z zP_ok (gQ_ok hm (ki aa))) (C Z (w181 hp (gQ m (getD (jd P) k (0,0))) (gQ_z hm hP (ki aa))) Z Z Z (Cb Z Z (fun h2=>?_) (fun h2=>?_))))
  ·exact E Z (B.nilS (enc:=eY) Z) (Rt Z (lL Z cP))
  refine E Z (B.getK0 kty Z Z Z in99 Z zP_ok (gQ_ok hm (ki aa))) (C Z (w162 hp (gQ m (getD (jd P) k (0,0))) (gQ_z hm hP (ki aa))) Z Z Z (E Z (B.run Z) (E Z (B.run Z) (E Z (B.run (val:=.pv (.agg [pS (bsO (txt (Qn.q (gQ m (getD (jd P) k (0,0)))))),pI (fst (getD (jd P) k (0,0))),pI (snd (getD (jd P) k (0,0)))])) (m:=[]) (rd:=[]) ae) (E Z (B.runZ (val:=.pv (.slice (List.map eY [(Trm.mk (txt (Qn.q (gQ m (getD (jd P) k (0,0))))) (fst (getD (jd P) k (0,0))) (snd (getD (jd P) k (0,0))))]))) (m0:=[(38,.arr 0 3 74 [[pS (bsO (Trm.c (Trm.mk (txt (Qn.q (gQ m (getD (jd P) k (0,0))))) (fst (getD (jd P) k (0,0))) (snd (getD (jd P) k (0,0)))))),pI (Trm.i (Trm.mk (txt (Qn.q (gQ m (getD (jd P) k (0,0))))) (fst (getD (jd P) k (0,0))) (snd (getD (jd P) k (0,0))))),pI (Trm.j (Trm.mk (txt (Qn.q (gQ m (getD (jd P) k (0,0))))) (fst (getD (jd P) k (0,0))) (snd (getD (jd P) k (0,0)))))]])]) (rd:=[]) ae (fun l=>Frz.arr l _ _ _ _ _) Z) (E Z (B.append Z Z Z un32 in74 Z (fun _=>rfl) by74 cg) (Dr Z ae (E Z (B.add Z Z bg) (pk Z (L2 (k+1) (o++[(Trm.mk (txt (Qn.q (gQ m (getD (jd P) k (0,0))))) (fst (getD (jd P) k (0,0))) (snd (getD (jd P) k (0,0))))]) ?_ ?_ (sb Z Z Z)))))))))))
  · exact⟨aa,pp_s hI0.2.1 aa,pp_l hI0.2.2 ab⟩
  · omega
 exact Fz 9 4 Z Z Z (Rt Z (lL Z cP))
theorem w104 (hp:qJ) (m:List (KI×Qn)) (P:PL) (a:Nat) (hm:KP P m) (hP:OkP P):qA prog 56 [.mref a] (qr [(a,(kO eP m))]) (.tup [vL eY (polT P),vI (polE P)]) [(a,(kO eP m))]:=by simpa [renM,DV.renL,DV.ren,MO.ren,r1_1] using (w104' hp m P hm hP).r1 1 a
theorem w115' (m:List (KI×Qn)) (P:PL) (x y:Qn) (hm:KP P m) (hP:OkP P) (hz:EvOk P x y):qA prog 52 [.mref 1,rV x y] (qr [(1,(kO eP m))]) (qV (valM m P x y)) [(1,(kO eP m))]:=by
 refine cL 10 [(1,(kO eP m))] qf52 Z (nB Z) Z Z (kc (E Z (B.bZ Z Z) (C Z (w100 0 bg) Z Z Z (E Z (B.bZ Z Z) (E Z (B.jx (w180 m P 1 hm (ok_32 hm hP) (ok_n hm hP) (ok_z hm hP)) Z Z ⟨rfl,trivial⟩ rfl rfl) (E Z (B.ju Z un179) (l2 (fun (k:Nat) (r:Qn)=>[(0,.mref 1),(3,.bref 13 0),(4,.bref 14 0),(5,.bref 15 0),(10,vL eK (jd P)),(11,vI (((jd P).length:Nat):Int)),(12,vI (k:Int))]) (fun _ r=>[(1,(kO eP m)),(13,.box 106 (gF2 x y)),(14,.box 99 [vI 0,.pv (nilP),vI 0,.pv (nilP)]),(15,.box 99 (gF r))]) (fun k r=>k<=(jd P).length/\r=evS m x y (take k (jd P)) frZ) (fun k _=>(jd P).length-k) 0 frZ Z ?_ (sb Z Z Z) ?_)))))))
 · exact⟨zt _,rfl⟩
 intro k r hI0
 have hq:=ok_q (P:=P) hP
 refine Cp Z Z (fun h1=>?_) (fun h1=>?_)
 ·refine E Z (B.idx (z:=(0,0)) Z Z un179 sz112 (fun _=>rfl) Z aa) (E Z (B.getK0 kty Z Z Z in99 Z zP_ok (gQ_ok hm (ki aa))) (E Z (B.run Z) (C Z (w191i x (fst (getD (jd P) k (0,0))) (ev_p hz hP (ki aa)).1) Z Z Z (C Z (w126 (gQ m (getD (jd P) k (0,0))) (qnP x (toNat (fst (getD (jd P) k (0,0))))) (ev_m1 hm hz hP (ki aa))) Z Z Z (E Z (B.run Z) (C Z (w191i y (snd (getD (jd P) k (0,0))) (ev_p hz hP (ki aa)).2) Z Z Z (C Z (w126 (Qn.mul (gQ m (getD (jd P) k (0,0))) (qnP x (toNat (fst (getD (jd P) k (0,0)))))) (qnP y (toNat (snd (getD (jd P) k (0,0))))) (ev_m2 hm hz hP (ki aa))) Z Z Z (C Z (w125 r (Qn.mul (Qn.mul (gQ m (getD (jd P) k (0,0))) (qnP x (toNat (fst (getD (jd P) k (0,0)))))) (qnP y (toNat (snd (getD (jd P) k (0,0)))))) (ev_a hm hz hP aa hI0.2)) Z Z Z (Dr Z ae (E Z (B.add Z Z bg) (pk Z (L2 (k+1) (Qn.add r (Qn.mul (Qn.mul (gQ m (getD (jd P) k (0,0))) (qnP x (toNat (fst (getD (jd P) k (0,0)))))) (qnP y (toNat (snd (getD (jd P) k (0,0))))))) ?_ ?_ (sb Z Z Z)))))))))))))
  · exact⟨aa,ev_s hI0.2 aa⟩
  · omega
 exact Rt Z (lL Z (by rw[ev_e hI0.2 aa]))
theorem w115 (m:List (KI×Qn)) (P:PL) (x y:Qn) (a:Nat) (hm:KP P m) (hP:OkP P) (hz:EvOk P x y):qA prog 52 [.mref a,rV x y] (qr [(a,(kO eP m))]) (qV (valM m P x y)) [(a,(kO eP m))]:=by simpa [renM,DV.renL,DV.ren,MO.ren,r1_1] using (w115' m P x y hm hP hz).r1 1 a
theorem w117_0' (m:List (KI×Qn)) (P:PL) (hm:KP P m) (hP:OkP P) (hd:DrOk P):qA prog 55 [.mref 1,vI 0] (qr [(1,(kO eP m))]) (.mref 20) [(1,(kO eP m)),(20,kR (jO (0:Int) P))]:=by
 refine cL 10 [(1,(kO eP m))] qf55 Z (nB Z) Z Z (kc (E Z (B.newK (enc:=eP) Z Z) (E Z (B.rangeK kty Z Z Z Z) (l2 (fun (n:Array Nat) (q:List (KI×Qn))=>[(0,.mref 1),(1,vI 0),(5,.mref 20),(6,.clos (.func 58) [.mref 20] []),(14,.bref 24 0)]) (fun n q=>[(1,(kO eP m)),(20,(kO eP q)),(24,.miter 1 (m.length) n)]) (fun n q=>DrI m (0:Int) n q) (fun n _=>m.length-Array.size n) (#[]) [] Z ?_ (sb Z Z Z) ?_))))
 · exact dr_0
 intro n q hI0
 refine tk 4 Z ?_
 refine TK.nextK (Y:=tab) Z Z Z Z Z (fun i1 k1 v1 hk1 hi1=>?_) (fun hall1=>?_)
 ·refine rc (CT Z Z (E Z (B.entryK Z Z Z hk1) (E Z (B.bZ Z Z) (E Z (B.run Z) (Cp Z Z (fun h1=>?_) (fun h1=>?_))))))
  ·refine E Z (B.run Z) (E Z (B.sub Z Z cQ) (E Z (B.run Z) (C Z (w100i (fst k1) cR) Z Z Z (C Z (w126 v1 (Qn.ofI (fst k1)) (dr_m hm hd hk1 cR)) Z Z Z (E Z (B.jx (w119 q (((fst k1)-1),(snd k1)) (Qn.mul v1 (Qn.ofI (fst k1))) 20 (dr_a hm hP hd hI0 hk1 cR)) Z Z ⟨rfl,trivial⟩ rfl rfl) (Dr Z ae (pk Z (L2 (Array.push n i1) (addK (((fst k1)-1),(snd k1)) (Qn.mul v1 (Qn.ofI (fst k1))) q) ?_ ?_ (sb Z Z Z)))))))))
   · (first|exact dr_s hI0 hk1 hi1 (show 0<kax (0:Int) k1 from (by assumption:0<fst k1)) cS|exact dr_n hI0 hk1 hi1 (show ¬0<kax (0:Int) k1 from (by assumption:¬0<fst k1)))
   · exact hI0.1.meas hk1 hi1
  refine pk Z (L2 (Array.push n i1) q ?_ ?_ (sb Z Z Z))
  · (first|exact dr_s hI0 hk1 hi1 (show 0<kax (0:Int) k1 from (by assumption:0<fst k1)) cS|exact dr_n hI0 hk1 hi1 (show ¬0<kax (0:Int) k1 from (by assumption:¬0<fst k1)))
  · exact hI0.1.meas hk1 hi1
 refine rc (CF Z Z ?_)
 refine tk 10 Z ?_
 refine TK.shutK (h:=20) (R':=fun kv=>∃ m,KP (jO (0:Int) P) m/\kv=kvO eP m) Z (fun kv e=>⟨_,dr_e hm hI0 hall1,e⟩) ?_
 exact kc (Rt Z (lL Z Z))
theorem w117_1' (m:List (KI×Qn)) (P:PL) (hm:KP P m) (hP:OkP P) (hd:DrOk P):qA prog 55 [.mref 1,vI 1] (qr [(1,(kO eP m))]) (.mref 20) [(1,(kO eP m)),(20,kR (jO (1:Int) P))]:=by
 refine cL 10 [(1,(kO eP m))] qf55 Z (nB Z) Z Z (kc (E Z (B.newK (enc:=eP) Z Z) (E Z (B.rangeK kty Z Z Z Z) (l2 (fun (n:Array Nat) (q:List (KI×Qn))=>[(0,.mref 1),(1,vI 1),(5,.mref 20),(6,.clos (.func 58) [.mref 20] []),(14,.bref 24 0)]) (fun n q=>[(1,(kO eP m)),(20,(kO eP q)),(24,.miter 1 (m.length) n)]) (fun n q=>DrI m (1:Int) n q) (fun n _=>m.length-Array.size n) (#[]) [] Z ?_ (sb Z Z Z) ?_))))
 · exact dr_0
 intro n q hI0
 refine tk 4 Z ?_
 refine TK.nextK (Y:=tab) Z Z Z Z Z (fun i1 k1 v1 hk1 hi1=>?_) (fun hall1=>?_)
 ·refine rc (CT Z Z (E Z (B.entryK Z Z Z hk1) (E Z (B.bZ Z Z) (E Z (B.run Z) (Cp Z Z (fun h1=>?_) (fun h1=>?_))))))
  ·refine E Z (B.run Z) (E Z (B.sub Z Z cQ) (E Z (B.run Z) (C Z (w100i (snd k1) cR) Z Z Z (C Z (w126 v1 (Qn.ofI (snd k1)) (dr_m hm hd hk1 cR)) Z Z Z (E Z (B.jx (w119 q ((fst k1),((snd k1)-1)) (Qn.mul v1 (Qn.ofI (snd k1))) 20 (dr_a hm hP hd hI0 hk1 cR)) Z Z ⟨rfl,trivial⟩ rfl rfl) (Dr Z ae (pk Z (L2 (Array.push n i1) (addK ((fst k1),((snd k1)-1)) (Qn.mul v1 (Qn.ofI (snd k1))) q) ?_ ?_ (sb Z Z Z)))))))))
   · (first|exact dr_s hI0 hk1 hi1 (show 0<kax (1:Int) k1 from (by assumption:0<snd k1)) cT|exact dr_n hI0 hk1 hi1 (show ¬0<kax (1:Int) k1 from (by assumption:¬0<snd k1)))
   · exact hI0.1.meas hk1 hi1
  refine pk Z (L2 (Array.push n i1) q ?_ ?_ (sb Z Z Z))
  · (first|exact dr_s hI0 hk1 hi1 (show 0<kax (1:Int) k1 from (by assumption:0<snd k1)) cT|exact dr_n hI0 hk1 hi1 (show ¬0<kax (1:Int) k1 from (by assumption:¬0<snd k1)))
  · exact hI0.1.meas hk1 hi1
 refine rc (CF Z Z ?_)
 refine tk 10 Z ?_
 refine TK.shutK (h:=20) (R':=fun kv=>∃ m,KP (jO (1:Int) P) m/\kv=kvO eP m) Z (fun kv e=>⟨_,dr_e hm hI0 hall1,e⟩) ?_
 exact kc (Rt Z (lL Z Z))
theorem w117 (ax:Int) (m:List (KI×Qn)) (P:PL) (a b:Nat) (hab:a≠b) (ha:ax=0\/ax=1) (hm:KP P m) (hP:OkP P) (hd:DrOk P):qA prog 55 [.mref a,vI ax] (qr [(a,(kO eP m))]) (.mref b) [(a,(kO eP m)),(b,kR (jO ax P))]:=by
 rcases ha with rfl|rfl
 ·simpa [renM,DV.renL,DV.ren,MO.ren,r2_1 (show 1≠20 by decide) hab,r2_2] using (w117_0' m P hm hP hd).r2 1 20 a b
 simpa [renM,DV.renL,DV.ren,MO.ren,r2_1 (show 1≠20 by decide) hab,r2_2] using (w117_1' m P hm hP hd).r2 1 20 a b
end Go.Lens.Tb
end
section
namespace Go.Lens
variable [Lz]
section
variable {P:Program} {f:FuncId} {ds:List DV} {val:DV} {out out':Na}
def WkL:Na->Na->Prop
 | [],[]=>True
 | p::l,q::l'=>(p.1=q.1/\p.2.refs=q.2.refs/\∀ G w,qW G w p.1 p.2->qW G w p.1 q.2)/\WkL l l'
 | _,_=>False
theorem WkL.keys:∀ {l l':Na},WkL l l'->l.map (·.1)=l'.map (·.1)
 | [],[],_=>rfl
 | p::l,q::l',h=>by rw[zy,zy,h.1.1,WkL.keys h.2]
theorem WkL.mem:∀ {l l':Na},WkL l l'->∀ {k o},(k,o)∈l'->∃ o0,(k,o0)∈l/\o0.refs=o.refs/\∀ G w,qW G w k o0->qW G w k o
 | [],[],_,_,_,hk=>by cases hk
 | [],q::l',h,_,_,_=>False.elim h
 | p::l,q::l',h,k,o,hk=>by
  rcases zF.1 hk with e|hk
  ·obtain⟨⟨a,b,c⟩,_⟩:=h
   obtain⟨p1,p2⟩:=p
   grind
  obtain⟨o0,h1,h2⟩:=WkL.mem h.2 hk
  exact⟨o0,zN _ h1,h2⟩
theorem Stepped.wk {G:Gh} {w:World} {look:Nat->Option MO} {G':Gh} {w':World} {r:Value} (h:WkL out out') (S:Stepped G w look val out G' w' r):Stepped G w look val out' G' w' r:=by
 have hn:∀ k,k∈out'.map (·.1)↔k∈out.map (·.1):=fun k=>by rw[h.keys]
 refine⟨S.later,S.hval,fun k o hk=>?_,S.keeps,fun k hk=>S.old k (fun e=>hk ((hn k).2 e)),S.fresh,fun b k hk=>(S.own b k hk).imp (fun e=>(hn k).2 e) id,fun k hk=>(S.refs k hk).imp (fun e=>(hn k).2 e) id,fun k o hk j hj=>?_,S.newb,S.r0,S.r0m⟩
 ·obtain⟨o0,h1,_,h3⟩:=h.mem hk
  exact h3 _ _ (S.hms k o0 h1)
 obtain⟨o0,h1,h2,_⟩:=h.mem hk
 exact (S.refsM k o0 h1 j (by rw[h2];exact hj)).imp (fun e=>(hn j).2 e) id
theorem qA.wk {look:Nat->Option MO} (H:qA P f ds look val out) (h:WkL out out'):qA P f ds look val out':=
 ⟨H.refs,fun G w vs M hv=>(H.call G w vs M hv).mono fun _ _ ⟨G',S⟩=>⟨G',S.wk h⟩⟩
theorem wkK {k:Nat} {R R':List (PV×PV)->Prop} (h:∀ kv,R kv->R' kv) {l l':Na} (hl:WkL l l'):WkL ((k,.kmap R)::l) ((k,.kmap R')::l'):=
 ⟨⟨rfl,rfl,fun G w H=>by
  simp only[qW] at H ⊢
  obtain⟨h1,es,kv,h2,h3⟩:=H
  exact⟨h1,es,kv,h kv h2,h3⟩⟩,hl⟩
theorem wkI {p:Nat×MO} {l l':Na} (hl:WkL l l'):WkL (p::l) (p::l'):=⟨⟨rfl,rfl,fun _ _ H=>H⟩,hl⟩
theorem wk0:WkL [] []:=trivial
theorem qA.fam {l:Na} {ι:Type} {h:Nat} {o:MO} {o':ι->MO} {p:ι->Prop} (hm:qr l h=some o) (hr0:∀ i,(o' i).refs=[]) (hr:∀ k∈DV.qL ds,∃ o,qr l k=some o)
  (ho:∀ (G:Gh) (w:World),qW G w h o->∃ i,p i/\qW G w h (o' i)) (k:∀ i,p i->qA P f ds (qr ((h,o' i)::l)) val out):qA P f ds (qr l) val out:=by
 have hd:∀ i k,(∃ o,qr l k=some o)↔∃ o,qr ((h,o' i)::l) k=some o:=by
  intro i k
  rw[qy]
  grind
 refine⟨hr,fun G w vs M hv=>?_⟩
 obtain⟨i,hp,H⟩:=ho G w (M.ms h o hm)
 have M':ZZ G (qr ((h,o' i)::l)) w:=by
  refine⟨fun j u e=>?_,M.fresh,fun b j e=>(hd i j).1 (M.own b j e),fun j u x e hx=>?_,M.r0,M.r0m,M.baseLe,M.laid⟩
  ·rw[qy] at e
   split at e
   ·grind
   exact M.ms j u e
  rw[qy] at e
  split at e
  ·grind
  exact (hd i x).1 (M.refsM j u x e hx)
 refine ((k i hp).call G w vs M' hv).mono fun r w' ⟨G',S⟩=>⟨G',S.later,S.hval,S.hms,fun j u e=>?_,S.old,S.fresh,S.own,fun j hj=>(S.refs j hj).imp id (hd i j).2,fun a u ha j hj=>(S.refsM a u ha j hj).imp id (hd i j).2,S.newb,S.r0,S.r0m⟩
 obtain⟨u',e'⟩:=(hd i j).1 ⟨u,e⟩
 exact S.keeps j u' e'
theorem qA.famK {l:Na} {h:Nat} {R:List (PV×PV)->Prop} (hm:qr l h=some (.kmap R)) (hr:∀ k∈DV.qL ds,∃ o,qr l k=some o)
  (k:∀ kv,R kv->qA P f ds (qr ((h,.kmap (fun x=>x=kv))::l)) val out):qA P f ds (qr l) val out:=
 qA.fam (o':=fun kv=>.kmap (fun x=>x=kv)) hm (fun _=>rfl) hr (fun G w H=>by
  simp only[qW] at H ⊢
  obtain⟨h1,es,kv,h2,h3⟩:=H
  exact⟨kv,h2,h1,es,kv,rfl,h3⟩) k
theorem qA.lk {l l':Nat->Option MO} (e:∀ h,l h=l' h) (H:qA P f ds l val out):qA P f ds l' val out:=by
 have:l=l':=funext e
 rw[<-this];exact H
end
section
variable [Fc] {P:Program} {Y:Tab} [qH P Y] {nb n:Nat} {Q:Exit->St->Prop} {K:List Fr} {ops:Array Oper} {B:List Oper}
theorem textRa (r:Option Nat) {l2:List Nat}:∀ {os:List Oper} {l:List Nat} {s:St} {es:List Ef},efsR P Y nb ops os s es->l.map (fun i=>ops[i]?)=os.map some->os.all (fun o=>dstOk n o.dst)=true->
  ∀ {G:Gh} {a:Act} {w:World} {Q:Exit->Act->World->Prop},Inv G s.vw a w->a.tmps.size=n->
  (∀ G' a' w',Inv G' (es.foldl stp s).vw a' w'->Since nb (qr s.ms) G w (qr (es.foldl stp s).ms) G' w'->a'.tmps.size=n->a'.defers=a.defers->wpOpsIn (fcR r) 0 P ops Q l2 a' w')->wpOpsIn (fcR r) 0 P ops Q (l++l2) a w
 | [],l,s,es,h,hl,_,G,a,w,Q,I,hn,hK=>by
  have:l=[]:=by cases l with|nil=>rfl|cons i l=>simp at hl
  subst this
  simp only[efsR] at h
  subst h
  exact hK G a w I (Since.refl _ _ _ _) hn rfl
 | o::os,l,s,es,h,hl,hda,G,a,w,Q,I,hn,hK=>by
  obtain⟨e,es',rfl,he,hes⟩:=h
  cases l with
  | nil=>simp at hl
  | cons i l=>
  simp only[zy,Jz] at hl
  obtain⟨hi,hl⟩:=hl
  simp only[Kh,zj] at hda
  have pd:∀ v,(a.put o.dst v).defers=a.defers:=fun v=>by cases hd:o.dst<;>rfl
  simp only[zQ,wpOpsIn,hi]
  have key:=EfR.sound (P:=P) (π:=s) he hda.1 (fun _ _=>rfl) (fun _ _=>rfl) I hn (Q:=Q) (next:=wpOpsIn (fcR r) 0 P ops Q (l++l2)) ?_
  ·split
   ·grind
   rename_i hw;rw[WJ hw] at key;exact⟨fun _ _=>trivial,key⟩
  intro G1 r w1 I1 Sn1
  rw[<-he.dst] at I1 Sn1
  refine textRa _ hes hl hda.2 (G:=G1) aQ aP ?_
  intro G2 a2 w2 I2 Sn2 hn2 hd2
  exact hK G2 a2 w2 I2 (Sn1.trans Sn2) hn2 (hd2.trans (pd r))
def Cut (P:Program) (Y:Tab) (nb n:Nat) (Q:Exit->St->Prop) (K:List Fr) (ops:Array Oper) (B:List Oper) (h:Nat) (s:St):Prop:=
 ∃ R,qr s.ms h=some (.kmap R)/\∀ kv,R kv->RG P Y nb ops false B ⟨s.tm,(h,.kmap (fun x=>x=kv))::s.ms⟩ [] (PK P n nb Q K .normal)
theorem Cut.mk {h:Nat} {tm:List (Nat×DV)} {ms:Na} {R:List (PV×PV)->Prop} (e:qr ms h=some (.kmap R)) (k:∀ kv,R kv->RG P Y nb ops false B ⟨tm,(h,.kmap (fun x=>x=kv))::ms⟩ [] (PK P n nb Q K .normal)):Cut P Y nb n Q K ops B h ⟨tm,ms⟩:=
 ⟨R,e,k⟩
theorem TK.cutK {id:Nat} {tm:List (Nat×DV)} {ms:Na} (i h:Nat) (hda:jh n (.region id ops false)=true)
  (hA:RG P Y nb ops false (ops.toList.take i) ⟨tm,ms⟩ [] (PK P n nb Q (.lp (Cut P Y nb n Q K ops (ops.toList.drop i) h)::K) .normal)):TK P n nb Q (.region id ops false) K ⟨tm,ms⟩:=by
 obtain⟨es,hes,_,hq⟩:=hA
 obtain⟨R,hm,k⟩:Cut P Y nb n Q K ops (ops.toList.drop i) h (es.foldl stp ⟨tm,ms⟩):=by
  have:=hq
  simpa only[PK] using this
 intro G a w R0 I hn hK
 simp only[jh,zj] at hda
 have hsp:ops.toList.map some=(ops.toList.take i).map some++(ops.toList.drop i).map some:=by rw[<-z8,Q8]
 have hidx:(List.range ops.size).map (fun i=>ops[i]?)=ops.toList.map some:=by
  apply XU
  grind
 obtain⟨l1,l2,hl,hl1,hl2⟩:∃ l1 l2,List.range ops.size=l1++l2/\l1.map (fun i=>ops[i]?)=(ops.toList.take i).map some/\l2.map (fun i=>ops[i]?)=(ops.toList.drop i).map some:=
  ⟨(List.range ops.size).take i,(List.range ops.size).drop i,(Q8 _ _).symm,by rw[Ki,hidx,Ki],by rw[List.map_drop,hidx,List.map_drop]⟩
 have hds:=hda.1
 rw[<-List.take_append_drop i ops.toList,List.all_append,zj] at hds
 refine wpIn_region ?_
 rw[hl]
 refine textRa (P:=P) _ hes hl1 hds.1 I hn ?_
 intro G1 a1 w1 I1 Sn1 hn1 hd1
 obtain⟨kv,hkv,H⟩:∃ kv,R kv/\qW G1 w1 h (.kmap (fun x=>x=kv)):=by
  have:=I1.ms h _ hm
  grind [qW]
 obtain⟨es2,hes2,_,hq2⟩:=k kv hkv
 generalize es.foldl stp ⟨tm,ms⟩=s1 at*
 obtain⟨tm1,ms1⟩:=s1
 have S:=q8 (m:=.kmap (fun x=>x=kv)) (val:=.dead) (r:=undef) I1.ctxS (B:=G1.ρ h) hm aU (w':=w1) Z Z Z Z (fun _ _=>rfl) aB c6 ak am
 rw[Gh.qT] at S
 obtain⟨I2,Sn2⟩:=I1.eff (s:=⟨tm1,ms1⟩) (K:=nb) S none ao
 refine textR (P:=P) _ hes2 hl2 hds.2 (G:=G1) I2 hn1 ?_
 intro G' a' w' I' Sn' hn' hd'
 exact hK _ _ _ _ _ hq2 I' ((Sn1.trans Sn2).trans Sn') hn' (Mks.of (hd'.trans hd1))
end
end Go.Lens
end
section
namespace Go.Lens.Tb
open Go.Proofs Go.Lens.Un
variable [Lz] [Dn]
attribute [local irreducible] TK PK T RG EfR Body CG
theorem qA.k1 {f:FuncId} {ds:List DV} {val:DV} {out:Na} {x:Nat} {P:PL} (hr:∀ k∈DV.qL ds,k=x) (H:∀ m,KP P m->qA prog f ds (qr [(x,kO eP m)]) val out):qA prog f ds (qr [(x,kR P)]) val out:=by
 refine qA.famK (h:=x) (by simp[qy];rfl) (fun k hk=>⟨kR P,by rw[hr k hk];simp[qy]⟩) ?_
 rintro kv ⟨m,hm,rfl⟩
 refine (H m hm).lk fun h=>?_
 by_cases e:x=h<;>simp[qy,e]
theorem qA.k2 {f:FuncId} {ds:List DV} {val:DV} {out:Na} {x y:Nat} {P R:PL} (hxy:x≠y) (hr:∀ k∈DV.qL ds,k=x\/k=y) (H:∀ m o,KP P m->KP R o->qA prog f ds (qr [(x,kO eP m),(y,kO eP o)]) val out):qA prog f ds (qr [(x,kR P),(y,kR R)]) val out:=by
 have hl:∀ k,(k=x\/k=y)->∃ o,qr [(x,kR P),(y,kR R)] k=some o:=by
  rintro k (rfl|rfl)
  ·exact⟨kR P,by simp[qy]⟩
  exact⟨kR R,by simp[qy,hxy]⟩
 refine qA.famK (h:=x) (by simp[qy];rfl) (fun k hk=>hl k (hr k hk)) ?_
 rintro kv ⟨m,hm,rfl⟩
 refine qA.famK (h:=y) (by simp[qy,hxy];rfl) (fun k hk=>?_) ?_
 ·obtain⟨o,ho⟩:=hl k (hr k hk)
  by_cases e:x=k
  ·exact⟨_,by rw[qy,WK e]⟩
  exact⟨o,by rw[qy,WJ e];exact ho⟩
 rintro kv ⟨o,ho,rfl⟩
 refine (H m o hm ho).lk fun h=>?_
 by_cases e:x=h
 ·subst e;simp[qy,hxy,WG hxy]
 by_cases e2:y=h<;>simp[qy,e,e2]
theorem w114a (f:List Trm) (a:Nat) (hl:f.length<=1000000) (hc:qZ f=0):qA prog 51 [vL eY f] (qr []) (.mref a) [(a,kO eP (sumM f))]:=by simpa [renM,DV.renL,DV.ren,MO.ren,r1_1] using (w114' f hl fun t ht=>(po_t hc ht).1).r1 7 a
theorem w114k (f:List Trm) (a:Nat) (hl:f.length<=1000000) (hc:qZ f=0):qA prog 51 [vL eY f] (qr []) (.mref a) [(a,kR (plF f))]:=
 (w114a f a hl hc).wk (wkK (fun _ h=>⟨_,kp_sum hc,h⟩) wk0)
theorem w104k (hp:qJ) (P:PL) (a:Nat) (hP:OkP P):qA prog 56 [.mref a] (qr [(a,kR P)]) (.tup [vL eY (polT P),vI (polE P)]) [(a,kR P)]:=
 qA.k1 cU fun m hm=>(w104 hp m P a hm hP).wk (wkK (fun _ h=>⟨_,hm,h⟩) wk0)
theorem w117k (ax:Int) (P:PL) (a b:Nat) (hab:a≠b) (ha:ax=0\/ax=1) (hP:OkP P) (hd:DrOk P):qA prog 55 [.mref a,vI ax] (qr [(a,kR P)]) (.mref b) [(a,kR P),(b,kR (jO ax P))]:=
 qA.k1 cU fun m hm=>(w117 ax m P a b hab ha hm hP hd).wk (wkK (fun _ h=>⟨_,hm,h⟩) (wkI wk0))
theorem w102k (P R:PL) (b:Qn) (x y z:Nat) (hxy:x≠y) (hxz:x≠z) (hyz:y≠z) (hz:szP P+(R.length+1)*(szP R+sz (Qn.q b)+2)<=10000000):qA prog 76 [.mref x,.mref y,.pv (eP b)] (qr [(x,kR P),(y,kR R)]) (.mref z) [(y,kR R),(x,kR P),(z,kR (P++scl (Qn.q b) R))]:=
 qA.k2 hxy cU fun m o hm ho=>(w102 m o P R b x y z hxy hxz hyz hm ho hz).wk (wkK (fun _ h=>⟨_,ho,h⟩) (wkK (fun _ h=>⟨_,hm,h⟩) (wkI wk0)))
theorem w101k (P R:PL) (x y z:Nat) (hxy:x≠y) (hxz:x≠z) (hyz:y≠z) (hP:KB P) (hR:KB R) (hz:(P.length*R.length+2)*(szP P+szP R+2)<=10000000):qA prog 70 [.mref x,.mref y] (qr [(x,kR P),(y,kR R)]) (.mref z) [(y,kR R),(x,kR P),(z,kR (qS P R))]:=
 qA.k2 hxy cU fun m o hm ho=>(w101 m o P R x y z hxy hxz hyz hm ho hP hR hz).wk (wkK (fun _ h=>⟨_,ho,h⟩) (wkK (fun _ h=>⟨_,hm,h⟩) (wkI wk0)))
def erL {α:Type} (e:Int) (l:List α):List α:=if e≠0 then [] else l
def erE (e d:Int):Int:=if e≠0 then e else d
section
variable {α:Type} {e d:Int} {l:List α} {f g:List Trm} {x y:Nb}
theorem er_1 (h:e≠0):[]=erL e l:=by unfold erL;rw[WK h]
theorem er_2 (h:e≠0):e=erE e d:=by unfold erE;rw[WK h]
theorem er_3 (h:¬e≠0):l=erL e l:=by unfold erL;rw[WJ h]
theorem er_4 (h:¬e≠0):d=erE e d:=by unfold erE;rw[WJ h]
theorem va_0 (h:¬qK [qZ f,jr x,jr y]≠0):qZ f=0/\jr x=0/\jr y=0:=by grind [ff_0]
theorem va_f (h:¬qK [qZ f,jr x,jr y]≠0):qZ f=0:=(va_0 h).1
theorem va_x (h:¬qK [qZ f,jr x,jr y]≠0):jr x=0:=(va_0 h).2.1
theorem va_y (h:¬qK [qZ f,jr x,jr y]≠0):jr y=0:=(va_0 h).2.2
theorem va_k (h:¬qK [qZ f,jr x,jr y]≠0):KP (plF f) (sumM f):=kp_sum (va_f h)
theorem va_q (h:¬qK [qZ f,jr x,jr y]≠0) (hz:qZ f=0->OkP (plF f)/\EvOk (plF f) (qU x) (qU y)):(valM (sumM f) (plF f) (qU x) (qU y)).q=evP (plF f) (qU x).q (qU y).q:=valM_q (va_k h) (hz (va_f h)).1
theorem va_3 (h:¬qK [qZ f,jr x,jr y]≠0) (hz:qZ f=0->OkP (plF f)/\EvOk (plF f) (qU x) (qU y)):resT (valM (sumM f) (plF f) (qU x) (qU y)).q=erL (qK [qZ f,jr x,jr y]) (resT (evP (plF f) (qU x).q (qU y).q)):=by rw[va_q h hz];exact er_3 h
theorem va_4 (h:¬qK [qZ f,jr x,jr y]≠0) (hz:qZ f=0->OkP (plF f)/\EvOk (plF f) (qU x) (qU y)):resE (valM (sumM f) (plF f) (qU x) (qU y)).q=erE (qK [qZ f,jr x,jr y]) (resE (evP (plF f) (qU x).q (qU y).q)):=by rw[va_q h hz];exact er_4 h
theorem va_z (h:¬qK [qZ f,jr x,jr y]≠0) (hz:qZ f=0->OkP (plF f)/\EvOk (plF f) (qU x) (qU y)):sz (valM (sumM f) (plF f) (qU x) (qU y)).q<=20000000:=by
 obtain⟨h1,h2⟩:=hz (va_f h)
 have a1:=ev_sz (x:=qU x) (y:=qU y) (va_k h) (jd (plF f)) frZ fun k hk=>hk
 have a2:=frZ_s
 have a3:=ord_len (P:=plF f)
 have a4:(jd (plF f)).length*(szP (plF f)+32*(sz (qU x).q+sz (qU y).q)+3)<=((plF f).length+2)*(szP (plF f)+34*(sz (qU x).q+sz (qU y).q+128)):=Ka aa aa
 unfold EvOk at h2
 unfold valM
 omega
theorem ch_0 (h:¬ji f g≠0):qZ f=0/\qZ g=0:=by
 have:=zi.1 h
 unfold ji at this
 grind [ff_0]
theorem ch_f (h:¬ji f g≠0):qZ f=0:=(ch_0 h).1
theorem ch_g (h:¬ji f g≠0):qZ g=0:=(ch_0 h).2
theorem dg_k (h:qZ f=0):∀ t∈f,KS (Zj t):=fun t ht=>by
 have:=po_t h ht
 unfold KS Zj;simp only;omega
theorem dg_b (h:qZ f=0):0<=degF f/\degF f<=16:=by
 unfold degF
 by_cases e:f=[]
 ·rw[WK e];omega
 rw[WJ e]
 have hl:f.length-1<f.length:=by have:=Xr.2 e;omega
 have:=po_t h (ki (z:=trZ) hl)
 omega
def AddOk (P R:PL):Prop:=szP P+(R.length+2)*(szP R+100)<=8000000/\P.length<=1000/\R.length<=1000
theorem of1_s (h:R64 1):sz (Qn.ofZ 1 h).q<=64:=by rw[Qn.ofZ_q];exact qd (sz_int 1) ah
theorem ad_z (h:¬ji f g≠0) (hz:ji f g=0->AddOk (plF f) (plF g)) {h1:R64 1}:szP (plF f)+((plF g).length+1)*(szP (plF g)+sz (Qn.q (Qn.ofZ 1 h1))+2)<=10000000:=by
 have:=(hz (zi.1 h)).1
 have hs:=of1_s h1
 have:((plF g).length+1)*(szP (plF g)+sz (Qn.q (Qn.ofZ 1 h1))+2)<=((plF g).length+2)*(szP (plF g)+100):=Ka aa aa
 omega
theorem scl_sz (b:Rat) (R:PL):szP (scl b R)<=R.length*(szP R+sz b+2)+1:=by
 refine szP_le (S:=szP R+sz b+1) (by simp[scl]) fun p hp=>?_
 simp only[scl,zE] at hp
 obtain⟨a,ha,rfl⟩:=hp
 have:=jv a.2 b
 have:=szP_mem ha
 simp only
 omega
theorem ad_ok (h:¬ji f g≠0) (hz:ji f g=0->AddOk (plF f) (plF g)) {h1:R64 1}:OkP (plF f++scl (Qn.q (Qn.ofZ 1 h1)) (plF g)):=by
 obtain⟨a1,a2,a3⟩:=hz (zi.1 h)
 refine⟨fun k hk=>?_,?_,?_⟩
 ·rw[z8,zH,scl_keys] at hk
  rcases hk with hk|hk
  ·have:=kb_f (ch_f h) k hk;omega
  have:=kb_f (ch_g h) k hk;omega
 ·rw[za];simp only[scl,zI];omega
 have b1:=szP_app (plF f) (scl (Qn.q (Qn.ofZ 1 h1)) (plF g))
 have b2:=scl_sz (Qn.q (Qn.ofZ 1 h1)) (plF g)
 have hs:=of1_s h1
 have:(plF g).length*(szP (plF g)+sz (Qn.q (Qn.ofZ 1 h1))+2)<=((plF g).length+2)*(szP (plF g)+100):=Ka aa aa
 omega
def MulOk (P R:PL):Prop:=(P.length*R.length+2)*(szP P+szP R+2)<=8000000/\P.length*R.length<=100000
def mulE (f g:List Trm):Int:=if ji f g≠0 then ji f g else if f≠[]/\g≠[]/\16<degF f+degF g then 3 else 0
theorem mu_k (h:¬ji f g≠0):KB (plF f)/\KB (plF g):=⟨fun k hk=>by have:=kb_f (ch_f h) k hk;omega,fun k hk=>by have:=kb_f (ch_g h) k hk;omega⟩
theorem mu_z (h:¬ji f g≠0) (hz:ji f g=0->MulOk (plF f) (plF g)):((plF f).length*(plF g).length+2)*(szP (plF f)+szP (plF g)+2)<=10000000:=by have:=(hz (zi.1 h)).1;omega
theorem prods_sz (P R:PL):szP (qS P R)<=P.length*R.length*(szP P+szP R+2)+1:=by
 refine szP_le (S:=szP P+szP R+1) (by rw[Qa];exact zB _) fun p hp=>?_
 simp only[qS,rowP,Jf,zE] at hp
 obtain⟨a,ha,b,hb,rfl⟩:=hp
 have:=jv a.2 b.2
 have:=szP_mem ha
 have:=szP_mem hb
 simp only
 omega
theorem mu_ok (h:¬ji f g≠0) (hz:ji f g=0->MulOk (plF f) (plF g)):OkP (qS (plF f) (plF g)):=by
 obtain⟨a1,a2⟩:=hz (zi.1 h)
 refine⟨fun k hk=>?_,by rw[Qa];exact a2,?_⟩
 ·obtain⟨a,ha,b,hb,rfl⟩:=prods_keys.1 hk
  have:=kb_f (ch_f h) a ha
  have:=kb_f (ch_g h) b hb
  unfold kadd;simp only;omega
 have b1:=prods_sz (plF f) (plF g)
 rw[Wa] at a1
 omega
theorem mu_1 (h:ji f g≠0):[]=erL (mulE f g) l:=by
 have:mulE f g=ji f g:=by unfold mulE;rw[WK h]
 rw[this];exact er_1 h
theorem mu_2 (h:ji f g≠0):ji f g=erE (mulE f g) d:=by
 have:mulE f g=ji f g:=by unfold mulE;rw[WK h]
 rw[this];exact er_2 h
theorem mu_t (h:¬ji f g≠0) (hb:(bif bif !decide (f=[]) then !decide (g=[]) else false then decide (16<degF f+degF g) else false)=true):mulE f g=3:=by grind [mulE]
theorem mu_f (h:¬ji f g≠0) (hb:(bif bif !decide (f=[]) then !decide (g=[]) else false then decide (16<degF f+degF g) else false)=false):mulE f g=0:=by grind [mulE]
theorem mu_3 (h:¬ji f g≠0) (hb:(bif bif !decide (f=[]) then !decide (g=[]) else false then decide (16<degF f+degF g) else false)=true):[]=erL (mulE f g) l:=er_1 (by rw[mu_t h hb];decide)
theorem mu_4 (h:¬ji f g≠0) (hb:(bif bif !decide (f=[]) then !decide (g=[]) else false then decide (16<degF f+degF g) else false)=true):3=erE (mulE f g) d:=by rw[mu_t h hb];exact er_2 ah
theorem mu_5 (h:¬ji f g≠0) (hb:(bif bif !decide (f=[]) then !decide (g=[]) else false then decide (16<degF f+degF g) else false)=false):l=erL (mulE f g) l:=er_3 (by rw[mu_f h hb];decide)
theorem mu_6 (h:¬ji f g≠0) (hb:(bif bif !decide (f=[]) then !decide (g=[]) else false then decide (16<degF f+degF g) else false)=false):d=erE (mulE f g) d:=er_4 (by rw[mu_f h hb];decide)
end
theorem fa25_1:fadQ tab 25 1=some 1:=ae
theorem w22 (hp:qJ) (f:List Trm) (x y:Nb) (hlf:f.length<=1000000) (hsf:∀ t∈f,(Trm.c t).length<=1000000000) (hx:x.length<=1000000000) (hy:y.length<=1000000000) (hz:qZ f=0->OkP (plF f)/\EvOk (plF f) (qU x) (qU y)):CKa 9 [vL eY f,.pv (.agg [pS (bsO x),pS (bsO y)])] (.tup [vS (bsO (erL (qK [qZ f,jr x,jr y]) (resT (evP (plF f) (Qn.q (qU x)) (Qn.q (qU y)))))),vI (erE (qK [qZ f,jr x,jr y]) (resE (evP (plF f) (Qn.q (qU x)) (Qn.q (qU y)))))]):=by
 refine cL 10 [] qf9 Z (nB Z) Z Z (kc (C Z (w81 f hlf hsf) Z Z Z (C Z (w112 x hx) Z Z Z (C Z (w112 y hy) Z Z Z (E Z (B.runZ (val:=.pv (.slice (List.map eI [(qZ f),(jr x),(jr y)]))) (m0:=[(25,.arr 0 1 28 [[pI (qZ f)],[pI (jr x)],[pI (jr y)]])]) (rd:=[]) ae (fun l=>Frz.arr l _ _ _ _ _) Z) (C Z (w98 [(qZ f),(jr x),(jr y)] (nB Z)) Z Z Z (Dr Z ae (Cp Z Z (fun h1=>?_) (fun h1=>?_)))))))))
 ·exact Rt Z (lL Z cV)
 exact E Z (B.jx (w114a f 31 hlf (va_f ab)) Z Z trivial Z Z) (C Z (w116 x (va_x ab)) Z Z Z (C Z (w116 y (va_y ab)) Z Z Z (E Z (B.run (val:=(rV (qU x) (qU y))) (m:=[]) (rd:=[]) ae) (E Z (B.jx (w115 (sumM f) (plF f) (qU x) (qU y) 31 (va_k ab) (hz (va_f ab)).1 (hz (va_f ab)).2) Z Z ⟨rfl,trivial⟩ rfl rfl) (C Z (w113 hp (valM (sumM f) (plF f) (qU x) (qU y)) (va_z ab hz)) Z Z Z (Dr Z ae (Rt Z (lL Z cV))))))))
def axB (s:Nb):Bool:=decide (s=[120])||decide (s=[121])
def axI (s:Nb):Int:=if s=[121] then 1 else 0
theorem axI_c (s:Nb):axI s=0\/axI s=1:=by unfold axI;split<;>simp
theorem B.lookAx (x:Nb) {P:Program} {Y:Tab} [qH P Y] {nb:Nat} {s:St} {dst:Option Tmp} {ty t:TypeId} {pos:String} {af:Array Edge} {gd:Option (Nat×Bool)} {m k:Operand} {h:Nat} {a b:ByteArray} {kt et:TypeId} {kd:TypeDesc} (hx:ev1 s m=.mref h) (hm:qr s.ms h=some (.map [.lit (.string a),.lit (.string b)] [.lit (.int .i64 0),.lit (.int .i64 1)])) (hy:ev1 s k=vS (bsO x))
  (und:Y.underlying t=some (.map kt et)) (uk:Y.underlying kt=some kd) (hz:(Y.info? et).bind (fun i=>i.zero.bind valPV)=some (.lit (.int .i64 0))) (hpk:plainKey kd (.lit (.string (bsO x)))=true) (hks:(plainKeys kd [.lit (.string a),.lit (.string b)]&&2==2)=true) (ha:a=bsO [120]) (hb:b=bsO [121]) :
  Body P Y nb s ⟨dst,.lookup t m k true,ty,pos,af,gd⟩ (.tup [vI (axI x),vB (axB x)]) [] [h]:=by
 subst ha hb
 have hf:Zx (.lit (.string (bsO x))) [.lit (.string (bsO [120])),.lit (.string (bsO [121]))] [.lit (.int .i64 0),.lit (.int .i64 1)]=if x=[120] then some (.lit (.int .i64 0)) else if x=[121] then some (.lit (.int .i64 1)) else none:=by simp only[Zx,bsO_toList,Wv]
 have key:=B.lookK (P:=P) (nb:=nb) (dst:=dst) (ty:=ty) (pos:=pos) (af:=af) (gd:=gd) (z:=.lit (.int .i64 0)) hx hm (key:=.lit (.string (bsO x))) hy und uk hz hpk hks hf
 have e1:((if x=[120] then some (PV.lit (.int .i64 0)) else if x=[121] then some (.lit (.int .i64 1)) else none:Option PV).getD (.lit (.int .i64 0)))=.lit (.int .i64 (axI x)):=by
  unfold axI
  grind
 have e2:(if x=[120] then some (PV.lit (.int .i64 0)) else if x=[121] then some (.lit (.int .i64 1)) else none:Option PV).isSome=axB x:=by
  unfold axB
  grind
 rw[e1,e2] at key
 exact key
section
variable {f g:List Trm} {s:Nb} {n:Array Nat} {q:List (KI×Qn)} {i:Nat} {k:KI} {v t:Qn} {P:PL} {ax:Int}
theorem de_f (h:¬qK [qZ f,j5 (!(axB s)) 13]≠0):qZ f=0:=by grind [ff_0]
theorem der_len (P:PL):(jO ax P).length<=P.length:=by
 induction P with
 | nil=>exact zB _
 | cons a A ih=>
  show (derT ax a++jO ax A).length<=_
  grind [List.length_append,List.length_cons,derT]
theorem de_ok (h:¬qK [qZ f,j5 (!(axB s)) 13]≠0) (hz:qZ f=0->OkP (plF f)/\DrOk (plF f)):OkP (jO ax (plF f)):=by
 obtain⟨hP,hd⟩:=hz (de_f h)
 refine⟨fun k hk=>?_,qd (der_len _) hP.len,?_⟩
 ·simp only[jO,zE,Jf] at hk
  obtain⟨p,⟨a,ha,hp⟩,rfl⟩:=hk
  unfold derT at hp
  split at hp
  ·rename_i h0
   rw[zg] at hp;subst hp
   have:=hP.k32 a.1 (zE.2 ⟨a,ha,rfl⟩)
   grind [kax,kdec]
  cases hp
 have h1:szP (jO ax (plF f))<=(plF f).length*(szP (plF f)+8)+1:=by
  refine szP_le (S:=szP (plF f)+7) (der_len _) fun p hp=>?_
  simp only[jO,Jf] at hp
  obtain⟨a,ha,hp⟩:=hp
  unfold derT at hp
  split at hp
  ·rw[zg] at hp;subst hp
   have hk:=hP.k32 a.1 (zE.2 ⟨a,ha,rfl⟩)
   have hb: -1<=kax ax a.1/\kax ax a.1<=64:=by unfold kax;split<;>omega
   have:=jv a.2 (kax ax a.1:Rat)
   have h6:=ofI_sz hb
   rw[ofI_q bg] at h6
   have:=szP_mem ha
   simp only
   omega
  cases hp
 unfold DrOk at hd
 have:((plF f).length+2)*(szP (plF f)+20)=(plF f).length*(szP (plF f)+8)+(plF f).length*12+2*(szP (plF f)+20):=by rw[Wa,show szP (plF f)+20=(szP (plF f)+8)+12 by omega,Wd (plF f).length]
 omega
def TuI (m:List (KI×Qn)) (n:Array Nat) (q:List (KI×Qn)):Prop:=VI m n/\KP (turP (plM (visL m n))) q
theorem tur_app (A B:PL):turP (A++B)=turP A++turP B:=z8
theorem tu_0 {m:List (KI×Qn)}:TuI m #[] []:=⟨VI.nil _,KP.nil⟩
theorem tu_s {m:List (KI×Qn)} (hI:TuI m n q) (hk:m[i]? =some (k,v)) (hi:i∉n) (h:k.2%2=1):TuI m (n.push i) (addK (k.2,k.1) (Qn.neg v) q):=by
 refine⟨hI.1.push hk hi,?_⟩
 rw[kF hk,plM_app,tur_app]
 have:=hI.2.add (k.2,k.1) (Qn.neg v)
 grind [Qn.neg_q,turP,turT,plM]
theorem tu_t {m:List (KI×Qn)} (hI:TuI m n q) (hk:m[i]? =some (k,v)) (hi:i∉n) (h:¬k.2%2=1):TuI m (n.push i) (addK (k.2,k.1) v q):=by
 refine⟨hI.1.push hk hi,?_⟩
 rw[kF hk,plM_app,tur_app]
 have:=hI.2.add (k.2,k.1) v
 simpa [turP,turT,plM,h] using this
theorem tu_b (h:¬qZ f≠0) (hk:(sumM f)[i]? =some (k,v)):0<=k.1/\0<=k.2/\k.1+k.2<=16:=
 kb_f (zi.1 h) k ((kp_sum (zi.1 h)).mem k (zE.2 ⟨_,Xe hk,rfl⟩))
theorem tu_n (h:¬qZ f≠0) (hz:qZ f=0->OkP (plF f)/\DrOk (plF f)) (hk:(sumM f)[i]? =some (k,v)):sz v.q<=20000000:=by
 have:=(kp_sum (zi.1 h)).sz (Xe hk)
 have:=(hz (zi.1 h)).1.sz
 omega
theorem szP_tur (A:PL):szP (turP A)=szP A:=by
 induction A with
 | nil=>rfl
 | cons a A ih=>
  show szP (turT a::turP A)=_
  obtain⟨k,c⟩:=a
  unfold turT
  simp only[szP]
  rw[ih]
  split
  ·rw[sz_neg]
  rfl
theorem vis_sz {m:List (KI×Qn)} (hm:KP P m) (hI:VI m n):szP (plM (visL m n))<=P.length*(szP P+1)+1:=by
 refine szP_le (S:=szP P) ?_ fun p hp=>?_
 ·have:=vis_len m n
  have:=hI.size
  have:=hm.len
  grind [plM]
 simp only[plM,zE] at hp
 obtain⟨b,hb,rfl⟩:=hp
 exact hm.sz (vis_mem hb)
theorem tu_a (h:¬qZ f≠0) (hz:qZ f=0->OkP (plF f)/\DrOk (plF f)) (hI:TuI (sumM f) n q) (hk:(sumM f)[i]? =some (k,v)) {K:KI} {c:Qn} (hc:sz c.q<=sz v.q:=by first|exact zB _|(rw[Qn.neg_q,sz_neg];exact zB _)):∀ x,kN K q=some x->sz x.q+sz c.q<=20000000:=by
 intro x hx
 have h1:=(kp_sum (zi.1 h)).sz (Xe hk)
 have h2:=hI.2.szg hx
 have h3:=(hz (zi.1 h)).1.sz
 have hs:szP (turP (plM (visL (sumM f) n)))<=9000000:=by
  rw[szP_tur]
  have h5:=vis_sz (kp_sum (zi.1 h)) hI.1
  have h6:=(hz (zi.1 h)).2
  unfold DrOk at h6
  have:((plF f).length+2)*(szP (plF f)+20)=(plF f).length*(szP (plF f)+1)+(plF f).length*19+2*(szP (plF f)+20):=by rw[Wa,show szP (plF f)+20=(szP (plF f)+1)+19 by omega,Wd (plF f).length]
  omega
 omega
theorem tu_e (h:¬qZ f≠0) (hI:TuI (sumM f) n q) (ha:∀ i,i<(sumM f).length->i∈n):KP (turP (plF f)) q:=by
 have hm:=kp_sum (zi.1 h)
 have hp:=plM_perm (hI.1.all ha)
 refine hI.2.congr (Eqv.tur ((Eqv.perm hp).trans hm.eqv)) fun k hk=>?_
 have hkeys:∀ (A:PL) (k:KI),k∈(turP A).map (·.1)↔∃ a∈A.map (·.1),k=(a.2,a.1):=by
  intro A k
  simp only[turP,Kz,zE,Function.comp,turT]
  grind
 rw[hkeys] at hk ⊢
 obtain⟨a,h1,h2⟩:=hk
 exact⟨a,hm.keysP a ((hp.map (·.1)).mem_iff.1 h1),h2⟩
theorem tu_ok (h:¬qZ f≠0) (hz:qZ f=0->OkP (plF f)/\DrOk (plF f)):OkP (turP (plF f)):=by
 have hP:=(hz (zi.1 h)).1
 refine⟨fun k hk=>?_,by simpa [turP] using hP.len,by rw[szP_tur];exact hP.sz⟩
 simp only[turP,Kz,zE,Function.comp,turT] at hk
 obtain⟨a,ha,rfl⟩:=hk
 have:=hP.k32 a.1 (zE.2 ⟨a,ha,rfl⟩)
 simp only;omega
end
theorem un108:tab.underlying 108=some (.map 9 3):=ae
theorem w24 (hp:qJ) (f:List Trm) (s:Nb) (hlf:f.length<=1000000) (hsf:∀ t∈f,(Trm.c t).length<=1000000000) (hz:qZ f=0->OkP (plF f)/\DrOk (plF f)):CKa 11 [vL eY f,vS (bsO s)] (.tup [vL eY (erL (qK [qZ f,j5 (!(axB s)) 13]) (polT (jO (axI s) (plF f)))),vI (erE (qK [qZ f,j5 (!(axB s)) 13]) (polE (jO (axI s) (plF f))))]):=by
 refine cL 10 [] qf11 Z (nB Z) Z Z (kc (E Z (B.nilS (enc:=eY) Z) (E Z (B.run Z) (E Z (B.run (val:=.dead) (m:=[(20,.map [.lit (.string (bsO [120]))] [.lit (.int .i64 0)])]) (rd:=[20]) ae) (E Z (B.run (val:=.dead) (m:=[(20,.map [.lit (.string (bsO [120])),.lit (.string (bsO [121]))] [.lit (.int .i64 0),.lit (.int .i64 1)])]) (rd:=[20]) ae) (E Z (B.lookAx s Z Z Z un108 un9 ae ae ae ae ae) (C Z (w81 f hlf hsf) Z Z Z (C Z (w99 (!(axB s)) 13) Z Z Z (E Z (B.runZ (val:=.pv (.slice (List.map eI [(qZ f),(j5 (!(axB s)) 13)]))) (m0:=[(31,.arr 0 1 28 [[pI (qZ f)],[pI (j5 (!(axB s)) 13)]])]) (rd:=[]) ae (fun l=>Frz.arr l _ _ _ _ _) Z) (C Z (w98 [(qZ f),(j5 (!(axB s)) 13)] (nB Z)) Z Z Z (Cp Z Z (fun h1=>?_) (fun h1=>?_))))))))))))
 ·exact E Z (B.nilS (enc:=eY) Z) (Rt Z (lL Z cW))
 exact E Z (B.jx (w114k f 37 hlf (de_f ab)) Z Z trivial Z Z) (E Z (B.jx (w117k (axI s) (plF f) 37 39 ah (axI_c s) (hz (de_f ab)).1 (hz (de_f ab)).2) Z Z ⟨rfl,trivial⟩ rfl rfl) (E Z (B.jx (w104k hp (jO (axI s) (plF f)) 39 (de_ok ab hz)) Z Z ⟨rfl,trivial⟩ rfl rfl) (Rt Z (lL Z cW))))
theorem w25 (hp:qJ) (f:List Trm) (hlf:f.length<=1000000) (hsf:∀ t∈f,(Trm.c t).length<=1000000000) (hz:qZ f=0->OkP (plF f)/\DrOk (plF f)):CKa 12 [vL eY f] (.tup [vL eY (erL (qZ f) (polT (turP (plF f)))),vI (erE (qZ f) (polE (turP (plF f))))]):=by
 refine cL 10 [] qf12 Z (nB Z) Z Z (kc (E Z (B.nilS (enc:=eY) Z) (C Z (w81 f hlf hsf) Z Z Z (Cp Z Z (fun h1=>?_) (fun h1=>?_)))))
 ·exact E Z (B.nilS (enc:=eY) Z) (Rt Z (lL Z cW))
 refine E Z (B.newK (enc:=eP) Z Z) (E Z (B.jx (w114a f 25 hlf (zi.1 ab)) Z Z trivial Z Z) (E Z (B.rangeK kty Z Z Z Z) (l2 (fun (n:Array Nat) (q:List (KI×Qn))=>[(5,.mref 23),(16,.bref 26 0)]) (fun n q=>[(23,(kO eP q)),(25,(kO eP (sumM f))),(26,.miter 25 ((sumM f).length) n)]) (fun n q=>TuI (sumM f) n q) (fun n _=>(sumM f).length-Array.size n) (#[]) [] Z ?_ (sb Z Z Z) ?_)))
 · exact tu_0
 intro n q hI0
 refine tk 6 Z ?_
 refine TK.nextK (Y:=tab) Z Z Z Z Z (fun i1 k1 v1 hk1 hi1=>?_) (fun hall1=>?_)
 ·refine rc (CT Z Z (E Z (B.entryK Z Z Z hk1) (E Z (B.bZ Z Z) (E Z (B.run Z) (E Z (B.remN Z Z (by have hb:=tu_b ab hk1;omega) ah) (Cp Z Z (fun h2=>?_) (fun h2=>?_)))))))
  ·refine C Z (w118 v1 (tu_n ab hz hk1)) Z Z Z (E Z (B.run Z) (E Z (B.run Z) (E Z (B.run (val:=.pv (.agg [pI (snd k1),pI (fst k1)])) (m:=[]) (rd:=[]) ae) (E Z (B.jx (w119 q ((snd k1),(fst k1)) (Qn.neg v1) 23 (tu_a ab hz hI0 hk1)) Z Z ⟨rfl,trivial⟩ rfl rfl) (pk Z (L2 (Array.push n i1) (addK ((snd k1),(fst k1)) (Qn.neg v1) q) ?_ ?_ (sb Z Z Z)))))))
   · first|exact tu_s hI0 hk1 hi1 ab|exact tu_t hI0 hk1 hi1 ab
   · exact hI0.1.meas hk1 hi1
  refine E Z (B.run Z) (E Z (B.run Z) (E Z (B.run (val:=.pv (.agg [pI (snd k1),pI (fst k1)])) (m:=[]) (rd:=[]) ae) (E Z (B.jx (w119 q ((snd k1),(fst k1)) v1 23 (tu_a ab hz hI0 hk1)) Z Z ⟨rfl,trivial⟩ rfl rfl) (pk Z (L2 (Array.push n i1) (addK ((snd k1),(fst k1)) v1 q) ?_ ?_ (sb Z Z Z))))))
  · first|exact tu_s hI0 hk1 hi1 ab|exact tu_t hI0 hk1 hi1 ab
  · exact hI0.1.meas hk1 hi1
 refine rc (CF Z Z ?_)
 refine tk 11 Z ?_
 refine TK.shutK (h:=23) (R':=fun kv=>∃ m,KP (turP (plF f)) m/\kv=kvO eP m) Z (fun kv e=>⟨_,tu_e ab hI0 hall1,e⟩) ?_
 exact kc (E Z (B.jx (w104k hp (turP (plF f)) 23 (tu_ok ab hz)) Z Z ⟨rfl,trivial⟩ rfl rfl) (Rt Z (lL Z cW)))
def dq (k:Int):Rat:=(Qb k).q
def dF (k:KI):Rat:=if k.1%2=0/\k.2%2=0 then 2*dq (k.1-1)*dq (k.2-1) / (dq (k.1+k.2)*((k.1+k.2+2:Int):Rat)) else 0
def DiI (m:List (KI×Qn)) (n:Array Nat) (t:Qn):Prop:=VI m n/\t.q=lin dF (plM (visL m n))
def DiOk (P R:PL):Prop:=(P.length*R.length+2)*(szP P+szP R+2)<=5000000/\P.length*R.length<=3000
theorem DiOk.mul {P R:PL} (h:DiOk P R):MulOk P R:=⟨by have:=h.1;omega,by have:=h.2;omega⟩
theorem dbF_s:∀ (n:Nat) (k:Int) (r:Qn), -1<=k/\k<=64->sz (dblF n k r).q<=sz r.q+n*7
 | 0,_,_,_=>by simp[dblF]
 | n+1,k,r,h=>by
  rw[dblF]
  split
  ·refine qd (dbF_s n _ _ aa) ?_
   rw[Qn.mul_q]
   have:=jv r.q (Qn.ofI k).q
   have:=ofI_sz h
   omega
  omega
theorem dq_s {k:Int} (h: -1<=k/\k<=64):sz (Qb k).q<=400:=by
 have:=dbF_s 40 k (Qn.ofZ 1 bg) h
 have:=of1_s bg
 unfold Qb;omega
theorem rz_int {k:Int} (h:k≠0):(k:Rat)≠0:=fun e=>h (by
 have e2:((k:Int):Rat)=((0:Int):Rat):=e
 exact JQ.1 e2)
theorem rz_mul {a b:Rat} (ha:a≠0) (hb:b≠0):a*b≠0:=fun e=>by rcases Rat.mul_eq_zero.1 e with h|h;exact ha h;exact hb h
theorem dbF_z:∀ (n:Nat) (k:Int) (r:Qn),k<=64->r.q≠0->(dblF n k r).q≠0
 | 0,_,_,_,h=>h
 | n+1,k,r,h1,h=>by
  rw[dblF]
  split
  ·refine dbF_z n _ _ aa ?_
   rw[Qn.mul_q,ofI_q bg]
   exact rz_mul h (rz_int aa)
  exact h
theorem dq_z {k:Int} (h:k<=64):(Qb k).q≠0:=dbF_z 40 k _ h (by rw[Qn.ofZ_q];exact rz_int ah)
def sumS (ks:List KI) (P:PL):Nat:=(ks.map fun k=>sz (cf P k)+1).sum
theorem sumS_le (a:KI) (c:Rat) (P:PL):∀ ks:List KI,ks.Nodup->sumS ks ((a,c)::P)<=sumS ks P+if a∈ks then sz c+1 else 0
 | [],_=>by simp[sumS]
 | k::ks,h=>by
  rw[JD] at h
  have ih:=sumS_le a c P ks h.2
  simp only[sumS,zy,Kj] at ih ⊢
  rw[jI]
  by_cases e:a=k
  ·subst e
   simp only[h.1,qm,qh,ql,KD] at ih ⊢
   have:=sz_add c (cf P a)
   omega
  grind
theorem sz_0:sz 0<=1:=qd (sz_int 0) ah
theorem sumS_all (ks:List KI) (h:ks.Nodup):∀ P:PL,sumS ks P<=szP P+2*ks.length
 | []=>by
  have:∀ l:List KI,sumS l []<=2*l.length:=by
   intro l
   induction l with
   | nil=>simp[sumS]
   | cons a l ih=>
    simp only[sumS,zy,Kj,zb] at ih ⊢
    have e:cf [] a=0:=rfl
    have:=sz_0
    rw[e];omega
  grind
 | (a,c)::P=>by
  have h1:=sumS_le a c P ks h
  have h2:=sumS_all ks h P
  grind [szP]
section
variable {f g:List Trm} {n:Array Nat} {m:List (KI×Qn)} {i:Nat} {k:KI} {v t:Qn} {P:PL}
theorem vis_nd (hn:(m.map (·.1)).Nodup):∀ {l:List Nat},l.Nodup->((l.filterMap fun i=>m[i]?).map (·.1)).Nodup
 | [],_=>by simp
 | i::l,h=>by
  rw[JD] at h
  have ih:=vis_nd hn h.2
  rw[List.filterMap_cons]
  cases e:m[i]? with
  | none=>simpa using ih
  | some a=>
   simp only[zy,JD]
   refine⟨fun ha=>?_,ih⟩
   simp only[zE,List.mem_filterMap] at ha
   obtain⟨b,⟨j,hj,hb⟩,hab⟩:=ha
   obtain⟨hi',ei⟩:=QD.1 e
   obtain⟨hj',ej⟩:=QD.1 hb
   have hij:i≠j:=fun e=>h.1 (e▸hj)
   have h3:(m.map (·.1))[i]'(by simpa using hi')=(m.map (·.1))[j]'(by simpa using hj'):=by grind
   rcases Nat.lt_or_gt_of_ne hij with q|q
   ·exact QG.1 hn i j _ _ q h3
   exact QG.1 hn j i _ _ q h3.symm
theorem vis_S (hm:KP P m) (hI:VI m n):szP (plM (visL m n))<=szP P+2*P.length+1:=by
 have hnd:=vis_nd hm.nd hI.1
 have h1:=sumS_all _ hnd P
 have h2:∀ l:List (KI×Qn),(∀ b∈l,b∈m)->szP (plM l)=sumS (l.map (·.1)) P+1:=by
  intro l
  induction l with
  | nil=>intro _;simp[plM,szP,sumS]
  | cons a l ih=>
   intro h
   have:=ih fun b hb=>h b (zN _ hb)
   have hv:=hm.val (k:=a.1) (x:=a.2) (h a qh)
   simp only[plM,zy,szP,sumS,Kj] at this ⊢
   rw[hv,this]
   omega
 have h3:=h2 (visL m n) fun b hb=>vis_mem hb
 have h4:((visL m n).map (·.1)).length<=P.length:=by
  rw[zI]
  have:=vis_len m n
  have:=hI.size
  have:=hm.len
  omega
 grind [visL]
theorem di_b (h:¬ji f g≠0) (hm:KP (qS (plF f) (plF g)) m) (hk:m[i]? =some (k,v)):0<=k.1/\0<=k.2/\k.1+k.2<=32:=by
 obtain⟨a,ha,b,hb,rfl⟩:=prods_keys.1 (hm.mem k (zE.2 ⟨_,Xe hk,rfl⟩))
 have:=kb_f (ch_f h) a ha
 have:=kb_f (ch_g h) b hb
 unfold kadd;simp only;omega
theorem pr_z (h:¬ji f g≠0) (hz:ji f g=0->DiOk (plF f) (plF g)):szP (qS (plF f) (plF g))<=5000000/\(qS (plF f) (plF g)).length<=3000:=by
 obtain⟨a1,a2⟩:=hz (zi.1 h)
 have b1:=prods_sz (plF f) (plF g)
 rw[Wa] at a1
 rw[Qa]
 omega
theorem of2_s {h:R64 2}:sz (Qn.ofZ 2 h).q<=64:=by rw[Qn.ofZ_q];exact qd (sz_int 2) ah
theorem di_v (h:¬ji f g≠0) (hz:ji f g=0->DiOk (plF f) (plF g)) (hm:KP (qS (plF f) (plF g)) m) (hk:m[i]? =some (k,v)):sz v.q<=5000000:=by
 have:=hm.sz (Xe hk)
 have:=(pr_z h hz).1
 omega
theorem di_m (h:¬ji f g≠0) (hz:ji f g=0->DiOk (plF f) (plF g)) (hm:KP (qS (plF f) (plF g)) m) (hk:m[i]? =some (k,v)) {h2:R64 2}:sz v.q+sz (Qn.ofZ 2 h2).q<=20000000/\sz (Qn.mul v (Qn.ofZ 2 h2)).q+sz (Qb (k.1-1)).q<=20000000/\sz (Qn.mul (Qn.mul v (Qn.ofZ 2 h2)) (Qb (k.1-1))).q+sz (Qb (k.2-1)).q<=20000000/\sz (Qb (k.1+k.2)).q+sz (Qn.ofI (k.1+k.2+2)).q<=20000000:=by
 have h3:=di_v h hz hm hk
 have h4:=di_b h hm hk
 have h5:=of2_s (h:=h2)
 have d1:=dq_s (k:=k.1-1) aa
 have d2:=dq_s (k:=k.2-1) aa
 have d3:=dq_s (k:=k.1+k.2) aa
 have d4:=ofI_sz (j:=k.1+k.2+2) aa
 have s1:=jv v.q (Qn.ofZ 2 h2).q
 have s2:=jv (v.q*(Qn.ofZ 2 h2).q) (Qb (k.1-1)).q
 simp only[Qn.mul_q]
 omega
theorem di_d (h:¬ji f g≠0) (hz:ji f g=0->DiOk (plF f) (plF g)) (hm:KP (qS (plF f) (plF g)) m) (hk:m[i]? =some (k,v)) {h2:R64 2}:sz (Qn.mul (Qn.mul (Qn.mul v (Qn.ofZ 2 h2)) (Qb (k.1-1))) (Qb (k.2-1))).q+sz (Qn.mul (Qb (k.1+k.2)) (Qn.ofI (k.1+k.2+2))).q<=20000000:=by
 have h3:=di_v h hz hm hk
 have h4:=di_b h hm hk
 have h5:=of2_s (h:=h2)
 have d1:=dq_s (k:=k.1-1) aa
 have d2:=dq_s (k:=k.2-1) aa
 have d3:=dq_s (k:=k.1+k.2) aa
 have d4:=ofI_sz (j:=k.1+k.2+2) aa
 have s1:=jv v.q (Qn.ofZ 2 h2).q
 have s2:=jv (v.q*(Qn.ofZ 2 h2).q) (Qb (k.1-1)).q
 have s3:=jv (v.q*(Qn.ofZ 2 h2).q*(Qb (k.1-1)).q) (Qb (k.2-1)).q
 have s4:=jv (Qb (k.1+k.2)).q (Qn.ofI (k.1+k.2+2)).q
 simp only[Qn.mul_q]
 omega
theorem di_z (h:¬ji f g≠0) (hm:KP (qS (plF f) (plF g)) m) (hk:m[i]? =some (k,v)):(Qn.mul (Qb (k.1+k.2)) (Qn.ofI (k.1+k.2+2))).q≠0:=by
 have h4:=di_b h hm hk
 rw[Qn.mul_q,ofI_q bg]
 exact rz_mul (dq_z aa) (rz_int aa)
theorem dF_s {c:Rat} (h:0<=k.1/\0<=k.2/\k.1+k.2<=32):sz (c*dF k)<=sz c+1300:=by
 have d1:=dq_s (k:=k.1-1) aa
 have d2:=dq_s (k:=k.2-1) aa
 have d3:=dq_s (k:=k.1+k.2) aa
 have d4:=ofI_sz (j:=k.1+k.2+2) aa
 rw[ofI_q bg] at d4
 have s0:=jv c (dF k)
 have h5:sz (2:Rat)<=64:=qd (sz_int 2) ah
 have:sz (dF k)<=1300:=by
  unfold dF
  split
  ·have s1:=jv 2 (dq (k.1-1))
   have s2:=jv (2*dq (k.1-1)) (dq (k.2-1))
   have s3:=jv (dq (k.1+k.2)) ((k.1+k.2+2:Int):Rat)
   have s4:=sz_div (2*dq (k.1-1)*dq (k.2-1)) (dq (k.1+k.2)*((k.1+k.2+2:Int):Rat))
   unfold dq at*
   omega
  have:=sz_0;omega
 omega
theorem lin_sz:∀ (A:PL),(∀ p∈A,0<=p.1.1/\0<=p.1.2/\p.1.1+p.1.2<=32)->sz (lin dF A)<=szP A+A.length*1302
 | [],_=>by have:=sz_0;simp only[lin,szP];omega
 | (a,c)::A,h=>by
  have ih:=lin_sz A fun p hp=>h p (zN _ hp)
  have h1:=dF_s (c:=c) (h _ qh)
  have h2:=sz_add (c*dF a) (lin dF A)
  grind [lin,szP,List.length_cons]
theorem di_t (h:¬ji f g≠0) (hz:ji f g=0->DiOk (plF f) (plF g)) (hm:KP (qS (plF f) (plF g)) m) (hI:DiI m n t):sz t.q<=10000000:=by
 have h1:=pr_z h hz
 have h2:=vis_S hm hI.1
 have h3:(plM (visL m n)).length<=3000:=by
  have:=vis_len m n
  have:=hI.1.size
  have:=hm.len
  grind [plM]
 have h4:=lin_sz (plM (visL m n)) fun p hp=>by
  simp only[plM,zE] at hp
  obtain⟨b,hb,rfl⟩:=hp
  obtain⟨j,hj⟩:=List.mem_iff_getElem?.1 (vis_mem hb)
  exact di_b h hm hj
 rw[hI.2]
 omega
theorem di_a (h:¬ji f g≠0) (hz:ji f g=0->DiOk (plF f) (plF g)) (hm:KP (qS (plF f) (plF g)) m) (hk:m[i]? =some (k,v)) (hI:DiI m n t) {h2:R64 2}:sz t.q+sz (Qn.dv (Qn.mul (Qn.mul (Qn.mul v (Qn.ofZ 2 h2)) (Qb (k.1-1))) (Qb (k.2-1))) (Qn.mul (Qb (k.1+k.2)) (Qn.ofI (k.1+k.2+2)))).q<=20000000:=by
 have h1:=di_t h hz hm hI
 have h3:=di_v h hz hm hk
 have h4:=di_b h hm hk
 have h5:=of2_s (h:=h2)
 have d1:=dq_s (k:=k.1-1) aa
 have d2:=dq_s (k:=k.2-1) aa
 have d3:=dq_s (k:=k.1+k.2) aa
 have d4:=ofI_sz (j:=k.1+k.2+2) aa
 have s1:=jv v.q (Qn.ofZ 2 h2).q
 have s2:=jv (v.q*(Qn.ofZ 2 h2).q) (Qb (k.1-1)).q
 have s3:=jv (v.q*(Qn.ofZ 2 h2).q*(Qb (k.1-1)).q) (Qb (k.2-1)).q
 have s4:=jv (Qb (k.1+k.2)).q (Qn.ofI (k.1+k.2+2)).q
 have s5:=sz_div (v.q*(Qn.ofZ 2 h2).q*(Qb (k.1-1)).q*(Qb (k.2-1)).q) ((Qb (k.1+k.2)).q*(Qn.ofI (k.1+k.2+2)).q)
 rw[Qn.dv_q]
 simp only[Qn.mul_q]
 omega
theorem di_s (h:¬ji f g≠0) (hz:ji f g=0->DiOk (plF f) (plF g)) (hm:KP (qS (plF f) (plF g)) m) (hI:DiI m n t):sz t.q<=20000000:=by have:=di_t h hz hm hI;omega
theorem di_0:DiI m #[] (Qn.ofZ 0 bg):=⟨VI.nil _,by rw[Qn.ofZ_q];rfl⟩
theorem ev_b2 (h:(bif decide (k.1%2=0) then decide (k.2%2=0) else false)=true):k.1%2=0/\k.2%2=0:=⟨cg_1 h,cg_2 h⟩
theorem di_1 (h:¬ji f g≠0) (hm:KP (qS (plF f) (plF g)) m) (hI:DiI m n t) (hk:m[i]? =some (k,v)) (hi:i∉n) (hc:(bif decide (k.1%2=0) then decide (k.2%2=0) else false)=true) {h2:R64 2}:DiI m (n.push i) (Qn.add t (Qn.dv (Qn.mul (Qn.mul (Qn.mul v (Qn.ofZ 2 h2)) (Qb (k.1-1))) (Qb (k.2-1))) (Qn.mul (Qb (k.1+k.2)) (Qn.ofI (k.1+k.2+2))))):=by
 refine⟨hI.1.push hk hi,?_⟩
 have h4:=di_b h hm hk
 rw[kF hk,plM_app,lin_app,<-hI.2,Qn.add_q,Qn.dv_q]
 simp only[Qn.mul_q,Qn.ofZ_q,plM,zy,zX,lin]
 unfold dF
 rw[WK (ev_b2 hc),ofI_q bg]
 unfold dq
 have e:((2:Int):Rat)=2:=rfl
 rw[e,Wm,Wm]
 grind
theorem di_2 (_:¬ji f g≠0) (_:KP (qS (plF f) (plF g)) m) (hI:DiI m n t) (hk:m[i]? =some (k,v)) (hi:i∉n) (hc:(bif decide (k.1%2=0) then decide (k.2%2=0) else false)=false):DiI m (n.push i) t:=by
 refine⟨hI.1.push hk hi,?_⟩
 rw[kF hk,plM_app,lin_app,<-hI.2]
 have:dF k=0:=by unfold dF;rw[WJ (cg_4 hc)]
 simp only[plM,zy,zX,lin,this]
 grind
theorem di_q (hm:KP (qS (plF f) (plF g)) m) (hI:DiI m n t) (ha:∀ i,i<m.length->i∈n):t.q=lin dF (qS (plF f) (plF g)):=by
 rw[hI.2]
 exact ((Eqv.perm (plM_perm (hI.1.all ha))).trans hm.eqv).lin _
theorem di_3 (h:¬ji f g≠0) (hm:KP (qS (plF f) (plF g)) m) (hI:DiI m n t) (ha:∀ i,i<m.length->i∈n):resT t.q=erL (ji f g) (resT (lin dF (qS (plF f) (plF g)))):=by rw[di_q hm hI ha];exact er_3 h
theorem di_4 (h:¬ji f g≠0) (hm:KP (qS (plF f) (plF g)) m) (hI:DiI m n t) (ha:∀ i,i<m.length->i∈n):resE t.q=erE (ji f g) (resE (lin dF (qS (plF f) (plF g)))):=by rw[di_q hm hI ha];exact er_4 h
end
theorem w33 (hp:qJ) (f g:List Trm) (hlf:f.length<=1000000) (hsf:∀ t∈f,(Trm.c t).length<=1000000000) (hlg:g.length<=1000000) (hsg:∀ t∈g,(Trm.c t).length<=1000000000) (hz:ji f g=0->DiOk (plF f) (plF g)):CKa 21 [vL eY f,vL eY g] (.tup [vS (bsO (erL (ji f g) (resT (lin dF (qS (plF f) (plF g)))))),vI (erE (ji f g) (resE (lin dF (qS (plF f) (plF g)))))]):=by
 refine cL 10 [] qf21 Z (nB Z) Z Z (kc (C Z (w124 f g hlf hsf hlg hsg) Z Z Z (Cp Z Z (fun h1=>?_) (fun h1=>?_))))
 ·exact Rt Z (lL Z cX)
 refine C Z (w100 0 bg) Z Z Z (E Z (B.bZ Z Z) ?_)
 refine tk 5 Z ?_
 refine TK.cutK (Y:=tab) 5 33 Z ?_
 refine rc (E Z (B.jx (w114k f 30 hlf (ch_f ab)) Z Z trivial Z Z) (E Z (B.jx (w114k g 32 hlg (ch_g ab)) Z Z trivial Z Z) (E Z (B.jx (w101k (plF f) (plF g) 30 32 33 ah ah ah (mu_k ab).1 (mu_k ab).2 (mu_z ab fun e=>(hz e).mul)) Z Z ⟨rfl,rfl,trivial⟩ rfl rfl) (pk Z (Cut.mk Z (fun kv1 hkv1=>?_))))))
 obtain⟨m1,hm1,rfl⟩:=hkv1
 refine rc (E Z (B.rangeK kty Z Z Z Z) (l2 (fun (n:Array Nat) (t:Qn)=>[(7,.bref 17 0),(24,.bref 34 0)]) (fun n t=>[(17,.box 99 (gF t)),(33,(kO eP m1)),(34,.miter 33 (m1.length) n)]) (fun n t=>DiI m1 n t) (fun n _=>m1.length-Array.size n) (#[]) (Qn.ofZ 0 bg) Z ?_ (sb Z Z Z) ?_))
 · exact di_0
 intro n t hI0
 refine tk 6 Z ?_
 refine TK.nextK (Y:=tab) Z Z Z Z Z (fun i1 k1 v1 hk1 hi1=>?_) (fun hall1=>?_)
 ·refine rc (CT Z Z (E Z (B.entryK Z Z Z hk1) (E Z (B.bZ Z Z) (E Z (B.run Z) (E Z (B.run Z) (Dr Z ae (E Z (B.remN Z Z cY ah) ?_)))))))
  refine Em Z Z Z Z ?_
  refine Eg Z Z (fun hc=>B.remN (qu Z hc) Z cY ah) Z (Eg Z Z (fun hc=>B.eql (qu Z hc) Z) Z (E Z (B.pA Z Z Z Z Z) (Cb Z Z (fun h2=>?_) (fun h2=>?_))))
  ·refine C Z (w100 2 bg) Z Z Z (C Z (w126 v1 (Qn.ofZ 2 bg) (di_m ab hz hm1 hk1 (h2:=by unfold R64;omega)).1) Z Z Z (E Z (B.sub Z Z cZ) (C Z (w127 ((fst k1)-1) cY) Z Z Z (C Z (w126 (Qn.mul v1 (Qn.ofZ 2 bg)) (Qb ((fst k1)-1)) (di_m ab hz hm1 hk1 (h2:=by unfold R64;omega)).2.1) Z Z Z (E Z (B.sub Z Z cZ) (C Z (w127 ((snd k1)-1) cY) Z Z Z (C Z (w126 (Qn.mul (Qn.mul v1 (Qn.ofZ 2 bg)) (Qb ((fst k1)-1))) (Qb ((snd k1)-1)) (di_m ab hz hm1 hk1 (h2:=by unfold R64;omega)).2.2.1) Z Z Z (E Z (B.add Z Z cZ) (C Z (w127 ((fst k1)+(snd k1)) cY) Z Z Z (E Z (B.add Z Z cZ) (E Z (B.add Z Z cZ) (C Z (w100i (((fst k1)+(snd k1))+2) cY) Z Z Z (C Z (w126 (Qb ((fst k1)+(snd k1))) (Qn.ofI (((fst k1)+(snd k1))+2)) (di_m ab hz hm1 hk1 (h2:=by unfold R64;omega)).2.2.2) Z Z Z ?_)))))))))))))
   refine C Z (w128d (Qn.mul (Qn.mul (Qn.mul v1 (Qn.ofZ 2 bg)) (Qb ((fst k1)-1))) (Qb ((snd k1)-1))) (Qn.mul (Qb ((fst k1)+(snd k1))) (Qn.ofI (((fst k1)+(snd k1))+2))) (di_d ab hz hm1 hk1) (di_z ab hm1 hk1)) Z Z Z (C Z (w125 t (Qn.dv (Qn.mul (Qn.mul (Qn.mul v1 (Qn.ofZ 2 bg)) (Qb ((fst k1)-1))) (Qb ((snd k1)-1))) (Qn.mul (Qb ((fst k1)+(snd k1))) (Qn.ofI (((fst k1)+(snd k1))+2)))) (di_a ab hz hm1 hk1 hI0)) Z Z Z (Dr Z ae (pk Z (L2 (Array.push n i1) (Qn.add t (Qn.dv (Qn.mul (Qn.mul (Qn.mul v1 (Qn.ofZ 2 bg)) (Qb ((fst k1)-1))) (Qb ((snd k1)-1))) (Qn.mul (Qb ((fst k1)+(snd k1))) (Qn.ofI (((fst k1)+(snd k1))+2))))) ?_ ?_ (sb Z Z Z)))))
   · first|exact di_1 ab hm1 hI0 hk1 hi1 ab|exact di_2 ab hm1 hI0 hk1 hi1 ab
   · exact hI0.1.meas hk1 hi1
  refine pk Z (L2 (Array.push n i1) t ?_ ?_ (sb Z Z Z))
  · first|exact di_1 ab hm1 hI0 hk1 hi1 ab|exact di_2 ab hm1 hI0 hk1 hi1 ab
  · exact hI0.1.meas hk1 hi1
 exact rc (CF Z Z (C Z (w113 hp t (di_s ab hz hm1 hI0)) Z Z Z (Rt Z (lL Z cX))))
instance:DecidableEq Trm:=fun x y=>decidable_of_iff (Trm.c x=Trm.c y/\Trm.i x=Trm.i y/\Trm.j x=Trm.j y) (by
 constructor
 ·rintro⟨h1,h2,h3⟩
  obtain⟨c,i,j⟩:=x
  obtain⟨c',i',j'⟩:=y
  simp only at h1 h2 h3
  subst h1 h2 h3
  rfl
 rintro rfl;exact⟨rfl,rfl,rfl⟩)
theorem fq83:flatEq tab 63=some [.string,.int (.i64),.int (.i64)]:=ae
section
variable {α:Type} [DecidableEq α] {a b:List α} {z:α} {k:Nat} {x y:Trm}
theorem sr_1 (h:a.length≠b.length):false=decide (a=b):=(zk fun e=>h (by rw[e])).symm
theorem sr_2 (h:getD a k z≠getD b k z):false=decide (a=b):=(zk fun e=>h (by rw[e])).symm
theorem sr_3 (hl:a.length=b.length) (hI:∀ i,i<k->getD a i z=getD b i z) (hk:a.length<=k):true=decide (a=b):=by
 refine (zl ?_).symm
 refine List.ext_getElem hl fun i h1 h2=>?_
 have:=hI i aa
 simpa [ze,zm h1,zm h2] using this
theorem sr_n (hI:∀ i,i<k->getD a i z=getD b i z) (h:getD a k z=getD b k z):∀ i,i<k+1->getD a i z=getD b i z:=fun i hi=>by
 by_cases e:i=k
 ·rw[e];exact h
 exact hI i aa
theorem sr_t (h:(!(decide (Trm.c x=Trm.c y)&&(decide (Trm.i x=Trm.i y)&&decide (Trm.j x=Trm.j y))))=false):x=y:=by
 simp only[Bool.not_eq_false',zj,zf] at h
 obtain⟨h1,h2,h3⟩:=h
 obtain⟨c,i,j⟩:=x
 obtain⟨c',i',j'⟩:=y
 simp only at h1 h2 h3
 subst h1 h2 h3
 rfl
theorem sr_f (h:(!(decide (Trm.c x=Trm.c y)&&(decide (Trm.i x=Trm.i y)&&decide (Trm.j x=Trm.j y))))=true):x≠y:=by
 intro e
 subst e
 simp at h
end
theorem ow_s {f o:List Trm} {k:Nat} (ho:o=take k f) (hk:k<f.length):o++[getD f k trZ]=take (k+1) f:=by
 rw[ho,Qf hk,ze,zm hk];rfl
theorem ag63:aggT tab 63=some true:=ae
theorem by63:ty63.info.bytes=32:=ae
theorem in63:tab.info? 63=some ty63.info:=ae
theorem sz63:szT tab 63=some 3:=ae
theorem un22:tab.underlying 22=some (.slice 63):=ae
theorem w58 (f:List Trm) (hl:f.length<=1000000):CKa 35 [vL eY f] (vL eY f):=by
 refine cL 10 [] qf35 Z (nB Z) Z Z (kc (E Z (B.nilS (enc:=eY) Z) (E Z (B.adopt 13 3 63 Z Z) (E Z (B.ju Z un32) (l2 (fun (k:Nat) (o:List Trm)=>[(3,.aref 13 k),(6,vL eY f),(7,vI (f.length:Int)),(8,vI (k:Int))]) (fun k o=>[(13,.arr k 3 63 (List.map eY o))]) (fun k o=>k<=f.length/\o=take k f) (fun k _=>f.length-k) 0 [] Z ?_ (sb Z Z Z) ?_)))))
 · exact⟨zt _,rfl⟩
 intro k o hI0
 have hol:o.length=k:=by rw[hI0.2,zn];omega
 refine Cp Z Z (fun h1=>?_) (fun h1=>?_)
 ·refine E Z (B.idx (z:=trZ) Z Z un32 sz74 (fun _=>rfl) Z cg) (E Z (B.runZ (val:=.pv (.slice (List.map eY [(f.getD k trZ)]))) (m0:=[(24,.arr 0 3 63 [[pS (bsO (Trm.c (f.getD k trZ))),pI (Trm.i (f.getD k trZ)),pI (Trm.j (f.getD k trZ))]])]) (rd:=[]) ae (fun l=>Frz.arr l _ _ _ _ _) Z) (E Z (B.append Z Z Z un22 in63 Z (fun _=>rfl) by63 cg) (E Z (B.add Z Z bg) (pk Z (L2 (k+1) (o++[(f.getD k trZ)]) ?_ ?_ (sb Z Z Z))))))
  · exact⟨aa,ow_s hI0.2 aa⟩
  · omega
 exact Fz 7 3 Z Z Z (Rt Z (lL Z cA))
theorem w86 (a b:List Trm) (hla:a.length<=1000000) (hlb:b.length<=1000000):CKa 34 [vL eY a,vL eY b] (vB (decide (a=b))):=by
 refine cG qf34 Z (nB Z) Z (E Z (B.ju Z un22) (E Z (B.ju Z un22) (Cp Z Z (fun h1=>?_) (fun h1=>?_))))
 ·exact Rt Z (lF Z (lb ff))
 refine l1 (fun (k:Nat)=>[(0,vL eY a),(1,vL eY b),(5,vI (k:Int))]) (fun _=>[]) (fun k=>k<=a.length/\a.length=b.length/\∀ i,i<k->getD a i trZ=getD b i trZ) (fun k=>a.length-k) 0 Z ?_ (sb Z Z Z) ?_
 · exact⟨zt _,aa,fun i hi=>aa⟩
 intro k hI0
 refine E Z (B.ju Z un22) (Cp Z Z (fun h2=>?_) (fun h2=>?_))
 ·refine E Z (B.idx (z:=trZ) Z Z un22 sz63 (fun _=>rfl) Z aa) (E Z (B.idx (z:=trZ) Z Z un22 sz63 (fun _=>rfl) Z aa) (E Z (B.stqN Z Z fq83 (eqv_cons eqv_s (eqv_cons eqv_i (eqv_last eqv_i)))) (Dr Z ae (Cb Z Z (fun h3=>?_) (fun h3=>?_)))))
  ·exact Rt Z (lF Z (lb ff))
  refine E Z (B.add Z Z bg) (pk Z (L1 (k+1) ?_ ?_ (sb Z Z Z)))
  · exact⟨aa,hI0.2.1,sr_n hI0.2.2 (by first|exact zi.1 ab|exact sr_t ab)⟩
  · omega
 exact Rt Z (lF Z (lb ff))
end Go.Lens.Tb
end
section
namespace Go.Lens.Un.R
abbrev K9:Nat:=1000000000
theorem js:2<=K9:=ah
def iL (l:List Nat):List Int:=l.map (fun n:Nat=>(n:Int))
section
variable {l x y o:List Nat} {k i:Nat}
@[simp] theorem iL_nil:iL []=[]:=rfl
theorem qB:(iL l).length=l.length:=by unfold iL;simp
theorem jQ:(iL l).getD k 0=((l.getD k 0:Nat):Int):=by grind [iL]
theorem iL_set {n:Nat}:(iL l).set k (n:Int)=iL (l.set k n):=by unfold iL;rw[KA]
theorem iL_app:iL x++iL y=iL (x++y):=by unfold iL;rw[z8]
theorem iL_take:(iL l).take k=iL (l.take k):=by unfold iL;rw[Ki]
theorem iL_rep:replicate k (0:Int)=iL (replicate k 0):=by unfold iL;rw[XC];rfl
theorem kZ (h:Dg K9 l) (k:Nat):0<=(iL l).getD k 0/\(iL l).getD k 0<1000000000:=by
 rw[jQ]
 have:=h.get ah k
 grind
def TrI (x:List Nat) (w:List Int):Prop:=∃ n,n<=x.length/\w=iL (x.take n)/\val K9 (x.take n)=val K9 x
theorem tr_init:TrI x (iL x):=⟨x.length,zB _,by rw[Jg],by rw[Jg]⟩
theorem tr_next {w:List Int} (h:TrI x w) (h0:0<w.length) (hz:w.getD (w.length-1) 0=0):TrI x (w.take (w.length-1)):=by
 obtain⟨n,h1,rfl,h3⟩:=h
 have hl:(iL (x.take n)).length=n:=by rw[qB,zn];omega
 rw[hl] at h0 hz ⊢
 rw[jQ] at hz
 have hz2:x.getD (n-1) 0=0:=by grind
 refine⟨n-1,aa,?_,trim_next h1 h0 h3 hz2⟩
 rw[iL_take,J7,JK aa]
theorem tr_end {w:List Int} (h:TrI x w) (hx:Dg K9 x) (hz:0<w.length->w.getD (w.length-1) 0≠0):w=iL (dig K9 (val K9 x)):=by
 obtain⟨n,h1,rfl,h3⟩:=h
 have hl:(iL (x.take n)).length=n:=by rw[qB,zn];omega
 rw[hl] at hz
 rw[trim_end js hx h1 h3 (fun h0=>?_)]
 grind [jQ]
end
theorem tr_len {x:List Nat} {w:List Int} (h:TrI x w):w.length<=x.length:=by
 obtain⟨n,h1,rfl,h3⟩:=h
 rw[qB,zn];omega
def sgn (b:Bool) (n:Nat):Int:=if b then -(n:Int) else n
theorem sgn_abs (b:Bool) (n:Nat):(sgn b n).natAbs=n:=by unfold sgn;split<;>omega
theorem Zy (b:Bool) (n:Nat):decide (sgn b n<0)=(b&&decide (0<n)):=by
 unfold sgn
 cases b
 ·simp
 simp
theorem sgn_self (z:Int):sgn (decide (z<0)) z.natAbs=z:=by
 unfold sgn
 grind
theorem ZX {n:Nat}:0<(dig K9 n).length↔0<n:=by
 constructor
 ·intro h
  refine XK fun e=>?_
  grind [jL]
 intro h
 refine XK fun e=>?_
 have:=dig_nil js (QS.1 e);omega
def WhI (z n:Int) (w:List Int):Prop:=∃ o:List Nat,w=iL o/\o++dig K9 n.natAbs=dig K9 z.natAbs
theorem wh_init (z:Int):WhI z z []:=⟨[],rfl,rfl⟩
theorem abs_tmod (n:Int):(n.tmod 1000000000).natAbs=n.natAbs%K9:=by rw[Int.natAbs_tmod];rfl
theorem abs_tdiv (n:Int):(n.tdiv 1000000000).natAbs=n.natAbs / K9:=by rw[Int.natAbs_tdiv];rfl
theorem wh_next {z n d:Int} {w:List Int} (h:WhI z n w) (hn:n≠0) (hd:d=((n.tmod 1000000000).natAbs:Int)):WhI z (n.tdiv 1000000000) (w++[d]):=by
 obtain⟨o,rfl,h⟩:=h
 refine⟨o++[n.natAbs%K9],?_,?_⟩
 ·rw[hd,abs_tmod];unfold iL;rw[z8];rfl
 rw[abs_tdiv,zZ]
 rw[dig_pos js aa] at h
 exact h
theorem wh_end {z:Int} {w:List Int} (h:WhI z 0 w):w=iL (dig K9 z.natAbs):=by
 obtain⟨o,rfl,h⟩:=h
 have e:dig K9 (0:Int).natAbs=[]:=jL _
 grind
theorem nz_ge {o:List Nat} (h:Dg K9 o) (hv:o=[]\/K9 ^ (o.length-1)<=val K9 o):Nz o:=by
 rcases hv with rfl|hv
 ·exact nz_nil
 intro x hx e
 subst e
 obtain⟨hne,hx⟩:=List.getLast?_eq_some_iff.1 hx
 subst hx
 rw[val_snoc,za,KM,KD] at hv
 have:=jR (β:=K9) (l:=hne) (fun y hy=>h y (List.mem_append_left _ hy))
 grind
def AdI (x y:List Nat) (i:Nat) (c:Int) (w:List Int):Prop:=∃ (o:List Nat) (d:Nat),w=iL o/\c=(d:Int)/\o.length=i/\Dg K9 o/\d<=1/\val K9 o+d*K9 ^ i=val K9 (x.take i)+val K9 (y.take i)/\(i=0\/K9 ^ (i-1)<=val K9 x+val K9 y)
section
variable {x y:List Nat} {i:Nat} {c:Int} {w:List Int}
theorem ad_init:AdI x y 0 0 []:=⟨[],0,rfl,rfl,rfl,dg_nil _,aa,by simp[val],.inl rfl⟩
theorem ad_c (h:AdI x y i c w):0<=c/\c<=1/\w.length=i:=by
 obtain⟨o,d,rfl,rfl,h1,_,h2,_⟩:=h
 grind [qB]
theorem ad_big (h:AdI x y i c w) (hnx:Nz x) (hny:Nz y) (hx:Dg K9 x) (hy:Dg K9 y) (hg:i<x.length\/i<y.length\/0<c):K9 ^ i<=val K9 x+val K9 y:=by
 have key:∀ l:List Nat,Nz l->i<l.length->K9 ^ i<=val K9 l:=by
  intro l hl hi
  have h1:=nz_pos js hl (by intro e;rw[e] at hi;cases hi)
  exact qd (Xj ah aa) h1
 by_cases h1:i<x.length
 ·have:=key x hnx h1;omega
 by_cases h2:i<y.length
 ·have:=key y hny h2;omega
 obtain⟨o,d,rfl,rfl,h3,h4,h5,h6,_⟩:=h
 rw[kQ aa,kQ aa] at h6
 grind
theorem ad_next (h:AdI x y i c w) (hx:Dg K9 x) (hy:Dg K9 y) (hb:K9 ^ i<=val K9 x+val K9 y) :
  AdI x y (i+1) (((iL x).getD i 0+(iL y).getD i 0+c) / 1000000000) (w++[((iL x).getD i 0+(iL y).getD i 0+c)%1000000000]):=by
 obtain⟨o,d,rfl,rfl,h1,h2,h3,h4,_⟩:=h
 have a:=hx.get ah i
 have b:=hy.get ah i
 rw[jQ,jQ]
 refine⟨o++[(x.getD i 0+y.getD i 0+d)%K9],(x.getD i 0+y.getD i 0+d) / K9,?_,?_,by simp[h1],h2.app (dg_one (Wu _ ah)),?_,?_,.inr hb⟩
 ·rw[<-iL_app];congr 1
 ·rfl
 ·grind
 rw[val_snoc,jb,jb,h1]
 have e:=JF (x.getD i 0+y.getD i 0+d) K9
 grind
theorem ad_end (h:AdI x y i c w) (h1:¬(i:Int)<(x.length:Int)) (h2:¬(i:Int)<(y.length:Int)) (h3:¬0<c):w=iL (dig K9 (val K9 x+val K9 y)):=by
 obtain⟨o,d,rfl,rfl,h4,h5,h6,h7,h8⟩:=h
 rw[kQ aa,kQ aa] at h7
 have hd:d=0:=aa
 rw[hd,KU,KD] at h7
 rw[<-h7]
 rw[<-dig_val js h5]
 refine nz_ge h5 ?_
 grind
end
def SuI (x y:List Nat) (i:Nat) (b:Int) (w:List Int):Prop:=∃ (o:List Nat) (d:Nat),w=iL o/\b=(d:Int)/\o.length=i/\Dg K9 o/\d<=1/\val K9 o+val K9 (y.take i)=val K9 (x.take i)+d*K9 ^ i
section
variable {x y:List Nat} {i:Nat} {b:Int} {w:List Int}
theorem su_init:SuI x y 0 0 []:=⟨[],0,rfl,rfl,rfl,dg_nil _,aa,by simp[val]⟩
theorem su_b (h:SuI x y i b w):0<=b/\b<=1/\w.length=i:=by
 obtain⟨o,d,rfl,rfl,h1,_,h2,_⟩:=h
 grind [qB]
theorem su_step {s t d e:Nat} (h:SuI x y i b w) (hx:Dg K9 x) (hy:Dg K9 y) (hs:s<K9) (he:e<=1) (heq:(s:Int)+(iL y).getD i 0+b=(iL x).getD i 0+e*1000000000):SuI x y (i+1) (e:Int) (w++[(s:Int)]):=by
 obtain⟨o,d,rfl,rfl,h1,h2,h3,h4⟩:=h
 rw[jQ,jQ] at heq
 have hq:s+y.getD i 0+d=x.getD i 0+e*K9:=by grind
 refine⟨o++[s],e,?_,rfl,by simp[h1],h2.app (dg_one hs),he,?_⟩
 ·rw[<-iL_app];rfl
 rw[val_snoc,jb,jb,h1]
 have e2:e*K9 ^ (i+1)=K9 ^ i*(e*K9):=by rw[KN];ac_rfl
 grind
theorem su_1 (h:SuI x y i b w) (hx:Dg K9 x) (hy:Dg K9 y) (hn:(iL x).getD i 0-(iL y).getD i 0-b<0):SuI x y (i+1) 1 (w++[(iL x).getD i 0-(iL y).getD i 0-b+1000000000]):=by
 have a:=kZ hx i
 have c:=kZ hy i
 have g:=su_b h
 have e:(iL x).getD i 0-(iL y).getD i 0-b+1000000000=(((iL x).getD i 0-(iL y).getD i 0-b+1000000000).toNat:Int):=aa
 rw[e]
 have hk:K9=1000000000:=rfl
 exact su_step (d:=0) (t:=0) (e:=1) h hx hy aa (zB _) aa
theorem su_2 (h:SuI x y i b w) (hx:Dg K9 x) (hy:Dg K9 y) (hn:¬(iL x).getD i 0-(iL y).getD i 0-b<0):SuI x y (i+1) 0 (w++[(iL x).getD i 0-(iL y).getD i 0-b]):=by
 have a:=kZ hx i
 have c:=kZ hy i
 have g:=su_b h
 have e:(iL x).getD i 0-(iL y).getD i 0-b=(((iL x).getD i 0-(iL y).getD i 0-b).toNat:Int):=aa
 rw[e]
 have hk:K9=1000000000:=rfl
 exact su_step (d:=0) (t:=0) (e:=0) h hx hy aa (zt _) aa
theorem su_end (h:SuI x y i b w) (h1:¬(i:Int)<(x.length:Int)) (hl:y.length<=x.length) (hv:val K9 y<=val K9 x):∃ o,w=iL o/\Dg K9 o/\val K9 o=val K9 x-val K9 y:=by
 obtain⟨o,d,rfl,rfl,h4,h5,h6,h7⟩:=h
 rw[kQ aa,kQ aa] at h7
 have hlt:=jR h5
 rw[h4] at hlt
 have hd:d=0:=by grind
 grind
end
end Go.Lens.Un.R
end
section
namespace Go.Lens.Tb
open Go.Proofs Go.Lens.Un
variable [Lz] [Dn]
attribute [local irreducible] TK PK T RG EfR Body CG
open Un Un.R
section
variable {x y:List Nat} {i:Nat} {c z n:Int} {w:List Int}
theorem wh_len (h:WhI z n w) (hz:R64 z):w.length<=3:=by
 obtain⟨o,rfl,h⟩:=h
 have h1:(dig K9 z.natAbs).length<=3:=je js (by unfold R64 at hz;have:K9 ^ 3=1000000000000000000000000000:=ah;omega)
 rw[<-h,za] at h1
 rw[qB];omega
theorem wh_len0 (hz:R64 z):(dig K9 z.natAbs).length<=3:=je js (by
  unfold R64 at hz
  have:K9 ^ 3=1000000000000000000000000000:=ah
  omega)
theorem tm_r (n:Int): -1000000000<n.tmod 1000000000/\n.tmod 1000000000<1000000000:=by
 have:=abs_tmod n
 have h2:n.natAbs%K9<K9:=Wu _ ah
 have:K9=1000000000:=rfl
 omega
theorem td_r (hz:R64 n): -9223372036854775807<=n.tdiv 1000000000/\n.tdiv 1000000000<=9223372036854775807:=by
 have e:=abs_tdiv n
 have h2:n.natAbs / K9<=n.natAbs / 2:=Nat.div_le_div_left ah ah
 unfold R64 at*
 exact⟨aa,aa⟩
theorem ad_i (h:K9 ^ i<=val K9 x+val K9 y) (hx:Dg K9 x) (hy:Dg K9 y):i<=x.length+y.length:=by
 have h1:=jR hx
 have h2:=jR hy
 rcases KJ (x.length+y.length) i with hi|hi
 ·have a1:K9 ^ x.length<=K9 ^ (x.length+y.length):=Xj ah aa
  have a2:K9 ^ y.length<=K9 ^ (x.length+y.length):=Xj ah aa
  have a3:K9 ^ (x.length+y.length+1)<=K9 ^ i:=Xj ah hi
  rw[KN] at a3
  have a4:K9 ^ (x.length+y.length)*2<=K9 ^ (x.length+y.length)*K9:=Xw _ ah
  omega
 exact hi
theorem wh_lt (h:n≠0):(n.tdiv 1000000000).natAbs<n.natAbs:=by
 rw[abs_tdiv];exact JH aa ah
theorem dg_0 (h:¬(i:Int)<(((iL x).length:Nat):Int)):0=(iL x).getD i 0:=by
 rw[ze,List.getElem?_eq_none aa];rfl
theorem ad_g (h:AdI x y i c w) (h1:(bif (bif decide ((i:Int)<(((iL x).length:Nat):Int)) then true else decide ((i:Int)<(((iL y).length:Nat):Int))) then true else decide (0<c))=true) (hnx:Nz x) (hny:Nz y) (hx:Dg K9 x) (hy:Dg K9 y):K9 ^ i<=val K9 x+val K9 y:=by
 rw[qB,qB] at h1
 refine ad_big h hnx hny hx hy ?_
 by_cases a:(i:Int)<(x.length:Int)
 ·exact .inl aa
 by_cases b:(i:Int)<(y.length:Int)
 ·exact .inr (.inl aa)
 rw[zk a,zk b] at h1
 exact .inr (.inr (X6 h1))
theorem ad_f (h:AdI x y i c w) (h1:(bif (bif decide ((i:Int)<(((iL x).length:Nat):Int)) then true else decide ((i:Int)<(((iL y).length:Nat):Int))) then true else decide (0<c))=false):w=iL (dig K9 (val K9 x+val K9 y)):=by
 rw[qB,qB] at h1
 by_cases a:(i:Int)<(x.length:Int)
 ·rw[zl a] at h1;cases h1
 by_cases b:(i:Int)<(y.length:Int)
 ·rw[zk a,zl b] at h1;cases h1
 rw[zk a,zk b] at h1
 exact ad_end h a b (XM h1)
end
theorem sg_1 {b:Bool} {x:List Nat}:DV.pv (.agg [pB (bif b then decide (0<(((iL (dig K9 (val K9 x))).length:Nat):Int)) else false),.slice (List.map eI (iL (dig K9 (val K9 x))))]) =
  .pv (.agg [pB (decide (sgn b (val K9 x)<0)),.slice (List.map eI (iL (dig K9 (natAbs (sgn b (val K9 x))))))]):=by
 rw[Un.R.sgn_abs,Un.R.Zy,qB]
 have e:decide (0<(((dig K9 (val K9 x)).length:Nat):Int))=decide (0<val K9 x):=Jq.2 (by rw[<-ZX];omega)
 rw[e]
 cases b<;>rfl
theorem tr_p {p q:Prop} [Decidable p] [Decidable q] (h:(bif decide p then decide q else false)=true):p/\q:=by
 cases h1:decide p with
 | true=>rw[h1] at h;exact⟨X6 h1,X6 h⟩
 | false=>rw[h1] at h;cases h
theorem tr_q {p q:Prop} [Decidable p] [Decidable q] (h:(bif decide p then decide q else false)=false) (hp:p):¬q:=by
 rw[zl hp] at h;exact XM h
theorem by3:ty3.info.bytes=8:=ae
theorem in3:tab.info? 3=some ty3.info:=ae
theorem w259 (x:List Nat) (hx:Dg K9 x) (hl:x.length<=1000000000):CKa 201 [vL eI (iL x)] (vL eI (iL (dig K9 (val K9 x)))):=by
 refine cG qf201 Z (nB Z) Z (E Z (B.nilS (enc:=eI) Z) (l1 (fun (w:List Int)=>[(0,vL eI w)]) (fun _=>[]) (fun w=>TrI x w) (fun w=>w.length) (iL x) Z ?_ (sb Z Z Z) ?_))
 · exact tr_init
 intro w hI0
 have hwl:=tr_len hI0
 refine E Z (B.ju Z jy) ?_
 refine Em Z Z Z Z ?_
 refine Em Z Z Z Z ?_
 refine Eg Z Z (fun hc=>B.ju (qu Z hc) jy) Z (Eg Z Z (fun hc=>B.sub (qu Z hc) Z bg) Z (Eg Z Z (fun hc=>B.idx (z:=0) (i:=(w.length-1)) (qu Z hc) (qu Z hc) jy sz3 (fun _=>rfl) de de) Z (Eg Z Z (fun hc=>B.loadP (qu Z hc) ag3 sz3) Z (Eg Z Z (fun hc=>B.eql (qu Z hc) Z) Z (E Z (B.pA Z Z Z Z Z) (Cb Z Z (fun h1=>?_) (fun h1=>?_)))))))
 ·have h1a:=(tr_p h1).1
  have h1b:=(tr_p h1).2
  refine E Z (B.ju Z jy) (E Z (B.sub Z Z bg) (E Z (B.slT (j:=(w.length-1)) Z Z jy sz3 de de) (pk Z (L1 (take (w.length-1) w) ?_ ?_ (sb Z Z Z)))))
  · exact tr_next hI0 aa h1b
  · (rw[zn];omega)
 exact Rt Z (lF Z (lsl (by exact tr_end hI0 hx (fun h0=>tr_q h1 aa))))
theorem w215 (b:Bool) (x:List Nat) (hx:Dg K9 x) (hl:x.length<=1000000000):CKa 149 [vB b,vL eI (iL x)] (.pv (.agg [pB (decide ((sgn b (val K9 x))<0)),pL eI (iL (dig K9 (natAbs (sgn b (val K9 x)))))])):=by
 refine cG qf149 Z (nB Z) Z (E Z (B.bN Z Z) (C Z (w259 x ab aa) Z Z Z ?_))
 refine Em Z Z Z Z ?_
 exact Eg Z Z (fun hc=>B.ju (qu Z hc) jy) Z (Eg Z Z (fun hc=>B.gtr (qu Z hc) Z) Z (E Z (B.pA Z Z Z Z Z) (E Z (B.run (val:=.pv (.agg [pB (bif b then (decide (0<(((iL (dig K9 (val K9 x))).length:Nat):Int))) else false),pL eI (iL (dig K9 (val K9 x)))])) (m:=[]) (rd:=[]) ae) (Rt Z (lF Z (by exact sg_1))))))
theorem w215s (z:Int) (hz:R64 z):CKa 149 [vB (decide (z<0)),vL eI (iL (dig K9 (natAbs z)))] (.pv (.agg [pB (decide (z<0)),.slice (List.map eI (iL (dig K9 (natAbs z))))])):=by
 have h:=w215 (decide (z<0)) (dig K9 z.natAbs) (jc js _) (qd (wh_len0 hz) ah)
 rw[qO js,Un.R.sgn_self] at h
 exact h
theorem w153 (z:Int) (hz:R64 z):CKa 127 [vI z] (.pv (.agg [pB (decide (z<0)),pL eI (iL (dig K9 (natAbs z)))])):=by
 refine cG qf127 Z (nB Z) Z (E Z (B.bN Z Z) (E Z (B.adopt 4 1 3 Z Z) (l3 (fun (n:Int) (w:List Int) (v:Nat)=>[(0,vI n),(2,.bref 3 0),(3,.aref 4 v),(4,vB (decide (z<0)))]) (fun _ w v=>[(3,.box 136 [vB false,vL eI []]),(4,.arr v 1 3 (List.map eI w))]) (fun n w _=>WhI z n w/\R64 n) (fun n _ _=>natAbs n) z [] 0 Z ?_ (sb Z Z Z) ?_)))
 · exact⟨wh_init z,hz⟩
 intro n w v hI0
 have hnl:=wh_len hI0.1 hz
 have hq1:=tm_r n
 have hq2:=td_r hI0.2
 have hq3: -9223372036854775808<=n/\n<9223372036854775808:=hI0.2
 refine Cp Z Z (fun h1=>?_) (fun h1=>?_)
 ·refine E Z (B.rem Z Z cg) (Cp Z Z (fun h2=>?_) (fun h2=>?_))
  ·refine E Z (B.sub Z Z bg) (E Z (B.zA (es:=List.map eI [(0-(Int.tmod n 1000000000))]) Z) (E Z (B.append Z Z Z jy in3 Z (fun _=>rfl) by3 cg) (E Z (B.quo Z Z ⟨cg,bg⟩) (pk Z (L3 (Int.tdiv n 1000000000) (w++[(0-(Int.tmod n 1000000000))]) (v+1) ?_ ?_ (sb Z Z Z))))))
   · (exact⟨wh_next hI0.1 h1 aa,by unfold R64;omega⟩)
   · exact wh_lt h1
  refine E Z (B.zA (es:=List.map eI [(Int.tmod n 1000000000)]) Z) (E Z (B.append Z Z Z jy in3 Z (fun _=>rfl) by3 cg) (E Z (B.quo Z Z ⟨cg,bg⟩) (pk Z (L3 (Int.tdiv n 1000000000) (w++[(Int.tmod n 1000000000)]) (v+1) ?_ ?_ (sb Z Z Z)))))
  · (exact⟨wh_next hI0.1 h1 aa,by unfold R64;omega⟩)
  · exact wh_lt h1
 obtain rfl:n=0:=zi.1 h1
 have hwe:=wh_end hI0.1
 subst hwe
 exact Fz 9 3 Z Z Z (C Z (w215s z hz) Z Z Z (Rt Z (lF Z bx)))
theorem w261 (x:List Nat) (i:Nat):CKa 203 [vL eI (iL x),vI (i:Int)] (vI (getD (iL x) i 0)):=by
 refine cG qf203 Z (nB Z) Z (E Z (B.ju Z jy) (Cp Z Z (fun h1=>?_) (fun h1=>?_)))
 ·exact E Z (B.idx (z:=0) Z Z jy sz3 (fun _=>rfl) Z aa) (Rt Z (leaf Z Z))
 exact Rt Z (lF Z (li (by first|rfl|exact dg_0 h1)))
theorem w218 (x y:List Nat) (hx:Dg K9 x) (hy:Dg K9 y) (hxl:x.length<=1000000) (hyl:y.length<=1000000) (hnx:Nz x) (hny:Nz y):CKa 150 [vL eI (iL x),vL eI (iL y)] (vL eI (iL (dig K9 ((val K9 x)+(val K9 y))))):=by
 refine cG qf150 Z (nB Z) Z (E Z (B.nilS (enc:=eI) Z) (E Z (B.adopt 6 1 3 Z Z) (l4 (fun (i:Nat) (c:Int) (w:List Int) (v:Nat)=>[(0,vL eI (iL x)),(1,vL eI (iL y)),(5,.aref 6 v),(6,vI c),(7,vI (i:Int))]) (fun _ _ w v=>[(6,.arr v 1 3 (List.map eI w))]) (fun i c w _=>AdI x y i c w/\i<=x.length+y.length+1) (fun i _ _ _=>x.length+y.length+2-i) 0 0 [] 0 Z ?_ (sb Z Z Z) ?_)))
 · exact⟨ad_init,aa⟩
 intro i c w v hI0
 have hc1:=ad_c hI0.1
 have hxi:=kZ hx i
 have hyi:=kZ hy i
 have hlx:=qB (l:=x)
 have hly:=qB (l:=y)
 refine E Z (B.ju Z jy) ?_
 refine Em Z Z Z Z ?_
 refine Em Z Z Z Z ?_
 refine Eg Z Z (fun hc=>B.ju (qu Z hc) jy) Z (Eg Z Z (fun hc=>B.lss (qu Z hc) (qu Z hc)) Z (E Z (B.pO Z Z Z Z Z) ?_))
 refine Em Z Z Z Z ?_
 refine Eg Z Z (fun hc=>B.gtr (qu Z hc) Z) Z (E Z (B.pO Z Z Z Z Z) (Cb Z Z (fun h1=>?_) (fun h1=>?_)))
 ·have hbg:=ad_g hI0.1 h1 hnx hny hx hy
  have hbi:=ad_i hbg hx hy
  refine C Z (w261 x i) Z Z Z (C Z (w261 y i) Z Z Z (E Z (B.add Z Z bg) (E Z (B.add Z Z bg) (E Z (B.remN Z Z de ah) (E Z (B.zA (es:=List.map eI [((((getD (iL x) i 0)+(getD (iL y) i 0))+c)%1000000000)]) Z) (E Z (B.append Z Z Z jy in3 Z (fun _=>rfl) by3 de) (E Z (B.quoN Z Z de ah bg) (E Z (B.add Z Z bg) (pk Z (L4 (i+1) ((((getD (iL x) i 0)+(getD (iL y) i 0))+c) / 1000000000) (w++[((((getD (iL x) i 0)+(getD (iL y) i 0))+c)%1000000000)]) (v+1) ?_ ?_ (sb Z Z Z)))))))))))
  · exact⟨ad_next hI0.1 hx hy hbg,aa⟩
  · omega
 exact Fz 9 5 Z Z Z (Rt Z (lF Z (lsl (by exact ad_f hI0.1 h1))))
theorem w259w {w:List Int} {n:Nat} (h:∃ o,w=iL o/\Dg K9 o/\val K9 o=n) (hl:w.length<=1000000000):CKa 201 [vL eI w] (vL eI (iL (dig K9 n))):=by
 obtain⟨o,rfl,h1,rfl⟩:=h
 exact w259 o h1 (by rw[qB] at hl;exact hl)
abbrev C9I (m n:Nat) (i:Int):Prop:= -1<=i/\i<(dig K9 m).length/\(dig K9 m).length=(dig K9 n).length/\(dig K9 m).drop (i+1).toNat=(dig K9 n).drop (i+1).toNat
section
variable {m n:Nat} {i:Int}
theorem c9_0 (h:¬(((iL (dig K9 m)).length:Nat):Int)≠(((iL (dig K9 n)).length:Nat):Int)):C9I m n ((((iL (dig K9 m)).length:Nat):Int)-1):=by grind [qB,List.drop_of_length_le]
theorem c9_1 (h:C9I m n i) (h2:0<=i) (h3:¬(iL (dig K9 m)).getD i.toNat 0<(iL (dig K9 n)).getD i.toNat 0) (h4:¬(iL (dig K9 n)).getD i.toNat 0<(iL (dig K9 m)).getD i.toNat 0):C9I m n (i-1):=by
 obtain⟨a,b,c,d⟩:=h
 rw[jQ,jQ] at h3 h4
 refine⟨aa,aa,c,?_⟩
 rw[show (i-1+1).toNat=i.toNat by omega,drop_cons (show i.toNat<(dig K9 m).length by omega),drop_cons (show i.toNat<(dig K9 n).length by omega),show i.toNat+1=(i+1).toNat by omega,d]
 congr 1
 omega
theorem c9_a (h:(((iL (dig K9 m)).length:Nat):Int)<(((iL (dig K9 n)).length:Nat):Int)):(-1:Int)=cmpN m n:=by
 rw[qB,qB] at h
 exact (cmp_lt' (ZN js aa)).symm
theorem c9_b (h:(((iL (dig K9 m)).length:Nat):Int)≠(((iL (dig K9 n)).length:Nat):Int)) (h2:¬(((iL (dig K9 m)).length:Nat):Int)<(((iL (dig K9 n)).length:Nat):Int)):(1:Int)=cmpN m n:=by
 rw[qB,qB] at h h2
 exact (cmp_gt' (ZN js aa)).symm
theorem c9_c (h:C9I m n i) (h2:0<=i) (h3:(iL (dig K9 m)).getD i.toNat 0<(iL (dig K9 n)).getD i.toNat 0):(-1:Int)=cmpN m n:=by
 obtain⟨a,b,c,d⟩:=h
 rw[jQ,jQ] at h3
 have:=cmp_lt (β:=K9) (k:=i.toNat) (jc js m) aa c be aa
 rw[qO js,qO js] at this
 exact (cmp_lt' this).symm
theorem c9_d (h:C9I m n i) (h2:0<=i) (h3:(iL (dig K9 n)).getD i.toNat 0<(iL (dig K9 m)).getD i.toNat 0):(1:Int)=cmpN m n:=by
 obtain⟨a,b,c,d⟩:=h
 rw[jQ,jQ] at h3
 have:=cmp_lt (β:=K9) (k:=i.toNat) (jc js n) aa c.symm bf aa
 rw[qO js,qO js] at this
 exact (cmp_gt' this).symm
theorem c9_e (h:C9I m n i) (h2:¬0<=i):(0:Int)=cmpN m n:=by
 obtain⟨a,b,c,d⟩:=h
 rw[show (i+1).toNat=0 by omega,J3,J3] at d
 have:m=n:=by rw[<-qO js m,<-qO js n,d]
 grind [cmpN]
end
def MuO (x y:List Nat) (i:Nat) (w:List Int):Prop:=∃ o,w=iL o/\MulO K9 x y i o
def MuN (x y:List Nat) (i j:Nat) (w:List Int) (c:Int):Prop:=∃ (o:List Nat) (d:Nat),w=iL o/\c=(d:Int)/\MulN K9 x y i j o d
section
variable {x y:List Nat} {i j:Nat} {w:List Int} {c:Int}
theorem mo_init:MuO x y 0 (replicate ((iL x).length+(iL y).length) 0):=⟨_,by rw[qB,qB,iL_rep],mul_init js⟩
theorem mu_in (h:MuO x y i w):MuN x y i 0 w 0:=by
 obtain⟨o,rfl,h⟩:=h
 exact⟨o,0,rfl,rfl,mul_in js h⟩
theorem mo_l (h:MuO x y i w):w.length=x.length+y.length:=by
 obtain⟨o,rfl,h⟩:=h
 rw[qB];exact h.1
theorem mu_l (h:MuN x y i j w c):w.length=x.length+y.length:=by
 obtain⟨o,d,rfl,rfl,h⟩:=h
 rw[qB];exact h.1
theorem mu_c (h:MuN x y i j w c):0<=c/\c<1000000000:=by
 obtain⟨o,d,rfl,rfl,h⟩:=h
 have:=h.2.2.1
 grind
theorem mu_g (h:MuN x y i j w c) (k:Nat):0<=w.getD k 0/\w.getD k 0<1000000000:=by
 obtain⟨o,d,rfl,rfl,h⟩:=h
 exact kZ h.2.1 k
theorem mu_p {a b:Int} (ha:0<=a/\a<1000000000) (hb:0<=b/\b<1000000000):0<=a*b/\a*b<=999999999*999999999:=
 ⟨JV ha.1 hb.1,Int.mul_le_mul aa aa hb.1 ah⟩
theorem mu_0 (h:MuN x y i j w c):w.getD (i+(iL y).length) 0=0:=by
 obtain⟨o,d,rfl,rfl,h⟩:=h
 rw[jQ,qB,h.2.2.2.2 _ (zB _)];rfl
theorem mu_next (h:MuN x y i j w c) (hx:Dg K9 x) (hy:Dg K9 y) (hi:i<x.length) (hj:j<y.length) :
  MuN x y i (j+1) (w.set (i+j) ((w.getD (i+j) 0+(iL x).getD i 0*(iL y).getD j 0+c)%1000000000)) ((w.getD (i+j) 0+(iL x).getD i 0*(iL y).getD j 0+c) / 1000000000):=by
 obtain⟨o,d,rfl,rfl,h⟩:=h
 have e:(iL o).getD (i+j) 0+(iL x).getD i 0*(iL y).getD j 0+(d:Int)=((x.getD i 0*y.getD j 0+o.getD (i+j) 0+d:Nat):Int):=by grind [jQ,Int.natCast_add,Int.natCast_mul]
 rw[e]
 refine⟨_,_,?_,?_,mul_next js h hx hy hi hj⟩
 ·rw[<-iL_set];rfl
 rfl
theorem mo_next (h:MuN x y i j w c) (hi:i<x.length) (hj:¬j<y.length) (hj2:j<=y.length):MuO x y (i+1) (w.set (i+(iL y).length) (w.getD (i+(iL y).length) 0+c)):=by
 rw[mu_0 h,Kw]
 obtain⟨o,d,rfl,rfl,h⟩:=h
 exact⟨_,by rw[qB,iL_set],mul_out js h hi hj hj2⟩
theorem mu_end (h:MuO x y i w) (hi:¬i<x.length):∃ o,w=iL o/\Dg K9 o/\val K9 o=val K9 x*val K9 y:=by
 obtain⟨o,rfl,h⟩:=h
 obtain⟨h1,h2⟩:=mul_end h hi
 exact⟨o,rfl,h1,h2⟩
end
theorem w220 (x y:List Nat) (hx:Dg K9 x) (hy:Dg K9 y) (hxl:x.length<=1000000) (hyl:y.length<=1000000) (hyx:y.length<=x.length) (hv:val K9 y<=val K9 x):CKa 152 [vL eI (iL x),vL eI (iL y)] (vL eI (iL (dig K9 ((val K9 x)-(val K9 y))))):=by
 refine cG qf152 Z (nB Z) Z (E Z (B.nilS (enc:=eI) Z) (E Z (B.adopt 6 1 3 Z Z) (l4 (fun (i:Nat) (b:Int) (w:List Int) (v:Nat)=>[(0,vL eI (iL x)),(1,vL eI (iL y)),(5,.aref 6 v),(6,vI b),(7,vI (i:Int))]) (fun _ _ w v=>[(6,.arr v 1 3 (List.map eI w))]) (fun i b w _=>SuI x y i b w/\i<=x.length) (fun i _ _ _=>x.length-i) 0 0 [] 0 Z ?_ (sb Z Z Z) ?_)))
 · exact⟨su_init,aa⟩
 intro i b w v hI0
 have hc1:=su_b hI0.1
 have hxi:=kZ hx i
 have hyi:=kZ hy i
 have hlx:=qB (l:=x)
 have hly:=qB (l:=y)
 refine E Z (B.ju Z jy) (Cp Z Z (fun h1=>?_) (fun h1=>?_))
 ·refine E Z (B.idx (z:=0) Z Z jy sz3 (fun _=>rfl) Z cg) (C Z (w261 y i) Z Z Z (E Z (B.sub Z Z bg) (E Z (B.sub Z Z bg) (Dr Z ae (Cp Z Z (fun h2=>?_) (fun h2=>?_))))))
  ·refine E Z (B.add Z Z bg) (E Z (B.zA (es:=List.map eI [((((getD (iL x) i 0)-(getD (iL y) i 0))-b)+1000000000)]) Z) (E Z (B.append Z Z Z jy in3 Z (fun _=>rfl) by3 cg) (E Z (B.add Z Z bg) (pk Z (L4 (i+1) 1 (w++[((((getD (iL x) i 0)-(getD (iL y) i 0))-b)+1000000000)]) (v+1) ?_ ?_ (sb Z Z Z))))))
   · first|exact⟨su_1 hI0.1 hx hy ab,aa⟩|exact⟨su_2 hI0.1 hx hy ab,aa⟩
   · omega
  refine E Z (B.zA (es:=List.map eI [(((getD (iL x) i 0)-(getD (iL y) i 0))-b)]) Z) (E Z (B.append Z Z Z jy in3 Z (fun _=>rfl) by3 cg) (E Z (B.add Z Z bg) (pk Z (L4 (i+1) 0 (w++[(((getD (iL x) i 0)-(getD (iL y) i 0))-b)]) (v+1) ?_ ?_ (sb Z Z Z)))))
  · first|exact⟨su_1 hI0.1 hx hy ab,aa⟩|exact⟨su_2 hI0.1 hx hy ab,aa⟩
  · omega
 have hw:=su_end hI0.1 aa hyx hv
 have hwl:w.length<=1000000000:=aa
 exact Fz 12 5 Z Z Z (C Z (w259w hw hwl) Z Z Z (Rt Z (lF Z (lsl bx))))
theorem w219 (m n:Nat) (hm:(dig K9 m).length<=1000000000000) (hn:(dig K9 n).length<=1000000000000):CKa 151 [vL eI (iL (dig K9 m)),vL eI (iL (dig K9 n))] (vI (cmpN m n)):=by
 refine cG qf151 Z (nB Z) Z (E Z (B.ju Z jy) (E Z (B.ju Z jy) (Cp Z Z (fun h1=>?_) (fun h1=>?_))))
 ·refine E Z (B.ju Z jy) (E Z (B.ju Z jy) (Cp Z Z (fun h2=>?_) (fun h2=>?_)))
  ·exact Rt Z (lF Z (li df))
  exact Rt Z (lF Z (li df))
 have hlx:=qB (l:=dig K9 m)
 have hly:=qB (l:=dig K9 n)
 refine E Z (B.ju Z jy) (E Z (B.sub Z Z bg) (l1 (fun (i:Int)=>[(0,vL eI (iL (dig K9 m))),(1,vL eI (iL (dig K9 n))),(5,vI i)]) (fun _=>[]) (fun i=>C9I m n i) (fun i=>toNat (i+1)) (((iL (dig K9 m)).length:Int)-1) Z ?_ (sb Z Z Z) ?_))
 · exact c9_0 h1
 intro i hI0
 have hc1:=hI0.1
 have hc2:=hI0.2.1
 have hc3:=hI0.2.2.1
 have hlx:=qB (l:=dig K9 m)
 have hly:=qB (l:=dig K9 n)
 refine Cp Z Z (fun h3=>?_) (fun h3=>?_)
 ·refine E Z (B.idx (z:=0) Z Z jy sz3 (fun _=>rfl) (Xl dg).symm dg) (E Z (B.idx (z:=0) Z Z jy sz3 (fun _=>rfl) (Xl dg).symm dg) (Dr Z ae (Cp Z Z (fun h4=>?_) (fun h4=>?_))))
  ·exact Rt Z (lF Z (li df))
  refine E Z (B.idx (z:=0) Z Z jy sz3 (fun _=>rfl) (Xl dg).symm dg) (E Z (B.idx (z:=0) Z Z jy sz3 (fun _=>rfl) (Xl dg).symm dg) (Dr Z ae (Cp Z Z (fun h5=>?_) (fun h5=>?_))))
  ·exact Rt Z (lF Z (li df))
  refine E Z (B.sub Z Z bg) (pk Z (L1 (i-1) ?_ ?_ (sb Z Z Z)))
  · exact c9_1 hI0 h3 h4 h5
  · omega
 exact Rt Z (lF Z (li df))
theorem w221 (x y:List Nat) (hx:Dg K9 x) (hy:Dg K9 y) (hxl:x.length<=1000000) (hyl:y.length<=1000000):CKa 153 [vL eI (iL x),vL eI (iL y)] (vL eI (iL (dig K9 ((val K9 x)*(val K9 y))))):=by
 refine cG qf153 Z (nB Z) Z (E Z (B.nilS (enc:=eI) Z) ?_)
 have hlx:=qB (l:=x)
 have hly:=qB (l:=y)
 refine E Z (B.ju Z jy) (E Z (B.ju Z jy) (E Z (B.add Z Z bg) (E Z (B.makeSV (enc:=eI) (sz:=1) (z0:=0) (n:=((iL x).length+(iL y).length)) (m:=((iL x).length+(iL y).length)) Z Z aa aa jy in3 Z Z Z by3 dh Z Z) (l2 (fun (i:Nat) (out:List Int)=>[(0,vL eI (iL x)),(1,vL eI (iL y)),(5,.aref 16 0),(6,vI (i:Int))]) (fun _ out=>[(16,.arr 0 1 3 (List.map eI out))]) (fun i out=>i<=x.length/\MuO x y i out) (fun i _=>x.length-i) 0 (replicate ((iL x).length+(iL y).length) 0) Z ?_ (sb Z Z Z) ?_))))
 · exact⟨zt _,mo_init⟩
 intro i out hI0
 have hlx:=qB (l:=x)
 have hly:=qB (l:=y)
 refine E Z (B.ju Z jy) (Cp Z Z (fun h1=>?_) (fun h1=>?_))
 ·refine l3 (fun (j:Nat) (c:Int) (w:List Int)=>[(0,vL eI (iL x)),(1,vL eI (iL y)),(5,.aref 16 0),(6,vI (i:Int)),(7,vI c),(8,vI (j:Int))]) (fun _ _ w=>[(16,.arr 0 1 3 (List.map eI w))]) (fun j c w=>j<=y.length/\MuN x y i j w c) (fun j _ _=>y.length-j) 0 0 out Z ?_ (sb Z Z Z) ?_
  · exact⟨zt _,mu_in hI0.2⟩
  intro j c w hI1
  refine E Z (B.ju Z jy) (Cp Z Z (fun h2=>?_) (fun h2=>?_))
  ·have hxi:=kZ hx i
   have hyj:=kZ hy j
   have hwk:=mu_g hI1.2 (i+j)
   have hcc:=mu_c hI1.2
   have hpr:=mu_p hxi hyj
   have hwz:=mu_l hI1.2
   refine E Z (B.add Z Z bg) (E Z (B.idxE (n:=(i+j)) Z Z Z jy sz3 aa dh) (E Z (B.loadE (z0:=0) Z Z ag3 sz3 dh Z) (E Z (B.idx (z:=0) Z Z jy sz3 (fun _=>rfl) Z dh) (E Z (B.idx (z:=0) Z Z jy sz3 (fun _=>rfl) Z dh) (E Z (B.mul Z Z bg) (E Z (B.add Z Z bg) (E Z (B.add Z Z bg) (Dr Z ae ?_))))))))
   have hwz:=mu_l hI1.2
   refine E Z (B.add Z Z bg) (E Z (B.remN Z Z dh ah) (E Z (B.idxE (n:=(i+j)) Z Z Z jy sz3 aa dh) (E Z (B.setE (z0:=((((w.getD (i+j) 0)+((getD (iL x) i 0)*(getD (iL y) j 0)))+c)%1000000000)) Z Z Z Z Z sz3 dh (fun _=>rfl)) (E Z (B.quoN Z Z dh ah bg) (E Z (B.add Z Z bg) (pk Z (L3 (j+1) ((((w.getD (i+j) 0)+((getD (iL x) i 0)*(getD (iL y) j 0)))+c) / 1000000000) (List.set w (i+j) ((((w.getD (i+j) 0)+((getD (iL x) i 0)*(getD (iL y) j 0)))+c)%1000000000)) ?_ ?_ (sb Z Z Z))))))))
   · exact⟨aa,mu_next hI1.2 hx hy aa aa⟩
   · omega
  have hwz:=mu_l hI1.2
  have hw0:=mu_0 hI1.2
  have hcc:=mu_c hI1.2
  refine E Z (B.ju Z jy) (E Z (B.add Z Z bg) (E Z (B.ju Z jy) (E Z (B.add Z Z bg) (E Z (B.idxE (n:=(i+(iL y).length)) Z Z Z jy sz3 aa dh) (E Z (B.loadE (z0:=0) Z Z ag3 sz3 dh Z) (E Z (B.add Z Z bg) (E Z (B.idxE (n:=(i+(iL y).length)) Z Z Z jy sz3 aa dh) (E Z (B.setE (z0:=((w.getD (i+(iL y).length) 0)+c)) Z Z Z Z Z sz3 dh (fun _=>rfl)) (E Z (B.add Z Z bg) (pk Z (L2 (i+1) (List.set w (i+(iL y).length) ((w.getD (i+(iL y).length) 0)+c)) ?_ ?_ (sb Z Z Z))))))))))))
  · exact⟨aa,mo_next hI1.2 aa aa hI1.1⟩
  · omega
 have hw:=mu_end hI0.2 aa
 have hwl:out.length<=1000000000:=by have:=mo_l hI0.2;omega
 exact Fz 13 5 Z Z Z (C Z (w259w hw hwl) Z Z Z (Rt Z (lF Z (lsl bx))))
end Go.Lens.Tb
end
section
namespace Go.Lens.Un.R
abbrev b9:Int:=1000000000
def vI:List Int->Int
 | []=>0
 | x::l=>x+b9*vI l
theorem vI_iL:∀ l:List Nat,vI (iL l)=((val K9 l:Nat):Int)
 | []=>rfl
 | x::l=>by
  show (x:Int)+b9*vI (iL l)=_
  rw[vI_iL l,val,Jw,Jx];rfl
theorem vI_set:∀ {w:List Int} {k:Nat} (x:Int),k<w.length->vI (w.set k x)=vI w+b9 ^ k*(x-w.getD k 0)
 | [],k,x,h=>by cases h
 | y::w,0,x,h=>by
  simp only[XE,vI,Xp,Kv,Int.one_mul];omega
 | y::w,k+1,x,h=>by
  simp only[XD,vI,List.getD_cons_succ,Ku]
  rw[vI_set x ai]
  generalize b9=b at*
  grind
def DI (w:List Int):Prop:=∀ k,0<=w.getD k 0/\w.getD k 0<1000000000
theorem DI_iL {l:List Nat} (h:Dg K9 l):DI (iL l):=fun k=>kZ h k
theorem jY {w:List Int} {k i:Nat} {x:Int} (h:k≠i):(w.set k x).getD i 0=w.getD i 0:=by grind
theorem DI_nat:∀ {w:List Int},DI w->∃ o,w=iL o/\Dg K9 o
 | [],_=>⟨[],rfl,dg_nil _⟩
 | x::w,h=>by
  obtain⟨o,e,ho⟩:=DI_nat (w:=w) fun k=>by have:=h (k+1);simpa using this
  have h0:=h 0
  simp only[Xp] at h0
  refine⟨x.toNat::o,?_,fun y hy=>?_⟩
  ·show x::w=(x.toNat:Int)::iL o
   rw[<-e,Xl h0.1]
  rcases zF.1 hy with rfl|hy
  ·grind
  exact ho y hy
theorem vI_cut:∀ {w:List Int} {m:Nat},(∀ k,k<m->0<=w.getD k 0/\w.getD k 0<1000000000)->(∀ k,m<k->w.getD k 0=0)->∃ X,0<=X/\X<b9 ^ m/\vI w=X+b9 ^ m*w.getD m 0
 | [],m,_,_=>⟨0,aa,K8 ah,by simp[vI]⟩
 | x::w,0,_,h=>⟨0,aa,ah,by
   have hz:∀ (w:List Int),(∀ k,w.getD k 0=0)->vI w=0:=by
    intro w
    induction w with
    | nil=>intro _;rfl
    | cons y w ih=>
     intro h
     have h0:=h 0
     simp only[Xp] at h0
     rw[vI,ih (fun k=>by have:=h (k+1);simpa using this),h0];rfl
   have:=hz w (fun k=>by have:=h (k+1) aa;simpa using this)
   rw[vI,this];simp⟩
 | x::w,m+1,h,g=>by
  obtain⟨X,h1,h2,h3⟩:=vI_cut (w:=w) (m:=m) (fun k hk=>by have:=h (k+1) aa;simpa using this) (fun k hk=>by have:=g (k+1) aa;simpa using this)
  have h0:=h 0 aa
  simp only[Xp] at h0
  refine⟨x+b9*X,?_,?_,?_⟩
  ·have:0<=b9*X:=JV ah h1
   omega
  ·rw[Ku]
   have:b9*(X+1)<=b9*b9 ^ m:=Qk aa ah
   have e:b9 ^ m*b9=b9*b9 ^ m:=Int.mul_comm _ _
   have e2:b9*(X+1)=b9*X+b9:=by rw[Int.mul_add,K5]
   have e3:b9=1000000000:=rfl
   omega
  simp only[vI,List.getD_cons_succ,Ku]
  rw[h3]
  generalize b9=b at*
  grind
structure SbI (v:List Nat) (un:List Nat) (t:Int) (j n:Nat) (i:Nat) (c:Int) (w:List Int):Prop where
 len:w.length=un.length
 dig:DI w
 c0:0<=c
 c1:c<=1000000000
 le:i<=n
 eq:vI w=vI (iL un)-b9 ^ j*(t*((val K9 (v.take i):Nat):Int))+c*b9 ^ (j+i)
 up:∀ k,j+i<=k->w.getD k 0=(iL un).getD k 0
section
variable {v un:List Nat} {t:Int} {j n i:Nat} {c p:Int} {w:List Int}
theorem sb_init (hu:Dg K9 un):SbI v un t j n 0 0 (iL un):=
 ⟨by rw[qB],DI_iL hu,aa,aa,aa,by simp[val],fun _ _=>rfl⟩
theorem sb_gen {e:Int} (h:SbI v un t j n i c w) (hi:i<n) (hl:j+i<un.length) (hp:p=t*(iL v).getD i 0+c) (hc0:0<=p / 1000000000+e) (hc1:p / 1000000000+e<=1000000000)
  (hx0:0<=w.getD (i+j) 0-p%1000000000+e*1000000000) (hx1:w.getD (i+j) 0-p%1000000000+e*1000000000<1000000000) :
  SbI v un t j n (i+1) (p / 1000000000+e) (w.set (i+j) (w.getD (i+j) 0-p%1000000000+e*1000000000)):=by
 have hk:i+j=j+i:=KC ..
 rw[hk] at hx0 hx1 ⊢
 refine⟨by rw[JB];exact h.len,fun k=>?_,hc0,hc1,aa,?_,fun k hk=>?_⟩
 ·by_cases hk:j+i=k
  ·grind
  rw[jY hk];exact h.dig k
 ·rw[vI_set _ (by rw[h.len];exact hl),h.eq,jb,<-Nat.add_assoc,Ku,Jw,Jx,Jy]
  have d:=Int.emod_add_mul_ediv p 1000000000
  rw[jQ] at hp
  grind
 rw[jY aa];exact h.up k aa
theorem sb_p (h:SbI v un t j n i c w) (ht:0<=t/\t<1000000000) (hv:Dg K9 v):0<=t*(iL v).getD i 0/\t*(iL v).getD i 0<=999999999*999999999:=by
 have hx:=kZ hv i
 exact⟨JV ht.1 hx.1,Int.mul_le_mul aa aa hx.1 ah⟩
theorem sb_1 (h:SbI v un t j n i c w) (ht:0<=t/\t<1000000000) (hv:Dg K9 v) (hi:i<n) (hl:j+i<un.length) (hn:w.getD (i+j) 0-(t*(iL v).getD i 0+c)%1000000000<0) :
  SbI v un t j n (i+1) ((t*(iL v).getD i 0+c) / 1000000000+1) (w.set (i+j) (w.getD (i+j) 0-(t*(iL v).getD i 0+c)%1000000000+1000000000)):=by
 have h1:=sb_p h ht hv
 have h2:=h.c0
 have h3:=h.c1
 have h4:=h.dig (i+j)
 have:=sb_gen (e:=1) h hi hl Z aa aa aa aa
 grind
theorem sb_2 (h:SbI v un t j n i c w) (ht:0<=t/\t<1000000000) (hv:Dg K9 v) (hi:i<n) (hl:j+i<un.length) (hn:¬w.getD (i+j) 0-(t*(iL v).getD i 0+c)%1000000000<0) :
  SbI v un t j n (i+1) ((t*(iL v).getD i 0+c) / 1000000000) (w.set (i+j) (w.getD (i+j) 0-(t*(iL v).getD i 0+c)%1000000000)):=by
 have h1:=sb_p h ht hv
 have h2:=h.c0
 have h3:=h.c1
 have h4:=h.dig (i+j)
 have:=sb_gen (e:=0) h hi hl Z aa aa aa aa
 grind
end
structure MdI (v:List Nat) (un:List Nat) (t:Int) (j n:Nat) (w:List Int):Prop where
 len:w.length=un.length
 dig:∀ k,k≠j+n->0<=w.getD k 0/\w.getD k 0<1000000000
 top:w.getD (j+n) 0<1000000000
 low: -1000000000<=w.getD (j+n) 0
 eq:vI w=vI (iL un)-b9 ^ j*(t*((val K9 v:Nat):Int))
 up:∀ k,j+n<k->w.getD k 0=(iL un).getD k 0
section
variable {v un:List Nat} {t:Int} {j n i:Nat} {c p:Int} {w:List Int}
theorem md_of (h:SbI v un t j n i c w) (hi:¬i<n) (hn:v.length=n) (hl:j+n<un.length):MdI v un t j n (w.set (j+n) (w.getD (j+n) 0-c)):=by
 have e:i=n:=by have:=h.le;omega
 subst e
 have h1:=h.dig (j+i)
 have h2:=h.c0
 have h3:=h.c1
 refine⟨by rw[JB];exact h.len,fun k hk=>?_,?_,?_,?_,fun k hk=>?_⟩
 ·rw[jY aa];exact h.dig k
 ·grind
 ·grind
 ·rw[vI_set _ (by rw[h.len];exact hl),h.eq,zz aa]
  generalize b9=b at*
  grind
 rw[jY aa];exact h.up k aa
end
structure AbI (v:List Nat) (w1:List Int) (j n:Nat) (i:Nat) (d:Int) (w:List Int):Prop where
 len:w.length=w1.length
 dig:∀ k,k≠j+n->0<=w.getD k 0/\w.getD k 0<1000000000
 d0:0<=d
 d1:d<=1
 le:i<=n
 eq:vI w=vI w1+b9 ^ j*((val K9 (v.take i):Nat):Int)-d*b9 ^ (j+i)
 up:∀ k,j+i<=k->w.getD k 0=w1.getD k 0
section
variable {v un:List Nat} {w1:List Int} {t:Int} {j n i:Nat} {d p:Int} {w:List Int}
theorem ab_init (h:MdI v un t j n w1):AbI v w1 j n 0 0 w1:=
 ⟨rfl,h.dig,aa,aa,aa,by simp[val],fun _ _=>rfl⟩
theorem ab_next (h:AbI v w1 j n i d w) (hv:Dg K9 v) (hi:i<n) (hl:j+n<w1.length) :
  AbI v w1 j n (i+1) ((w.getD (i+j) 0+(iL v).getD i 0+d) / 1000000000) (w.set (i+j) ((w.getD (i+j) 0+(iL v).getD i 0+d)%1000000000)):=by
 have hk:i+j=j+i:=KC ..
 rw[hk]
 have h1:=h.dig (j+i) aa
 have h2:=kZ hv i
 have h3:=h.d0
 have h4:=h.d1
 refine⟨by rw[JB];exact h.len,fun k hk=>?_,aa,aa,aa,?_,fun k hk=>?_⟩
 ·by_cases hk2:j+i=k
  ·grind
  rw[jY hk2];exact h.dig k hk
 ·rw[vI_set _ (by rw[h.len];omega),h.eq,jb,<-Nat.add_assoc,Ku,Jw,Jx,Jy]
  have q:=Int.emod_add_mul_ediv (w.getD (j+i) 0+(iL v).getD i 0+d) 1000000000
  rw[jQ] at q ⊢
  grind
 rw[jY aa];exact h.up k aa
end
def gsl (v1 v2 u2 t r:Int):Int:=
 if h:(1000000000<=t\/r*1000000000+u2<t*v2)/\0<v1 then
  if h2:1000000000<=r+v1 then t-1 else gsl v1 v2 u2 (t-1) (r+v1)
 else t
termination_by (1000000000-r).toNat
decreasing_by omega
section
variable {β W V top u2 v1 v2 w0 v0 m:Nat}
theorem gsl_ok (hk:(β:Int)=1000000000) (hW:W=(top*β+u2)*β ^ m+w0) (hV:V=(v1*β+v2)*β ^ m+v0) (hu:u2<β) (hw:w0<β ^ m) (hv0:v0<β ^ m) (h1:0<v1) (hv2:v2<β) (hQ:W<β*V) :
  ∀ (k q r:Nat),(1000000000-(r:Int)).toNat<=k->q*v1+r=top->W / V<=q->r<β->∃ g:Nat,gsl v1 v2 u2 q r=(g:Int)/\W / V<=g/\g<=W / V+1/\g<β:=by
 have hβ:2<=β:=aa
 have hp:0<β ^ m:=Wj aa
 have hVp:0<V:=by grind
 have hlt:W / V<β:=Xg (by rw[KL];exact hQ)
 have htop:top<=v1*β+v2:=by
  rcases KJ (v1*β+v2) top with h|h
  ·have a1:(v1*β+v2+1)*β*β ^ m<=top*β*β ^ m:=Xh _ (Xh _ h)
   have a2:top*β*β ^ m<=W:=by rw[hW,Wa];omega
   have a3:β*V<β*((v1*β+v2+1)*β ^ m):=by
    refine Nat.mul_lt_mul_of_pos_left ?_ aa
    grind
   grind
  exact h
 intro k
 induction k with
 | zero=>
  intro q r h2 h3 h4 h5
  omega
 | succ k ih=>
  intro q r h2 h3 h4 h5
  by_cases hc:1000000000<=(q:Int)\/(r:Int)*1000000000+u2<q*v2
  ·have hstep:1<=q/\W / V<=q-1:=by
    by_cases hq:β<=q
    ·omega
    rcases hc with hc|hc
    ·omega
    have hc':r*β+u2<q*v2:=by
     have:((r*β+u2:Nat):Int)<((q*v2:Nat):Int):=by rw[Jw,Jx,Jx,hk];exact hc
     omega
    have:=guess_less hW hV hw (show GI β v1 top (W / V) q r from ⟨h3,h4,aa⟩) hc'
    exact⟨this.1,this.2.2.1⟩
   obtain⟨s1,s2⟩:=hstep
   have hs:(q-1)*v1+(r+v1)=top:=by
    obtain⟨p,rfl⟩:∃ p,q=p+1:=⟨q-1,aa⟩
    rw[XF];rw[Wa] at h3;omega
   by_cases h6:(1000000000:Int)<=(r:Int)+v1
   ·refine⟨q-1,?_,?_⟩
    ·rw[gsl,WI ⟨hc,aa⟩,WI h6];omega
    have hlt2:q-1<β:=by
     refine Nat.lt_of_mul_lt_mul_right (a:=v1) ?_
     rw[KL β v1]
     omega
    exact guess_end hβ hW hV hv2 hv0 h1 ⟨hs,s2,hlt2⟩ (.inl aa)
   obtain⟨g,e,h7⟩:=ih (q-1) (r+v1) aa hs s2 aa
   refine⟨g,?_,h7⟩
   rw[gsl,WI ⟨hc,aa⟩,WH h6,<-e]
   congr 1<;>omega
  refine⟨q,?_,?_⟩
  ·rw[gsl,WH (fun h=>hc h.1)]
  have hq:q<β:=aa
  have hc':q*v2<=r*β+u2:=by
   have:((q*v2:Nat):Int)<=((r*β+u2:Nat):Int):=by rw[Jw,Jx,Jx,hk];omega
   omega
  exact guess_end hβ hW hV hv2 hv0 h1 ⟨h3,h4,hq⟩ (.inr hc')
end
theorem val_3 {l:List Nat} {m:Nat} (h:m+2<l.length) (hl:l.length=m+3):val K9 l=((l.getD (m+2) 0*K9+l.getD (m+1) 0)*K9+l.getD m 0)*K9 ^ m+val K9 (l.take m):=by
 rw[kh hl,jb,jb,KN,KN]
 generalize K9=b at*
 grind
theorem val_2 {l:List Nat} {m:Nat} (hl:l.length=m+2):val K9 l=(l.getD (m+1) 0*K9+l.getD m 0)*K9 ^ m+val K9 (l.take m):=by
 rw[kh hl,jb,KN]
 generalize K9=b at*
 grind
def gsT (un v:List Nat) (j:Nat):Int:=
 gsl ((iL v).getD (v.length-1) 0) ((iL v).getD (v.length-2) 0) ((iL un).getD (j+v.length-2) 0)
  (Int.tdiv ((iL un).getD (j+v.length) 0*1000000000+(iL un).getD (j+v.length-1) 0) ((iL v).getD (v.length-1) 0))
  (Int.tmod ((iL un).getD (j+v.length) 0*1000000000+(iL un).getD (j+v.length-1) 0) ((iL v).getD (v.length-1) 0))
section
variable {un v q:List Nat} {A j n:Nat}
theorem win_get {l:List Nat} {j n i:Nat} (hi:i<=n):((l.drop j).take (n+1)).getD i 0=l.getD (j+i) 0:=by grind
theorem gsT_ok (h:LdI K9 A v (j+1) un q) (hv:Dg K9 v) (hn:v.length=n) (h2:2<=n) (hl:j+n+1<=un.length) (h1:0<v.getD (n-1) 0) :
  ∃ g:Nat,gsT un v j=(g:Int)/\val K9 ((un.drop j).take (n+1)) / val K9 v<=g/\g<=val K9 ((un.drop j).take (n+1)) / val K9 v+1/\g<K9:=by
 obtain⟨w1,w2,w3⟩:=ld_win js h hv hn hl
 have hud:=h.1
 obtain⟨m,rfl⟩:∃ m,n=m+2:=⟨n-2,aa⟩
 have hwl:((un.drop j).take (m+2+1)).length=m+3:=by grind
 have hwd:Dg K9 ((un.drop j).take (m+2+1)):=(hud.drop _).take _
 have hW:=val_3 aa hwl
 rw[win_get aa,win_get aa,win_get aa] at hW
 have hV:=val_2 hn
 have lw:=jR (hwd.take m)
 rw[zn,JK aa] at lw
 have lv:=jR (hv.take m)
 rw[zn,JK aa] at lv
 have b1:=hud.get ah (j+m)
 have b2:=hv.get ah m
 have hv1:0<v.getD (m+1) 0:=h1
 have hv1l:=hv.get (show 0<K9 by decide) (m+1)
 generalize val K9 ((un.drop j).take (m+2+1))=W at*
 generalize val K9 v=V at*
 have key:=gsl_ok (β:=K9) Z hW hV b1 lw lv hv1 b2 w1 _ ((un.getD (j+(m+2)) 0*K9+un.getD (j+(m+1)) 0) / v.getD (m+1) 0) ((un.getD (j+(m+2)) 0*K9+un.getD (j+(m+1)) 0)%v.getD (m+1) 0) (zB _) (Jh _ _) ?_ (KK (Wu _ hv1) hv1l)
 ·obtain⟨g,e,h7⟩:=key
  refine⟨g,?_,h7⟩
  rw[<-e]
  unfold gsT
  rw[hn,show m+2-1=m+1 by omega,show m+2-2=m by omega,show j+(m+2)-1=j+(m+1) by omega,show j+(m+2)-2=j+m by omega,jQ,jQ,jQ,jQ,jQ]
  have et:((un.getD (j+(m+2)) 0:Nat):Int)*1000000000+((un.getD (j+(m+1)) 0:Nat):Int)=((un.getD (j+(m+2)) 0*K9+un.getD (j+(m+1)) 0:Nat):Int):=by rw[Jw,Jx];rfl
  rw[et,Qt aa,Qu aa]
  rfl
 by_cases hq:(un.getD (j+(m+2)) 0*K9+un.getD (j+(m+1)) 0) / v.getD (m+1) 0<K9
 ·exact (guess_div js hW hV b1 lw hv1 hq).2.1
 have:W / V<K9:=Xg aX
 omega
theorem ld_val (h:LdI K9 A v (j+1) un q) (hv:Dg K9 v) (hn:v.length=n) (hl:j+n+1<=un.length) (hq:j<q.length) (hV:0<val K9 v) {X:List Nat} (hX:Dg K9 X) (eX:val K9 X=val K9 (un.take j)+K9 ^ j*(val K9 ((un.drop j).take (n+1))%val K9 v)) :
  LdI K9 A v j X (q.set j (val K9 ((un.drop j).take (n+1)) / val K9 v)):=by
 obtain⟨w1,w2,w3⟩:=ld_win js h hv hn hl
 obtain⟨h1,h2,h3,h4⟩:=h
 generalize val K9 ((un.drop j).take (n+1))=W at*
 have hR:=Wu W hV
 have hlt:W / val K9 v<K9:=Xg aX
 have ht:=jR (h1.take j)
 rw[zn,JK aa] at ht
 refine⟨hX,h2.set hlt,?_,?_⟩
 ·rw[eX]
  have g:=Xw (K9 ^ j) (show W%val K9 v+1<=val K9 v from hR)
  generalize K9=b at*
  grind
 have hs:j<(q.set j (W / val K9 v)).length:=by rw[JB];exact hq
 rw[ZJ hs,jm hq,ZT aa,eX,h4,w2,KN]
 have d:=JL W (val K9 v)
 grind
theorem b9K (k:Nat):((K9 ^ k:Nat):Int)=b9 ^ k:=by rw[Jy];rfl
theorem fin_eq (h:LdI K9 A v (j+1) un q) (hv:Dg K9 v) (hn:v.length=n) (hl:j+n+1<=un.length) {g:Nat} {w1:List Int} (h1:MdI v un g j n w1) :
  vI w1=((val K9 (un.take j):Nat):Int)+b9 ^ j*(((val K9 ((un.drop j).take (n+1)):Nat):Int)-(g:Int)*((val K9 v:Nat):Int)):=by
 obtain⟨w1,w2,w3⟩:=ld_win js h hv hn hl
 grind [h1.eq,vI_iL,Int.natCast_add,Int.natCast_mul,b9K]
theorem fin_ok (h:LdI K9 A v (j+1) un q) (hv:Dg K9 v) (hn:v.length=n) (hl:j+n+1<=un.length) (hq:j<q.length) (hV:0<val K9 v) {g:Nat} {w1:List Int}
  (g1:val K9 ((un.drop j).take (n+1)) / val K9 v<=g) (h1:MdI v un g j n w1) (h0:¬w1.getD (j+n) 0<0):∃ o,w1=iL o/\LdI K9 A v j o (q.set j g)/\o.length=un.length:=by
 have e:=fin_eq h hv hn hl h1
 have hD:DI w1:=fun k=>by
  by_cases hk:k=j+n
  ·subst hk;exact⟨aa,h1.top⟩
  exact h1.dig k hk
 obtain⟨o,rfl,ho⟩:=DI_nat hD
 have hlen:=h1.len
 rw[qB] at hlen
 refine⟨o,rfl,?_,hlen⟩
 rw[vI_iL] at e
 have ht:=jR (h.1.take j)
 rw[zn,JK aa] at ht
 have ht':((val K9 (un.take j):Nat):Int)<b9 ^ j:=by rw[<-b9K];omega
 have hp:0<b9 ^ j:=K8 ah
 have hR:=JL (val K9 ((un.drop j).take (n+1))) (val K9 v)
 have hle:g*val K9 v<=val K9 ((un.drop j).take (n+1)):=by
  rcases KJ (val K9 ((un.drop j).take (n+1))) (g*val K9 v) with hc|hc
  ·have a:b9 ^ j*(((val K9 ((un.drop j).take (n+1)):Nat):Int)-(g:Int)*((val K9 v:Nat):Int))<=b9 ^ j*(-1):=by
    refine Qk ?_ (Kp hp)
    omega
   omega
  exact hc
 have hg:g=val K9 ((un.drop j).take (n+1)) / val K9 v:=JI ((Xa hV).2 hle) g1
 rw[hg]
 refine ld_val h hv hn hl hq hV ho ?_
 have:((val K9 o:Nat):Int)=((val K9 (un.take j)+K9 ^ j*(val K9 ((un.drop j).take (n+1))%val K9 v):Nat):Int):=by
  rw[e,Jw,Jx,b9K,hg]
  congr 2
  grind
 omega
theorem fin_ab (h:LdI K9 A v (j+1) un q) (hv:Dg K9 v) (hn:v.length=n) (hl:j+n+1<=un.length) (hq:j<q.length) (hV:0<val K9 v) {g i:Nat} {d:Int} {w1 w:List Int}
  (g1:g<=val K9 ((un.drop j).take (n+1)) / val K9 v+1) (h1:MdI v un g j n w1) (h0:w1.getD (j+n) 0<0) (h2:AbI v w1 j n i d w) (hi:¬i<n) :
  1<=g/\∃ o,w.set (j+n) (w.getD (j+n) 0+d)=iL o/\LdI K9 A v j o (q.set j (g-1))/\o.length=un.length:=by
 have e:=fin_eq h hv hn hl h1
 obtain⟨_,_,w3⟩:=ld_win js h hv hn hl
 have ei:i=n:=by have:=h2.le;omega
 subst ei
 have hzero:∀ k,j+i<k->w1.getD k 0=0:=fun k hk=>by rw[h1.up k hk,jQ,w3 k aa];rfl
 have ht:=jR (h.1.take j)
 rw[zn,JK aa] at ht
 have ht':((val K9 (un.take j):Nat):Int)<b9 ^ j:=by rw[<-b9K];omega
 have hp:0<b9 ^ j:=K8 ah
 have hR:=JL (val K9 ((un.drop j).take (i+1))) (val K9 v)
 have hRl:=Wu (val K9 ((un.drop j).take (i+1))) hV
 obtain⟨X,x1,x2,x3⟩:=vI_cut (m:=j+i) (fun k hk=>h1.dig k aa) hzero
 have hneg:vI w1<0:=by
  have:b9 ^ (j+i)*w1.getD (j+i) 0<=b9 ^ (j+i)*(-1):=Qk aa (Kp (K8 ah))
  omega
 have hlt:val K9 ((un.drop j).take (i+1))<g*val K9 v:=by
  rcases KJ (val K9 ((un.drop j).take (i+1))) (g*val K9 v) with hc|hc
  ·exact hc
  have a:0<=b9 ^ j*(((val K9 ((un.drop j).take (i+1)):Nat):Int)-(g:Int)*((val K9 v:Nat):Int)):=by
   refine JV (Kp hp) ?_
   rw[<-Int.natCast_mul];omega
  omega
 have hg:g=val K9 ((un.drop j).take (i+1)) / val K9 v+1:=by
  have:val K9 ((un.drop j).take (i+1)) / val K9 v<g:=Xg (by rw[KL];exact hlt)
  omega
 have hwl:w.length=un.length:=h2.len.trans h1.len
 have e2:vI (w.set (j+i) (w.getD (j+i) 0+d))=((val K9 (un.take j)+K9 ^ j*(val K9 ((un.drop j).take (i+1))%val K9 v):Nat):Int):=by
  rw[vI_set _ aa,h2.eq,e,show v.take i=v from zz aa,Jw,Jx,b9K,hg]
  have:((val K9 ((un.drop j).take (i+1)):Nat):Int)=((val K9 ((un.drop j).take (i+1))%val K9 v+val K9 v*(val K9 ((un.drop j).take (i+1)) / val K9 v):Nat):Int):=by rw[hR]
  rw[Jw,Jx] at this
  rw[Jw]
  generalize ((val K9 ((un.drop j).take (i+1)) / val K9 v:Nat):Int)=a at*
  generalize ((val K9 ((un.drop j).take (i+1))%val K9 v:Nat):Int)=b at*
  generalize ((val K9 ((un.drop j).take (i+1)):Nat):Int)=c at*
  generalize ((val K9 v:Nat):Int)=f at*
  generalize ((val K9 (un.take j):Nat):Int)=l at*
  generalize w.getD (j+i) 0=y at*
  generalize b9 ^ (j+i)=p at*
  generalize b9 ^ j=r at*
  rw[show ((1:Nat):Int)=1 from rfl,this]
  grind
 have hdg:∀ k,k≠j+i->0<=(w.set (j+i) (w.getD (j+i) 0+d)).getD k 0/\(w.set (j+i) (w.getD (j+i) 0+d)).getD k 0<1000000000:=fun k hk=>by
  rw[jY (WG hk)];exact h2.dig k hk
 obtain⟨Y,y1,y2,y3⟩:=vI_cut (w:=w.set (j+i) (w.getD (j+i) 0+d)) (m:=j+i) (fun k hk=>hdg k aa) (fun k hk=>by
  rw[jY aa,h2.up k aa];exact hzero k hk)
 have hVn:=jR hv
 rw[hn] at hVn
 have hsmall:val K9 (un.take j)+K9 ^ j*(val K9 ((un.drop j).take (i+1))%val K9 v)<K9 ^ (j+i):=by
  have a:=Xw (K9 ^ j) (show val K9 ((un.drop j).take (i+1))%val K9 v+1<=K9 ^ i by omega)
  rw[<-Nat.pow_add,Wd,We] at a
  omega
 have hsmall':vI (w.set (j+i) (w.getD (j+i) 0+d))<b9 ^ (j+i):=by rw[e2,<-b9K];omega
 have hnn:0<=vI (w.set (j+i) (w.getD (j+i) 0+d)):=by rw[e2];omega
 have hgt:(w.set (j+i) (w.getD (j+i) 0+d)).getD (j+i) 0=0:=by
  generalize (w.set (j+i) (w.getD (j+i) 0+d)).getD (j+i) 0=z at*
  have hpp:0<b9 ^ (j+i):=K8 ah
  rcases Int.lt_trichotomy z 0 with hz|hz|hz
  ·have:b9 ^ (j+i)*z<=b9 ^ (j+i)*(-1):=Qk aa (Kp hpp)
   rw[K4,K5] at this
   omega
  ·exact hz
  have:b9 ^ (j+i)*1<=b9 ^ (j+i)*z:=Qk aa (Kp hpp)
  rw[K5] at this
  omega
 have hD:DI (w.set (j+i) (w.getD (j+i) 0+d)):=fun k=>by
  by_cases hk:k=j+i
  ·rw[hk,hgt];decide
  exact hdg k hk
 obtain⟨o,eo,ho⟩:=DI_nat hD
 refine⟨by rw[hg];exact Nat.succ_pos _,o,eo,?_,?_⟩
 ·rw[hg,XF]
  refine ld_val h hv hn hl hq hV ho ?_
  rw[eo,vI_iL] at e2
  exact Int.ofNat.inj e2
 have:=WD List.length eo
 rw[JB,qB] at this
 omega
end
end Go.Lens.Un.R
end
section
namespace Go.Lens.Tb
open Go.Proofs Go.Lens.Un
variable [Lz] [Dn]
attribute [local irreducible] TK PK T RG EfR Body CG
open Un Un.R
def D9I (x:List Nat) (d:Nat) (i:Int) (q:List Int) (r:Int):Prop:= -1<=i/\i<x.length/\∃ (p:List Nat) (s:Nat),q=iL p/\r=(s:Int)/\DivI K9 x d (i+1).toNat p s
section
variable {x:List Nat} {d:Nat} {i r:Int} {q:List Int}
theorem d9_0 (hd:0<d):D9I x d ((((iL x).length:Nat):Int)-1) (replicate (iL x).length 0) 0:=by
 rw[qB]
 exact⟨aa,aa,_,0,iL_rep,rfl,by rw[show (((x.length:Int)-1+1).toNat)=x.length by omega];exact div_init js hd⟩
theorem d9_l (h:D9I x d i q r):q.length=x.length:=by
 obtain⟨_,_,p,s,rfl,_,h⟩:=h
 rw[qB];exact h.1
theorem d9_r (h:D9I x d i q r):0<=r/\r<d:=by
 obtain⟨_,_,p,s,rfl,rfl,h⟩:=h
 have:=h.2.2.1
 omega
theorem d9_q {a:Int} (hd:0<d) (h0:0<=r) (hr:r<d) (hk:(d:Int)<1000000000) (ha:0<=a/\a<1000000000):R64 (Int.tdiv (r*1000000000+a) d):=by
 have h1:0<=r*1000000000+a:=aa
 rw[Qt h1]
 have h2:=Js h1 (show (0:Int)<=d by omega)
 have h3:=X8 (d:Int) h1
 unfold R64;omega
theorem d9_n (h:D9I x d i q r) (hx:Dg K9 x) (hd0:0<d) (hd:d<K9) (h0:0<=i):D9I x d (i-1) (q.set i.toNat (Int.tdiv (r*1000000000+(iL x).getD i.toNat 0) d)) (Int.tmod (r*1000000000+(iL x).getD i.toNat 0) d):=by
 obtain⟨h1,h2,p,s,rfl,rfl,h⟩:=h
 rw[show (i+1).toNat=i.toNat+1 by omega] at h
 have hn:=div_next js h aa hx hd
 have e:(s:Int)*1000000000+(iL x).getD i.toNat 0=((s*K9+x.getD i.toNat 0:Nat):Int):=by rw[jQ,Jw,Jx];rfl
 refine⟨aa,aa,_,_,?_,?_,by rw[show (i-1+1).toNat=i.toNat by omega];exact hn⟩
 ·rw[<-iL_set,e,Qt aa];rfl
 rw[e,Qu aa];rfl
theorem d9_e (h:D9I x d i q r) (h0:¬0<=i):∃ o,q=iL o/\Dg K9 o/\val K9 o=val K9 x / d:=by
 obtain⟨h1,h2,p,s,rfl,rfl,h⟩:=h
 rw[show (i+1).toNat=0 by omega] at h
 exact⟨p,rfl,h.2.1,(div_end h).1⟩
theorem d9_f (h:D9I x d i q r) (h0:¬0<=i):r=((val K9 x%d:Nat):Int):=by
 obtain⟨h1,h2,p,s,rfl,rfl,h⟩:=h
 rw[show (i+1).toNat=0 by omega] at h
 rw[(div_end h).2]
end
def GsI (v1 v2 u2 top t r:Int):Prop:=0<=t/\0<=r/\r<1000000000/\t<=999999999999999999/\0<=u2/\gsl v1 v2 u2 t r=gsl v1 v2 u2 (Int.tdiv top v1) (Int.tmod top v1)
section
variable {v1 v2 u0 u1 u2 top t r:Int}
theorem gs_0 (h0:0<=u0/\u0<1000000000) (h1:0<=u1/\u1<1000000000) (hv:0<v1):0<=Int.tdiv (u0*1000000000+u1) v1/\Int.tdiv (u0*1000000000+u1) v1<=999999999999999999/\0<=Int.tmod (u0*1000000000+u1) v1/\Int.tmod (u0*1000000000+u1) v1<v1:=by
 have h:0<=u0*1000000000+u1:=aa
 rw[Qt h,Qu h]
 have a:=Js h (show (0:Int)<=v1 by omega)
 have b:=X8 v1 h
 exact⟨a,aa,Jt _ aa,Int.emod_lt_of_pos _ hv⟩
theorem gs_q {x:Int} (h:0<=x/\x<=999999999999999999/\0<=Int.tmod top v1/\Int.tmod top v1<v1):R64 x:=by unfold R64;omega
theorem gs_i (h0:0<=u0/\u0<1000000000) (h1:0<=u1/\u1<1000000000) (h2:0<=u2/\u2<1000000000) (hv1:0<=v1/\v1<1000000000) (hv:0<v1):GsI v1 v2 u2 (u0*1000000000+u1) (Int.tdiv (u0*1000000000+u1) v1) (Int.tmod (u0*1000000000+u1) v1):=by
 have h:=gs_0 h0 h1 hv
 exact⟨h.1,h.2.2.1,aa,h.2.1,h2.1,rfl⟩
theorem gs_b (h:GsI v1 v2 u2 top t r):t<=999999999999999999:=h.2.2.2.1
theorem gs_m (hc:decide (1000000000<=t)=false) (h0:0<=t) (hv:0<=v2/\v2<1000000000):R64 (t*v2):=by
 have h:=XM hc
 have:=mu_p (a:=t) (b:=v2) ⟨h0,aa⟩ hv
 unfold R64;omega
theorem gs_or (h1:(bif decide (1000000000<=t) then true else decide (r*1000000000+u2<t*v2))=true):1000000000<=t\/r*1000000000+u2<t*v2:=by
 by_cases h:1000000000<=t
 ·exact .inl h
 rw[zk h] at h1;exact .inr (X6 h1)
theorem gs_t (h:GsI v1 v2 u2 top t r) (h1:(bif decide (1000000000<=t) then true else decide (r*1000000000+u2<t*v2))=true):1<=t:=by
 rcases gs_or h1 with g|g
 ·omega
 obtain⟨a,b,c,d,e,_⟩:=h
 rcases Kq 0 t with k|k
 ·omega
 have:t=0:=aa
 rw[this,Int.zero_mul] at g;omega
theorem gs_n (h:GsI v1 v2 u2 top t r) (h1:(bif decide (1000000000<=t) then true else decide (r*1000000000+u2<t*v2))=true) (hv:0<v1) (h2:¬1000000000<=r+v1):GsI v1 v2 u2 top (t-1) (r+v1):=by
 have ht:=gs_t h h1
 obtain⟨a,b,c,d,e,f⟩:=h
 refine⟨aa,aa,aa,aa,e,?_⟩
 rw[gsl,WI ⟨gs_or h1,hv⟩,WH h2] at f
 exact f
theorem gs_a (h:GsI v1 v2 u2 top t r) (h1:(bif decide (1000000000<=t) then true else decide (r*1000000000+u2<t*v2))=true) (hv:0<v1) (h2:1000000000<=r+v1):t-1=gsl v1 v2 u2 (Int.tdiv top v1) (Int.tmod top v1):=by
 obtain⟨a,b,c,d,e,f⟩:=h
 rw[gsl,WI ⟨gs_or h1,hv⟩,WI h2] at f
 exact f
theorem gs_e (h:GsI v1 v2 u2 top t r) (h1:(bif decide (1000000000<=t) then true else decide (r*1000000000+u2<t*v2))=false):t=gsl v1 v2 u2 (Int.tdiv top v1) (Int.tmod top v1):=by
 obtain⟨a,b,c,d,e,f⟩:=h
 rw[gsl,WH ?_] at f
 ·exact f
 rintro⟨g|g,_⟩
 ·rw[zl g] at h1;cases h1
 rw[zl g] at h1
 cases hq:decide (1000000000<=t)<;>rw[hq] at h1<;>cases h1
end
theorem w258 (x:List Nat) (d:Nat) (hx:Dg K9 x) (hxl:x.length<=1000000) (hd0:0<d) (hd:d<K9):CKa 200 [vL eI (iL x),vI (d:Int)] (.tup [vL eI (iL (dig K9 (val K9 x / d))),vI ((val K9 x%d:Nat):Int)]):=by
 refine cG qf200 Z (nB Z) Z (E Z (B.nilS (enc:=eI) Z) ?_)
 have hlx:=qB (l:=x)
 have hdk:(d:Int)<1000000000:=by have e:K9=1000000000:=rfl;omega
 refine E Z (B.ju Z jy) (E Z (B.makeSl (enc:=eI) (sz:=1) (z0:=0) Z Z Z jy in3 Z Z Z by3 di Z Z) (E Z (B.ju Z jy) (E Z (B.sub Z Z dj) (l3 (fun (i:Int) (r:Int) (q:List Int)=>[(0,vL eI (iL x)),(1,vI (d:Int)),(6,.aref 13 0),(7,vI r),(8,vI i)]) (fun _ _ q=>[(13,.arr 0 1 3 (List.map eI q))]) (fun i r q=>D9I x d i q r) (fun i _ _=>toNat (i+1)) ((((iL x).length:Nat):Int)-1) 0 (replicate ((iL x).length) 0) Z ?_ (sb Z Z Z) ?_))))
 · exact d9_0 hd0
 intro i r q hI0
 have hi1:=hI0.1
 have hi2:=hI0.2.1
 have hql:=d9_l hI0
 refine Cp Z Z (fun h1=>?_) (fun h1=>?_)
 ·have hxi:=kZ hx (toNat i)
  have hrr:=d9_r hI0
  refine E Z (B.mul Z Z dj) (E Z (B.idx (z:=0) Z Z jy sz3 (fun _=>rfl) (Xl di).symm di) (E Z (B.add Z Z dj) ?_))
  have hqr:=d9_q hd0 hrr.1 hrr.2 hdk hxi
  refine E Z (B.quo Z Z ⟨di,dj⟩) (E Z (B.idxE Z Z Z jy sz3 (Xl di).symm di) (E Z (B.setE (z0:=(Int.tdiv ((r*1000000000)+(getD (iL x) (toNat i) 0)) (d:Int))) Z Z Z Z Z sz3 di (fun _=>rfl)) (E Z (B.rem Z Z di) (E Z (B.sub Z Z dj) (pk Z (L3 (i-1) (Int.tmod ((r*1000000000)+(getD (iL x) (toNat i) 0)) (d:Int)) (List.set q (toNat i) (Int.tdiv ((r*1000000000)+(getD (iL x) (toNat i) 0)) (d:Int))) ?_ ?_ (sb Z Z Z)))))))
  · exact d9_n hI0 hx hd0 hd h1
  · omega
 have hw:=d9_e hI0 h1
 have hrv:=d9_f hI0 h1
 have hwl:q.length<=1000000000:=by have:=d9_l hI0;omega
 exact Fz 9 6 Z Z Z (C Z (w259w hw hwl) Z Z Z (Rt Z (lF Z (ZF (rfl) (li (by first|rfl|exact hrv))))))
theorem w260 (u v:List Nat) (k j:Nat) (hu:Dg K9 u) (hv:Dg K9 v) (hul:u.length<=10000000) (hvl:2<=v.length) (hj:j+v.length<u.length) (h0:0<(getD (iL v) (((iL v).length)-1) 0)):qA prog 202 [.aref 59 k,vL eI (iL v),vI (j:Int)] (qr [(59,.arr k 1 3 (List.map eI (iL u)))]) (vI (gsl (getD (iL v) (((iL v).length)-1) 0) (getD (iL v) (((iL v).length)-2) 0) (getD (iL u) (toNat (((j:Int)+(((iL v).length:Nat):Int))-2)) 0) (Int.tdiv ((getD (iL u) (j+((iL v).length)) 0)*1000000000+(getD (iL u) (toNat (((j:Int)+(((iL v).length:Nat):Int))-1)) 0)) (getD (iL v) (((iL v).length)-1) 0)) (Int.tmod ((getD (iL u) (j+((iL v).length)) 0)*1000000000+(getD (iL u) (toNat (((j:Int)+(((iL v).length:Nat):Int))-1)) 0)) (getD (iL v) (((iL v).length)-1) 0)))) [(59,.arr k 1 3 (List.map eI (iL u)))]:=by
 refine cL 60 [(59,.arr k 1 3 (List.map eI (iL u)))] qf202 Z (nB Z) Z Z (kc ?_)
 have hlv:=qB (l:=v)
 have hlu:=qB (l:=u)
 refine E Z (B.ju Z jy) ?_
 have hv1:=kZ hv (((iL v).length)-1)
 have hv2:=kZ hv (((iL v).length)-2)
 have hu0:=kZ hu (j+((iL v).length))
 have hu1:=kZ hu (toNat (((j:Int)+(((iL v).length:Nat):Int))-1))
 have hu2:=kZ hu (toNat (((j:Int)+(((iL v).length:Nat):Int))-2))
 have hq0:=gs_0 hu0 hu1 h0
 refine E Z (B.add Z Z dl) (E Z (B.idxE (n:=(j+(iL v).length)) Z Z Z jy sz3 aa dm) (E Z (B.loadE (n:=(j+(iL v).length)) (z0:=0) Z Z ag3 sz3 dm Z) (E Z (B.mul Z Z dl) (E Z (B.add Z Z dl) (E Z (B.sub Z Z dl) (E Z (B.idxE (n:=(toNat (((j:Int)+(((iL v).length:Nat):Int))-1))) Z Z Z jy sz3 (Xl dm).symm dm) (E Z (B.loadE (n:=(toNat (((j:Int)+(((iL v).length:Nat):Int))-1))) (z0:=0) Z Z ag3 sz3 dm Z) (E Z (B.add Z Z dl) (Dr Z ae (E Z (B.sub Z Z dl) (E Z (B.idx (z:=0) (i:=((iL v).length-1)) Z Z jy sz3 (fun _=>rfl) dp dm) (E Z (B.quo Z Z ⟨dm,dl⟩) (E Z (B.sub Z Z dl) ?_)))))))))))))
 refine E Z (B.idx (z:=0) (i:=((iL v).length-1)) Z Z jy sz3 (fun _=>rfl) dp dm) (E Z (B.rem Z Z dm) (Dr Z ae (l2 (fun (t:Int) (r:Int)=>[(0,.aref 59 k),(1,vL eI (iL v)),(2,vI (j:Int)),(7,vI (((iL v).length:Nat):Int)),(9,vI t),(10,vI r)]) (fun _ _=>[(59,.arr k 1 3 (List.map eI (iL u)))]) (fun t r=>GsI (getD (iL v) (((iL v).length)-1) 0) (getD (iL v) (((iL v).length)-2) 0) (getD (iL u) (toNat (((j:Int)+(((iL v).length:Nat):Int))-2)) 0) ((getD (iL u) (j+((iL v).length)) 0)*1000000000+(getD (iL u) (toNat (((j:Int)+(((iL v).length:Nat):Int))-1)) 0)) t r) (fun _ r=>toNat (1000000000-r)) (Int.tdiv ((getD (iL u) (j+((iL v).length)) 0)*1000000000+(getD (iL u) (toNat (((j:Int)+(((iL v).length:Nat):Int))-1)) 0)) (getD (iL v) (((iL v).length)-1) 0)) (Int.tmod ((getD (iL u) (j+((iL v).length)) 0)*1000000000+(getD (iL u) (toNat (((j:Int)+(((iL v).length:Nat):Int))-1)) 0)) (getD (iL v) (((iL v).length)-1) 0)) Z ?_ (sb Z Z Z) ?_)))
 · exact gs_i hu0 hu1 hu2 hv1 h0
 intro t r hI0
 have ht0:=hI0.1
 have hr0:=hI0.2.1
 have hr1:=hI0.2.2.1
 have hte:=gs_b hI0
 refine Em Z Z Z Z ?_
 refine Em Z Z Z Z ?_
 refine Em Z Z Z Z ?_
 refine Eg Z Z (fun hc=>B.sub (qu Z hc) Z dl) Z (Eg Z Z (fun hc=>B.idx (z:=0) (i:=((iL v).length-2)) (qu Z hc) (qu Z hc) jy sz3 (fun _=>rfl) aa dm) Z (Eg Z Z (fun hc=>B.loadP (qu Z hc) ag3 sz3) Z (Eg Z Z (fun hc=>B.mul (qu Z hc) (qu Z hc) dl) Z ?_)))
 refine Em Z Z Z Z ?_
 refine Eg Z Z (fun hc=>B.mul (qu Z hc) Z dl) Z (Eg Z Z (fun hc=>B.run Z) Z ?_)
 refine Em Z Z Z Z ?_
 refine Em Z Z Z Z ?_
 refine Eg Z Z (fun hc=>B.add (qu Z hc) (qu Z hc) dl) Z (Eg Z Z (fun hc=>B.sub (qu Z hc) Z dl) Z (Eg Z Z (fun hc=>B.idxE (n:=(toNat (((j:Int)+(((iL v).length:Nat):Int))-2))) (qu Z hc) Z (qu Z hc) jy sz3 (Xl dm).symm dm) Z (Eg Z Z (fun hc=>B.loadE (n:=(toNat (((j:Int)+(((iL v).length:Nat):Int))-2))) (z0:=0) (qu Z hc) Z ag3 sz3 dm Z) Z (Eg Z Z (fun hc=>B.add (qu Z hc) (qu Z hc) dl) Z (Eg Z Z (fun hc=>B.gtr (qu Z hc) (qu Z hc)) Z (E Z (B.pO Z Z Z Z Z) (Dr Z ae (Cb Z Z (fun h1=>?_) (fun h1=>?_)))))))))
 ·have htp:=gs_t hI0 h1
  refine E Z (B.sub Z Z dl) (E Z (B.sub Z Z dl) (E Z (B.idx (z:=0) (i:=((iL v).length-1)) Z Z jy sz3 (fun _=>rfl) dp dm) (E Z (B.add Z Z dl) (Cp Z Z (fun h2=>?_) (fun h2=>?_)))))
  ·exact Rt Z (ZG (val0:=vI (t-1)) (out0:=[(59,.arr k 1 3 (List.map eI (iL u)))]) (.inr Z) ae (by first|rfl|exact li dt) Z)
  refine pk Z (L2 (t-1) (r+(getD (iL v) ((iL v).length-1) 0)) ?_ ?_ (sb Z Z Z))
  · exact gs_n hI0 h1 h0 h2
  · omega
 exact Rt Z (ZG (val0:=vI t) (out0:=[(59,.arr k 1 3 (List.map eI (iL u)))]) (.inr Z) ae (by first|rfl|exact li dt) Z)
theorem w221f (x F:Nat) (hx:(dig K9 x).length<=100000) (h0:0<F) (h1:F<K9):CKa 153 [vL eI (iL (dig K9 x)),vL eI (iL [F])] (vL eI (iL (dig K9 (x*F)))):=by
 have h:=w221 (dig K9 x) [F] (jc js _) (dg_one h1) (qd hx ah) ao
 rw[qO js,val_one] at h
 exact h
theorem w259o (r:Nat) (h:r<K9):CKa 201 [vL eI [(r:Int)]] (vL eI (iL (dig K9 r))):=by
 have h:=w259 [r] (dg_one h) ao
 rw[val_one] at h
 exact h
section
variable {A B F:Nat}
theorem dv_b1 (h:(((iL (dig K9 B)).length:Nat):Int)=1):B<K9:=by
 rw[qB] at h
 have h1:(dig K9 B).length=1:=aa
 have:=jB js B
 grind
theorem w258b (A B:Nat) (hA:(dig K9 A).length<=100000) (hB:0<B) (h:B<K9):CKa 200 [vL eI (iL (dig K9 A)),vI ((iL (dig K9 B)).getD 0 0)] (.tup [vL eI (iL (dig K9 (A / B))),vI ((A%B:Nat):Int)]):=by
 have h1:=w258 (dig K9 A) B (jc js _) (qd hA ah) hB h
 rw[qO js] at h1
 rw[j7 js aa h]
 exact h1
theorem dv_lt (h:cmpN A B<0):A<B:=by grind [cmpN]
theorem w258e (A B F:Nat) (hX:(dig K9 (A%B*F)).length<=100001) (h0:0<F) (h1:F<K9):CKa 200 [vL eI (iL (dig K9 (A%B*F))),vI ((iL [F]).getD 0 0)] (.tup [vL eI (iL (dig K9 (A%B))),vI ((0:Nat):Int)]):=by
 have h:=w258 (dig K9 (A%B*F)) F (jc js _) (qd hX ah) h0 h1
 rw[qO js,Nat.mul_div_cancel _ h0,Nat.mul_mod_left] at h
 exact h
theorem dv_ab (h:¬cmpN A B<0):B<=A:=by
 rcases KJ A B with g|g
 ·rw[cmp_lt' g] at h;exact absurd ah h
 exact g
theorem dv_al' (h:B<=A):(dig K9 B).length<=(dig K9 A).length:=by
 rcases KJ (dig K9 A).length (dig K9 B).length with g|g
 ·have:=ZN js g;omega
 exact g
theorem dv_b2 (hB:0<B) (h1:¬cmpN A B<0) (h:¬(((iL (dig K9 B)).length:Nat):Int)=1):2<=(dig K9 B).length:=by
 rw[qB] at h
 have:=(ZX (n:=B)).2 hB
 omega
theorem dv_vt {B:Nat} (h:1<=(dig K9 B).length):0<(dig K9 B).getD ((dig K9 B).length-1) 0:=by
 have hn:=nz_dig js B
 refine XK (hn _ ?_)
 grind
theorem dv_q {x:Int} (h:0<=x/\x<1000000000):R64 (Int.tdiv 1000000000 (x+1)):=by
 rw[Qt ah]
 have a:=Js (show (0:Int)<=1000000000 by decide) (show (0:Int)<=x+1 by omega)
 have b:=X8 (x+1) (show (0:Int)<=1000000000 by decide)
 unfold R64;omega
theorem dv_f (hB:0<B) (hbl:2<=(dig K9 B).length):∃ F:Nat,Int.tdiv 1000000000 ((iL (dig K9 B)).getD ((iL (dig K9 B)).length-1) 0+1)=(F:Int)/\0<F/\F<K9/\B*F<K9 ^ (dig K9 B).length:=by
 have ht:=dv_vt (B:=B) aa
 have hl:=(jc js B).get (show 0<K9 by decide) ((dig K9 B).length-1)
 have hlast:=kh (β:=K9) (l:=dig K9 B) (n:=(dig K9 B).length-1) aa
 have hlow:=jR ((jc js B).take ((dig K9 B).length-1))
 rw[zn,JK aa] at hlow
 rw[qO js] at hlast
 have hpow:K9 ^ (dig K9 B).length=K9 ^ ((dig K9 B).length-1)*K9:=by rw[<-Nat.pow_succ];congr 1;omega
 rw[jQ,qB]
 generalize (dig K9 B).getD ((dig K9 B).length-1) 0=b at*
 have hk:K9=1000000000:=rfl
 refine⟨K9 / (b+1),?_,?_,?_,?_⟩
 ·grind
 ·exact Wb aa aa
 ·exact JH ah aa
 rw[hpow]
 have h1:(b+1)*(K9 / (b+1))<=K9:=Nat.mul_div_le K9 (b+1)
 have hF:0<K9 / (b+1):=Wb aa aa
 generalize K9 / (b+1)=F at*
 generalize K9 ^ ((dig K9 B).length-1)=P at*
 have h2:B<P*(b+1):=by grind
 have h3:B*F<P*(b+1)*F:=Qp h2 hF
 have h4:P*(b+1)*F<=P*K9:=by rw[Kn];exact Xw P h1
 omega
theorem dv_vl (hB:0<B) (hF:0<F) (h:B*F<K9 ^ (dig K9 B).length):(dig K9 (B*F)).length=(dig K9 B).length:=by refine JI (je js h) (dv_al' (QV B hF))
theorem dv_al (h:B<=A):(dig K9 B).length<=(dig K9 A).length:=dv_al' h
theorem dv_xl (hF:F<K9) (hB:0<B) (hBl:(dig K9 B).length<=100000):(dig K9 ((A%B)*F)).length<=100001:=by
 refine qd (je js (k:=(dig K9 B).length+1) ?_) aa
 rw[KN]
 have h1:A%B<K9 ^ (dig K9 B).length:=KK (Wu _ hB) (jB js B)
 exact XI (Xw _ (KH hF)) (Qp h1 ah)
theorem dz_l1 (h:cmpN A B<0):([]:List Int)=iL (dig K9 (A / B)):=by rw[Ji (dv_lt h),jL];rfl
theorem dz_l2 (h:cmpN A B<0):iL (dig K9 A)=iL (dig K9 (A%B)):=by rw[Jm (dv_lt h)]
def PdI (A F:Nat) (x:List Int):Prop:=∃ k,x=iL (dig K9 (A*F)++replicate k 0)/\x.length<=(dig K9 A).length+1
theorem pd_0 (hF:F<K9):PdI A F (iL (dig K9 (A*F))):=by
 refine⟨0,by simp,?_⟩
 rw[qB]
 refine je js ?_
 rw[KN]
 exact XI (Xw _ (KH hF)) (Qp (jB js A) ah)
theorem pd_l {x:List Int} (h:PdI A F x):x.length<=(dig K9 A).length+1:=by
 obtain⟨k,rfl,h⟩:=h
 exact h
theorem pd_n {x:List Int} (h:PdI A F x) (h3:(x.length:Int)<(((iL (dig K9 A)).length:Nat):Int)+1):PdI A F (x++[0]):=by
 obtain⟨k,rfl,h⟩:=h
 rw[qB] at h3
 refine⟨k+1,?_,?_⟩
 ·rw[show ([0]:List Int)=iL [0] from rfl,iL_app,zZ,<-List.replicate_succ']
 rw[za];show _+1<=_;rw[qB] at h3 ⊢;omega
theorem pd_e {x:List Int} (h:PdI A F x) (h3:¬(x.length:Int)<(((iL (dig K9 A)).length:Nat):Int)+1):x.length=(dig K9 A).length+1:=by
 have:=pd_l h
 rw[qB] at h3
 omega
def DoI (A B F:Nat) (j:Int) (u q:List Int):Prop:= -1<=j/\j<q.length/\u.length=(dig K9 A).length+1/\q.length=u.length-(dig K9 (B*F)).length/\∃ un qn,u=iL un/\q=iL qn/\LdI K9 (A*F) (dig K9 (B*F)) (j+1).toNat un qn
variable {j:Int} {u q:List Int}
theorem do_l (h:DoI A B F j u q): -1<=j/\j<q.length/\u.length=(dig K9 A).length+1/\q.length=u.length-(dig K9 (B*F)).length:=⟨h.1,h.2.1,h.2.2.1,h.2.2.2.1⟩
theorem do_o {jn:Nat} (h:DoI A B F (jn:Int) u q):∃ un qn,u=iL un/\q=iL qn/\un.length=(dig K9 A).length+1/\qn.length=un.length-(dig K9 (B*F)).length/\jn<qn.length/\LdI K9 (A*F) (dig K9 (B*F)) (jn+1) un qn:=by
 obtain⟨h1,h2,h3,h4,un,qn,rfl,rfl,h⟩:=h
 grind [qB]
theorem ld_lt (hB:0<B) (hAB:B<=A) (hF:0<F) (hFB:B*F<K9 ^ (dig K9 B).length):A*F<B*F*K9 ^ ((dig K9 A).length+1-(dig K9 B).length):=by
 have h1:=jB js A
 have h2:=nz_pos js (nz_dig js B) (fun e=>by have:=dig_nil js e;omega)
 rw[qO js] at h2
 have h3:=dv_al' hAB
 have h0:=(ZX (n:=B)).2 hB
 have h4:K9 ^ (dig K9 A).length=K9 ^ ((dig K9 B).length-1)*K9 ^ ((dig K9 A).length+1-(dig K9 B).length):=by rw[<-Nat.pow_add];congr 1;omega
 have h5:=Xh (K9 ^ ((dig K9 A).length+1-(dig K9 B).length)) h2
 have h6:A<B*K9 ^ ((dig K9 A).length+1-(dig K9 B).length):=aa
 have h7:=Qp h6 hF
 grind
theorem do_0 {x:List Int} {n:Nat} (h:PdI A F x) (he:x.length=(dig K9 A).length+1) (hB:0<B) (hAB:B<=A) (hF:0<F) (hFB:B*F<K9 ^ (dig K9 B).length) (hn:n=x.length-(dig K9 (B*F)).length) (hj:j=(n:Int)-1):DoI A B F j x (replicate n 0):=by
 have hv:=dv_vl hB hF hFB
 have h3:=dv_al' hAB
 obtain⟨k,rfl,_⟩:=h
 refine⟨aa,by rw[qa];omega,he,by rw[qa];exact hn,_,_,rfl,iL_rep,?_⟩
 rw[show (j+1).toNat=n by omega]
 have hd:Dg K9 (dig K9 (A*F)++replicate k 0):=(jc js _).app (dg_zero ah _)
 have hval:val K9 (dig K9 (A*F)++replicate k 0)=A*F:=by rw[val_app,val_zero,qO js];simp
 have:=ld_init (v:=dig K9 (B*F)) (j:=n) js hd (by
  rw[hval,qO js,hn,he,hv];exact ld_lt hB hAB hF hFB)
 rw[hval] at this
 exact this
section
variable {un qn:List Nat} {jn g:Nat} {n m:Nat} {w z w1:List Int} {d:Int}
theorem dz_1 (hLd:LdI K9 (A*F) (dig K9 (B*F)) (jn+1) un qn) (hV0:0<B*F) (hlV:n=(dig K9 (B*F)).length) (hu1:un.length=(dig K9 A).length+1) (hq1:qn.length=un.length-(dig K9 (B*F)).length) (hjq:jn<qn.length)
  (hg1:val K9 ((un.drop jn).take (n+1)) / val K9 (dig K9 (B*F))<=g) (hMd:MdI (dig K9 (B*F)) un g jn n w1) (h6:¬w1.getD (jn+n) 0<0):DoI A B F (((jn:Nat):Int)-1) w1 ((iL qn).set jn (g:Int)):=by
 obtain⟨o,e,ho,hl⟩:=fin_ok hLd (jc js _) hlV.symm aa hjq (by rw[qO js];exact hV0) hg1 hMd h6
 have h1:=hMd.len
 refine⟨aa,by rw[JB,qB];omega,aa,by rw[JB,qB];omega,o,qn.set jn g,e,iL_set,?_⟩
 rw[show (((jn:Nat):Int)-1+1).toNat=jn by omega]
 exact ho
theorem dz_2 (hLd:LdI K9 (A*F) (dig K9 (B*F)) (jn+1) un qn) (hV0:0<B*F) (hlV:n=(dig K9 (B*F)).length) (hu1:un.length=(dig K9 A).length+1) (hq1:qn.length=un.length-(dig K9 (B*F)).length) (hjq:jn<qn.length)
  (hg2:g<=val K9 ((un.drop jn).take (n+1)) / val K9 (dig K9 (B*F))+1) (hMd:MdI (dig K9 (B*F)) un g jn n w1) (h6:w1.getD (jn+n) 0<0) (hI3:AbI (dig K9 (B*F)) w1 jn n m d z) (hm:¬m<n) :
  DoI A B F (((jn:Nat):Int)-1) (z.set (jn+n) (z.getD (jn+n) 0+d)) ((iL qn).set jn (((g:Nat):Int)-1)):=by
 obtain⟨h1g,o,e,ho,hl⟩:=fin_ab hLd (jc js _) hlV.symm aa hjq (by rw[qO js];exact hV0) hg2 hMd h6 hI3 hm
 have h1:=hMd.len
 have h2:=hI3.len
 refine⟨aa,by rw[JB,qB];omega,by rw[JB];omega,by rw[JB,JB,qB];omega,o,qn.set jn (g-1),e,?_,?_⟩
 ·rw[show (g:Int)-1=((g-1:Nat):Int) by omega];exact iL_set
 rw[show (((jn:Nat):Int)-1+1).toNat=jn by omega]
 exact ho
theorem ab_top (hI3:AbI (dig K9 (B*F)) w1 jn n m d z) (hMd:MdI (dig K9 (B*F)) un g jn n w1): -1000000000<=z.getD (jn+n) 0/\z.getD (jn+n) 0<1000000000:=by
 have:=hI3.up (jn+n) (by have:=hI3.le;omega)
 rw[this];exact⟨hMd.low,hMd.top⟩
theorem do_e (h:DoI A B F j u q) (hj:¬0<=j) (hB:0<B) (hF:0<F) (hlV:n=(dig K9 (B*F)).length) (hln:n<=u.length):(∃ o,u.take n=iL o/\Dg K9 o/\val K9 o=A%B*F)/\∃ o,q=iL o/\Dg K9 o/\val K9 o=A / B:=by
 obtain⟨h1,h2,h3,h4,un,qn,rfl,rfl,h⟩:=h
 rw[show (j+1).toNat=0 by omega] at h
 have he:=ld_end h
 rw[qO js] at he
 have hlt:val K9 un<K9 ^ n:=by
  rw[he.2,hlV]
  exact KK (Wu _ (Wf hB hF)) (jB js _)
 rw[qB] at hln
 refine⟨⟨un.take n,by rw[iL_take],h.1.take n,?_⟩,qn,rfl,h.2.1,?_⟩
 ·have hc:=val_cut' (β:=K9) hln
  have h0:val K9 (un.drop n)=0:=by
   rcases XG (val K9 (un.drop n)) with e|e
   ·exact e
   have:=Xw (K9 ^ n) e
   omega
  rw[h0,KM,KD] at hc
  rw[<-hc,he.2,Xb]
 rw[he.1,Nat.mul_div_mul_right _ _ hF]
end
end
theorem w260j (u v:List Nat) (k j:Nat) (hu:Dg K9 u) (hv:Dg K9 v) (hul:u.length<=10000000) (hvl:2<=v.length) (hj:j+v.length<u.length) (h0:0<v.getD (v.length-1) 0):qA prog 202 [.aref 59 k,vL eI (iL v),vI (j:Int)] (qr [(59,.arr k 1 3 (List.map eI (iL u)))]) (vI (gsT u v j)) [(59,.arr k 1 3 (List.map eI (iL u)))]:=by
 have h:=w260 u v k j hu hv hul hvl hj (by rw[qB,jQ];omega)
 unfold gsT
 rw[qB,show (((j:Int)+(v.length:Int))-1).toNat=j+v.length-1 by omega,show (((j:Int)+(v.length:Int))-2).toNat=j+v.length-2 by omega] at h
 exact h
theorem w214 (A D:Nat) (hB:0<D) (hAl:(dig K9 A).length<=100000) (hDl:(dig K9 D).length<=100000):CKa 148 [vL eI (iL (dig K9 A)),vL eI (iL (dig K9 D))] (.tup [vL eI (iL (dig K9 (A / D))),vL eI (iL (dig K9 (A%D)))]):=by
 refine cG qf148 Z (nB Z) Z (E Z (B.nilS (enc:=eI) Z) (E Z (B.nilS (enc:=eI) Z) ?_))
 have hlA:=qB (l:=dig K9 A)
 have hlB:=qB (l:=dig K9 D)
 refine C Z (w219 A D aa aa) Z Z Z (Cp Z Z (fun h1=>?_) (fun h1=>?_))
 ·exact E Z (B.nilS (enc:=eI) Z) (Rt Z (lF Z (ZF (lsl du) (lsl du))))
 refine E Z (B.ju Z jy) (Cp Z Z (fun h2=>?_) (fun h2=>?_))
 ·have hB2:=dv_b1 h2
  exact E Z (B.idx (z:=0) Z Z jy sz3 (fun _=>rfl) Z dw) (C Z (w258b A D hAl hB hB2) Z Z Z (E Z (B.zA (es:=List.map eI [((A%D:Nat):Int)]) Z) (C Z (w259o (A%D) (KK (Wu _ hB) hB2)) Z Z Z (Rt Z (leaf Z Z)))))
 have hbl:=dv_b2 hB h1 h2
 have hAB:=dv_ab h1
 have hBt:=kZ (jc js D) ((iL (dig K9 D)).length-1)
 refine E Z (B.ju Z jy) (E Z (B.sub Z Z dx) (E Z (B.idx (z:=0) (i:=((iL (dig K9 D)).length-1)) Z Z jy sz3 (fun _=>rfl) aa dw) (E Z (B.add Z Z dx) (E Z (B.quo Z Z ⟨dw,dx⟩) (E Z (B.zA (es:=List.map eI [(Int.tdiv 1000000000 ((getD (iL (dig K9 D)) ((iL (dig K9 D)).length-1) 0)+1))]) Z) ?_)))))
 refine tk 7 Z ?_
 refine tn ⟨[(0,vL eI (iL (dig K9 A))),(1,vL eI (iL (dig K9 D))),(8,vL eI [(Int.tdiv 1000000000 ((getD (iL (dig K9 D)) ((iL (dig K9 D)).length-1) 0)+1))])],[]⟩ rfl rfl Z ?_
 obtain⟨F,hFe,hF0,hF1,hFB⟩:=dv_f hB hbl
 rw[hFe]
 refine kc (C Z (w221f D F hDl aa hF1) Z Z Z ?_)
 have hlV:=qB (l:=dig K9 (D*F))
 have hVe:=dv_vl hB hF0 hFB
 have hV2:2<=(dig K9 (D*F)).length:=aa
 have hVt:=dv_vt (B:=D*F) aa
 have hVd:=jc js (D*F)
 have hV0:0<D*F:=Wf hB hF0
 refine E Z (B.ju Z jy) ?_
 have hpl:=pd_l (pd_0 (A:=A) (F:=F) hF1)
 refine E Z (B.run Z) (C Z (w221f A F hAl aa hF1) Z Z Z (E Z (B.append (l:=[]) Z Z Z jy in3 Z (fun _=>rfl) by3 dw) (l2 (fun (x:List Int) (k:Nat)=>[(0,vL eI (iL (dig K9 A))),(8,vL eI (iL [F])),(9,vL eI (iL (dig K9 (D*F)))),(10,vI (((iL (dig K9 (D*F))).length:Nat):Int)),(11,.aref 59 k)]) (fun x k=>[(59,.arr k 1 3 (List.map eI x))]) (fun x _=>PdI A F x) (fun x _=>(iL (dig K9 A)).length+1-x.length) (iL (dig K9 (A*F))) 1 Z ?_ (sb Z Z Z) ?_)))
 · exact pd_0 hF1
 intro x k hI0
 have hxl:=pd_l hI0
 refine E Z (B.lenA Z Z jy) (E Z (B.ju Z jy) (E Z (B.add Z Z dx) (Cp Z Z (fun h3=>?_) (fun h3=>?_))))
 ·refine E Z (B.zA (es:=List.map eI [0]) Z) (E Z (B.append Z Z Z jy in3 Z (fun _=>rfl) by3 dw) (pk Z (L2 (x++[0]) (k+1) ?_ ?_ (sb Z Z Z))))
  · exact pd_n hI0 h3
  · (simp only[za,z6];omega)
 have hAl2:=dv_al hAB
 have hxe:=pd_e hI0 h3
 refine E Z (B.lenA Z Z jy) (E Z (B.sub Z Z dx) (E Z (B.makeSV (enc:=eI) (sz:=1) (z0:=0) Z Z (Xl dw).symm (Xl dw).symm jy in3 Z Z Z by3 dw Z Z) (E Z (B.lenA Z Z jy) (E Z (B.sub Z Z dx) (E Z (B.sub Z Z dx) (l3 (fun (j:Int) (u:List Int) (q:List Int)=>[(8,vL eI (iL [F])),(9,vL eI (iL (dig K9 (D*F)))),(10,vI (((iL (dig K9 (D*F))).length:Nat):Int)),(11,.aref 59 k),(12,.aref 77 0),(13,vI j)]) (fun _ u q=>[(59,.arr k 1 3 (List.map eI u)),(77,.arr 0 1 3 (List.map eI q))]) (fun j u q=>DoI A D F j u q) (fun j _ _=>toNat (j+1)) (((x.length:Int)-(((iL (dig K9 (D*F))).length:Nat):Int))-1) x (replicate (toNat (((x.length:Nat):Int)-(((iL (dig K9 (D*F))).length:Nat):Int))) 0) Z ?_ (sb Z Z Z) ?_))))))
 · exact do_0 hI0 hxe hB hAB hF0 hFB aa aa
 intro j u q hI1
 have hdol:=do_l hI1
 refine Cp Z Z (fun h4=>?_) (fun h4=>?_)
 ·obtain⟨jn,rfl⟩:∃ jn:Nat,j=(jn:Int):=⟨toNat j,aa⟩
  obtain⟨un,qn,rfl,rfl,hu1,hq1,hjq,hLd⟩:=do_o hI1
  refine E Z (B.jx (w260j un (dig K9 (D*F)) k jn hLd.1 (jc js _) aa hV2 aa hVt) Z Z ⟨rfl,trivial⟩ rfl rfl) ?_
  refine tk 17 Z ?_
  refine tn ⟨[(8,vL eI (iL [F])),(9,vL eI (iL (dig K9 (D*F)))),(10,vI (((iL (dig K9 (D*F))).length:Nat):Int)),(11,.aref 59 k),(12,.aref 77 0),(13,vI (jn:Int)),(14,vI (gsT un (dig K9 (D*F)) jn))],[(59,.arr k 1 3 (List.map eI (iL un))),(77,.arr 0 1 3 (List.map eI (iL qn)))]⟩ rfl rfl Z ?_
  obtain⟨g,hge,hg1,hg2,hg3⟩:=gsT_ok (n:=(iL (dig K9 (D*F))).length) hLd (jc js _) hlV.symm aa aa (by rw[hlV];exact hVt)
  have hgg:(0:Int)<=(g:Int)/\(g:Int)<1000000000:=by have e9:K9=1000000000:=rfl;omega
  rw[hge]
  refine kc (l3 (fun (i:Nat) (c:Int) (w:List Int)=>[(8,vL eI (iL [F])),(9,vL eI (iL (dig K9 (D*F)))),(10,vI (((iL (dig K9 (D*F))).length:Nat):Int)),(11,.aref 59 k),(12,.aref 77 0),(13,vI (jn:Int)),(14,vI (g:Int)),(15,vI c),(16,vI (i:Int))]) (fun _ _ w=>[(59,.arr k 1 3 (List.map eI w)),(77,.arr 0 1 3 (List.map eI (iL qn)))]) (fun i c w=>SbI (dig K9 (D*F)) un (g:Int) jn ((iL (dig K9 (D*F))).length) i c w) (fun i _ _=>((iL (dig K9 (D*F))).length)-i) 0 0 (iL un) Z ?_ (sb Z Z Z) ?_)
  · exact sb_init hLd.1
  intro i c w hI2
  have hsp:=sb_p hI2 hgg hVd
  have hc0:=hI2.c0
  have hc1:=hI2.c1
  have hwl:=hI2.len
  have hwd:=hI2.dig (i+jn)
  have hwt:=hI2.dig (jn+((iL (dig K9 (D*F))).length))
  refine Cp Z Z (fun h5=>?_) (fun h5=>?_)
  ·have hvi:=kZ hVd i
   refine E Z (B.idx (z:=0) Z Z jy sz3 (fun _=>rfl) Z dw) (E Z (B.mul Z Z dx) (E Z (B.add Z Z dx) (E Z (B.add Z Z dx) (E Z (B.idxE (n:=(i+jn)) Z Z Z jy sz3 aa dw) (E Z (B.loadE (z0:=0) Z Z ag3 sz3 dw Z) (E Z (B.remN Z Z dw ah) (E Z (B.sub Z Z dx) (E Z (B.quoN Z Z dw ah dx) (Cp Z Z (fun h6=>?_) (fun h6=>?_))))))))))
   ·refine E Z (B.add Z Z dx) (E Z (B.add Z Z dx) (E Z (B.add Z Z dx) (E Z (B.idxE (n:=(i+jn)) Z Z Z jy sz3 aa dw) (E Z (B.setE (z0:=(((w.getD (i+jn) 0)-(((((g:Nat):Int)*(getD (iL (dig K9 (D*F))) i 0))+c)%1000000000))+1000000000)) Z Z Z Z Z sz3 dw (fun _=>rfl)) (E Z (B.add Z Z dx) (pk Z (L3 (i+1) (((((g:Int)*(getD (iL (dig K9 (D*F))) i 0))+c) / 1000000000)+1) (List.set w (i+jn) (((w.getD (i+jn) 0)-(((((g:Nat):Int)*(getD (iL (dig K9 (D*F))) i 0))+c)%1000000000))+1000000000)) ?_ ?_ (sb Z Z Z))))))))
    · first|exact sb_1 hI2 hgg hVd aa aa ab|exact sb_2 hI2 hgg hVd aa aa ab
    · omega
   refine E Z (B.add Z Z dx) (E Z (B.idxE (n:=(i+jn)) Z Z Z jy sz3 aa dw) (E Z (B.setE (z0:=((w.getD (i+jn) 0)-(((((g:Nat):Int)*(getD (iL (dig K9 (D*F))) i 0))+c)%1000000000))) Z Z Z Z Z sz3 dw (fun _=>rfl)) (E Z (B.add Z Z dx) (pk Z (L3 (i+1) (((((g:Nat):Int)*(getD (iL (dig K9 (D*F))) i 0))+c) / 1000000000) (List.set w (i+jn) ((w.getD (i+jn) 0)-(((((g:Nat):Int)*(getD (iL (dig K9 (D*F))) i 0))+c)%1000000000))) ?_ ?_ (sb Z Z Z))))))
   · first|exact sb_1 hI2 hgg hVd aa aa ab|exact sb_2 hI2 hgg hVd aa aa ab
   · omega
  refine E Z (B.add Z Z dx) (E Z (B.add Z Z dx) (E Z (B.idxE (n:=(jn+(iL (dig K9 (D*F))).length)) Z Z Z jy sz3 aa dw) (E Z (B.loadE (z0:=0) Z Z ag3 sz3 dw Z) (E Z (B.sub Z Z dx) (E Z (B.idxE (n:=(jn+(iL (dig K9 (D*F))).length)) Z Z Z jy sz3 aa dw) (E Z (B.setE (z0:=((w.getD (jn+(iL (dig K9 (D*F))).length) 0)-c)) Z Z Z Z Z sz3 dw (fun _=>rfl)) ?_))))))
  have hMd:=md_of hI2 aa hlV.symm aa
  refine E Z (B.add Z Z dx) (E Z (B.idxE (n:=(jn+(iL (dig K9 (D*F))).length)) Z Z Z jy sz3 aa dw) (E Z (B.loadE (z0:=0) Z Z ag3 sz3 dw Z) (Cp Z Z (fun h7=>?_) (fun h7=>?_))))
  ·refine E Z (B.sub Z Z dx) (l3 (fun (m:Nat) (d:Int) (z:List Int)=>[(8,vL eI (iL [F])),(9,vL eI (iL (dig K9 (D*F)))),(10,vI (((iL (dig K9 (D*F))).length:Nat):Int)),(11,.aref 59 k),(12,.aref 77 0),(13,vI (jn:Int)),(14,vI (((g:Nat):Int)-1)),(19,vI d),(20,vI (m:Int))]) (fun _ _ z=>[(59,.arr k 1 3 (List.map eI z)),(77,.arr 0 1 3 (List.map eI (iL qn)))]) (fun m d z=>AbI (dig K9 (D*F)) (List.set w (jn+((iL (dig K9 (D*F))).length)) ((w.getD (jn+((iL (dig K9 (D*F))).length)) 0)-c)) jn ((iL (dig K9 (D*F))).length) m d z) (fun m _ _=>((iL (dig K9 (D*F))).length)-m) 0 0 (List.set w (jn+(iL (dig K9 (D*F))).length) ((w.getD (jn+(iL (dig K9 (D*F))).length) 0)-c)) Z ?_ (sb Z Z Z) ?_)
   · exact ab_init hMd
   intro m d z hI3
   have hd0:=hI3.d0
   have hd1:=hI3.d1
   have hzl:=hI3.len.trans hMd.len
   have hzt:=ab_top hI3 hMd
   have hvm:=kZ hVd m
   have hw1l:=hMd.len
   refine Cp Z Z (fun h8=>?_) (fun h8=>?_)
   ·have hzd:=hI3.dig (m+jn) aa
    refine E Z (B.add Z Z dx) (E Z (B.idxE (n:=(m+jn)) Z Z Z jy sz3 aa dw) (E Z (B.loadE (z0:=0) Z Z ag3 sz3 dw Z) (E Z (B.idx (z:=0) Z Z jy sz3 (fun _=>rfl) Z dw) (E Z (B.add Z Z dx) (E Z (B.add Z Z dx) (Dr Z ae (E Z (B.add Z Z dx) (E Z (B.remN Z Z dw ah) (E Z (B.idxE (n:=(m+jn)) Z Z Z jy sz3 aa dw) (E Z (B.setE (z0:=((((z.getD (m+jn) 0)+(getD (iL (dig K9 (D*F))) m 0))+d)%1000000000)) Z Z Z Z Z sz3 dw (fun _=>rfl)) (E Z (B.quoN Z Z dw ah dx) (E Z (B.add Z Z dx) (pk Z (L3 (m+1) ((((z.getD (m+jn) 0)+(getD (iL (dig K9 (D*F))) m 0))+d) / 1000000000) (List.set z (m+jn) ((((z.getD (m+jn) 0)+(getD (iL (dig K9 (D*F))) m 0))+d)%1000000000)) ?_ ?_ (sb Z Z Z)))))))))))))))
    · exact ab_next hI3 hVd aa aa
    · omega
   refine E Z (B.add Z Z dx) (E Z (B.add Z Z dx) (E Z (B.idxE (n:=(jn+(iL (dig K9 (D*F))).length)) Z Z Z jy sz3 aa dw) (E Z (B.loadE (z0:=0) Z Z ag3 sz3 dw Z) (E Z (B.add Z Z dx) (E Z (B.idxE (n:=(jn+(iL (dig K9 (D*F))).length)) Z Z Z jy sz3 aa dw) (E Z (B.setE (z0:=((z.getD (jn+(iL (dig K9 (D*F))).length) 0)+d)) Z Z Z Z Z sz3 dw (fun _=>rfl)) (E Z (B.idxE Z Z Z jy sz3 Z dw) (E Z (B.setE (z0:=(((g:Nat):Int)-1)) Z Z Z Z Z sz3 dw (fun _=>rfl)) (E Z (B.sub Z Z dx) (pk Z (L3 (((jn:Nat):Int)-1) (List.set z (jn+(iL (dig K9 (D*F))).length) ((z.getD (jn+(iL (dig K9 (D*F))).length) 0)+d)) (List.set (iL qn) jn (((g:Nat):Int)-1)) ?_ ?_ (sb Z Z Z))))))))))))
   · first|exact dz_2 hLd hV0 hlV hu1 hq1 hjq hg2 hMd h7 hI3 aa|exact dz_1 hLd hV0 hlV hu1 hq1 hjq hg1 hMd h7
   · omega
  refine E Z (B.idxE Z Z Z jy sz3 Z dw) (E Z (B.setE (z0:=(g:Int)) Z Z Z Z Z sz3 dw (fun _=>rfl)) (E Z (B.sub Z Z dx) (pk Z (L3 (((jn:Nat):Int)-1) (List.set w (jn+(iL (dig K9 (D*F))).length) ((w.getD (jn+(iL (dig K9 (D*F))).length) 0)-c)) (List.set (iL qn) jn (g:Int)) ?_ ?_ (sb Z Z Z)))))
  · first|exact dz_2 hLd hV0 hlV hu1 hq1 hjq hg2 hMd h7 hI3 aa|exact dz_1 hLd hV0 hlV hu1 hq1 hjq hg1 hMd h7
  · omega
 have hDe:=do_e hI1 aa hB hF0 hlV aa
 have hdl1:(take ((iL (dig K9 (D*F))).length) u).length<=1000000000:=by rw[zn];omega
 have hdl2:q.length<=1000000000:=aa
 have hdu:=do_l hI1
 have hXl:=dv_xl (A:=A) hF1 hB hDl
 exact Fz 40 11 Z Z Z (Fz 40 12 Z Z Z (E Z (B.slT Z Z jy sz3 Z dw) (C Z (w259w hDe.1 hdl1) Z Z Z (E Z (B.idx (z:=0) Z Z jy sz3 (fun _=>rfl) Z dw) (C Z (w258e A D F hXl hF0 hF1) Z Z Z (Dr Z ae (C Z (w259w hDe.2 hdl2) Z Z Z (Rt Z (leaf Z Z)))))))))
abbrev azD (z:Int):DV:=.pv (.agg [pB (decide (z<0)),.slice (List.map eI (iL (dig K9 (natAbs z))))])
theorem k9p (k:Nat):K9 ^ k*K9=K9 ^ (k+1):=(KN ..).symm
section
variable {m n k:Nat} {x y:Int}
theorem dl_g (h1:m<K9 ^ k) (h2:n<K9 ^ k):m+n<K9 ^ (k+1):=by
 rw[<-k9p]
 generalize K9 ^ k=p at*
 have:p*2<=p*K9:=Xw p ah
 omega
theorem dl_h (h1:m<K9 ^ k) (h2:n<K9 ^ k):m*n<K9 ^ (k+k):=by
 rw[Wh]
 exact Jn h1 h2
theorem dl_a (hm:(dig K9 m).length<=100000) (hn:(dig K9 n).length<=100000):(dig K9 (m+n)).length<=1000000000:=by
 refine qd (je js (k:=100000+1) ?_) ah
 have h1:=XJ (jB js m) (Xj (show 0<K9 by decide) hm)
 have h2:=XJ (jB js n) (Xj (show 0<K9 by decide) hn)
 exact dl_g (k:=100000) h1 h2
theorem dl_s (hm:(dig K9 m).length<=100000) (_:(dig K9 n).length<=100000):(dig K9 (m-n)).length<=1000000000:=
 qd (dv_al' (Nat.sub_le m n)) (qd hm ah)
theorem dl_m (hm:(dig K9 m).length<=100000) (hn:(dig K9 n).length<=100000):(dig K9 (m*n)).length<=1000000000:=by
 refine qd (je js (k:=100000+100000) ?_) ah
 have h1:=XJ (jB js m) (Xj (show 0<K9 by decide) hm)
 have h2:=XJ (jB js n) (Xj (show 0<K9 by decide) hn)
 exact dl_h (k:=100000) h1 h2
theorem w218d (m n:Nat) (hm:(dig K9 m).length<=100000) (hn:(dig K9 n).length<=100000):CKa 150 [vL eI (iL (dig K9 m)),vL eI (iL (dig K9 n))] (vL eI (iL (dig K9 (m+n)))):=by
 have h:=w218 (dig K9 m) (dig K9 n) (jc js _) (jc js _) (qd hm ah) (qd hn ah) (nz_dig js _) (nz_dig js _)
 rw[qO js,qO js] at h
 exact h
theorem w220d (m n:Nat) (hm:(dig K9 m).length<=100000) (hn:(dig K9 n).length<=100000) (hv:n<=m):CKa 152 [vL eI (iL (dig K9 m)),vL eI (iL (dig K9 n))] (vL eI (iL (dig K9 (m-n)))):=by
 have h:=w220 (dig K9 m) (dig K9 n) (jc js _) (jc js _) (qd hm ah) (qd hn ah) (dv_al' hv) (by rw[qO js,qO js];exact hv)
 rw[qO js,qO js] at h
 exact h
theorem w221d (m n:Nat) (hm:(dig K9 m).length<=100000) (hn:(dig K9 n).length<=100000):CKa 153 [vL eI (iL (dig K9 m)),vL eI (iL (dig K9 n))] (vL eI (iL (dig K9 (m*n)))):=by
 have h:=w221 (dig K9 m) (dig K9 n) (jc js _) (jc js _) (qd hm ah) (qd hn ah)
 rw[qO js,qO js] at h
 exact h
theorem w215d (b:Bool) (n:Nat) (hn:(dig K9 n).length<=1000000000):CKa 149 [vB b,vL eI (iL (dig K9 n))] (azD (sgn b n)):=by
 have h:=w215 b (dig K9 n) (jc js _) hn
 rw[qO js] at h
 exact h
theorem pm_a (h:0<=cmpN m n):n<=m:=by
 rcases KJ m n with g|g
 ·rw[cmp_lt' g] at h;exact absurd h ah
 exact g
theorem pm_b (h:¬0<=cmpN m n):m<=n:=by
 rcases KJ n m with g|g
 ·rw[cmp_gt' g] at h;exact absurd ah h
 exact g
theorem rpl_1 (h:(decide (x<0)==decide (y<0))=true):sgn (decide (x<0)) (x.natAbs+y.natAbs)=x+y:=by
 unfold sgn
 have:=Jq.1 (eq_of_beq h)
 by_cases hx:x<0
 ·rw[WK (zl hx)];have:=this.1 hx;omega
 rw[WJ (by simpa using hx)];omega
theorem rpl_2 (hb:(decide (x<0)==decide (y<0))=false) (h2:0<=cmpN x.natAbs y.natAbs):sgn (decide (x<0)) (x.natAbs-y.natAbs)=x+y:=by
 have h:¬decide (x<0)=decide (y<0):=ne_of_beq_false hb
 have:=pm_a h2
 unfold sgn
 rw[Jq] at h
 by_cases hx:x<0
 ·rw[WK (zl hx)]
  by_cases hy:y<0
  ·exact absurd ⟨fun _=>hy,fun _=>hx⟩ h
  omega
 rw[WJ (by simpa using hx)]
 by_cases hy:y<0
 ·omega
 exact absurd ⟨fun q=>absurd q hx,fun q=>absurd q hy⟩ h
theorem pl_3 (hb:(decide (x<0)==decide (y<0))=false) (h2:¬0<=cmpN x.natAbs y.natAbs):sgn (decide (y<0)) (y.natAbs-x.natAbs)=x+y:=by
 have h:¬decide (x<0)=decide (y<0):=ne_of_beq_false hb
 have:=pm_b h2
 unfold sgn
 rw[Jq] at h
 by_cases hy:y<0
 ·rw[WK (zl hy)]
  by_cases hx:x<0
  ·exact absurd ⟨fun _=>hy,fun _=>hx⟩ h
  omega
 rw[WJ (by simpa using hy)]
 by_cases hx:x<0
 ·omega
 exact absurd ⟨fun q=>absurd q hx,fun q=>absurd q hy⟩ h
theorem pl_4:sgn (!(decide (x<0)==decide (y<0))) (x.natAbs*y.natAbs)=x*y:=by
 unfold sgn
 rw[Jx]
 by_cases hx:x<0
 ·have ex:x= -(x.natAbs:Int):=aa
  by_cases hy:y<0
  ·have ey:y= -(y.natAbs:Int):=aa
   rw[zl hx,zl hy]
   show (x.natAbs:Int)*(y.natAbs:Int)=x*y
   generalize x.natAbs=a at*
   generalize y.natAbs=b at*
   rw[ex,ey,Int.neg_mul_neg]
  have ey:y=(y.natAbs:Int):=aa
  rw[zl hx,zk hy]
  show -(((x.natAbs:Nat):Int)*(y.natAbs:Int))=x*y
  generalize x.natAbs=a at*
  generalize y.natAbs=b at*
  rw[ex,ey,K7]
 have ex:x=(x.natAbs:Int):=aa
 by_cases hy:y<0
 ·have ey:y= -(y.natAbs:Int):=aa
  rw[zk hx,zl hy]
  show -(((x.natAbs:Nat):Int)*(y.natAbs:Int))=x*y
  generalize x.natAbs=a at*
  generalize y.natAbs=b at*
  rw[ex,ey,K4]
 have ey:y=(y.natAbs:Int):=aa
 rw[zk hx,zk hy]
 show (x.natAbs:Int)*(y.natAbs:Int)=x*y
 generalize x.natAbs=a at*
 generalize y.natAbs=b at*
 rw[ex,ey]
theorem pl_5:sgn (!decide (x<0)) x.natAbs= -x:=by
 unfold sgn
 by_cases hx:x<0
 ·rw[zl hx];simp;omega
 rw[zk hx];simp;omega
theorem cm_p {q:Nat} (h:0<(((iL (dig K9 q)).length:Nat):Int)):0<q:=by
 rw[qB] at h
 exact ZX.1 aa
theorem cm_n {a b p q:Nat} (h:gcd p q=gcd a b/\(dig K9 p).length<=100000/\(dig K9 q).length<=100000) (hq:0<q):gcd q (p%q)=gcd a b/\(dig K9 q).length<=100000/\(dig K9 (p%q)).length<=100000:=by
 obtain⟨h1,h2,h3⟩:=h
 refine⟨?_,h3,qd (dv_al' (KH (Wu _ hq))) h3⟩
 rw[<-h1,KF p q,Nat.gcd_rec q p,KF]
theorem cm_e {a b p q:Nat} (h:gcd p q=gcd a b/\(dig K9 p).length<=100000/\(dig K9 q).length<=100000) (h1:¬0<(((iL (dig K9 q)).length:Nat):Int)):iL (dig K9 p)=iL (dig K9 (gcd a b)):=by
 rw[qB] at h1
 have hq:q=0:=by
  rcases XG q with e|e
  ·exact e
  have:=ZX.2 e;omega
 rw[hq,XH] at h
 rw[h.1]
theorem gc_n {a b p q:Nat} (h:gcd p q=gcd a b) (_:0<(q:Int)):gcd q (p%q)=gcd a b:=by
 rw[<-h,KF p q,Nat.gcd_rec q p,KF]
theorem gc_e {a b p q:Nat} (h:gcd p q=gcd a b) (h1:¬0<(q:Int)):(p:Int)=((gcd a b:Nat):Int):=by
 have hq:q=0:=aa
 rw[hq,XH] at h
 rw[h]
end
theorem w159 (x y:Int) (ha:(dig K9 (natAbs x)).length<=100000) (hb:(dig K9 (natAbs y)).length<=100000):CKa 85 [.pv (.agg [pB (decide (x<0)),pL eI (iL (dig K9 (natAbs x)))]),.pv (.agg [pB (decide (y<0)),pL eI (iL (dig K9 (natAbs y)))])] (.pv (.agg [pB (decide ((x+y)<0)),pL eI (iL (dig K9 (natAbs (x+y))))])):=by
 refine cG qf85 Z (nB Z) Z (E Z (B.bN Z Z) (E Z (B.bqB Z Z un4) (Cb Z Z (fun h1=>?_) (fun h1=>?_))))
 ·exact C Z (w218d (natAbs x) (natAbs y) ha hb) Z Z Z (C Z (w215d (decide (x<0)) ((natAbs x)+(natAbs y)) (dl_a ha hb)) Z Z Z (Dr Z ae (Rt Z (lF Z dy))))
 refine C Z (w219 (natAbs x) (natAbs y) (qd ha ah) (qd hb ah)) Z Z Z (Cp Z Z (fun h2=>?_) (fun h2=>?_))
 ·exact C Z (w220d (natAbs x) (natAbs y) ha hb d5) Z Z Z (C Z (w215d (decide (x<0)) ((natAbs x)-(natAbs y)) (dl_s ha hb)) Z Z Z (Dr Z ae (Rt Z (lF Z dy))))
 exact C Z (w220d (natAbs y) (natAbs x) hb ha d5) Z Z Z (C Z (w215d (decide (y<0)) ((natAbs y)-(natAbs x)) (dl_s hb ha)) Z Z Z (Dr Z ae (Rt Z (lF Z dy))))
theorem w160 (x y:Int) (ha:(dig K9 (natAbs x)).length<=100000) (hb:(dig K9 (natAbs y)).length<=100000):CKa 86 [.pv (.agg [pB (decide (x<0)),pL eI (iL (dig K9 (natAbs x)))]),.pv (.agg [pB (decide (y<0)),pL eI (iL (dig K9 (natAbs y)))])] (.pv (.agg [pB (decide ((x*y)<0)),pL eI (iL (dig K9 (natAbs (x*y))))])):=by
 exact cG qf86 Z (nB Z) Z (E Z (B.bN Z Z) (E Z (B.bnB Z Z un4) (C Z (w221d (natAbs x) (natAbs y) ha hb) Z Z Z (C Z (w215d (!((decide (x<0))==(decide (y<0)))) ((natAbs x)*(natAbs y)) (dl_m ha hb)) Z Z Z (Dr Z ae (Rt Z (lF Z (by first|exact WD azD (pl_4)|rfl))))))))
theorem w213 (x:Int) (ha:(dig K9 (natAbs x)).length<=100000):CKa 147 [.pv (.agg [pB (decide (x<0)),pL eI (iL (dig K9 (natAbs x)))])] (.pv (.agg [pB (decide ((-x)<0)),pL eI (iL (dig K9 (natAbs (-x))))])):=by
 exact cG qf147 Z (nB Z) Z (E Z (B.bN Z Z) (C Z (w215d (!(decide (x<0))) (natAbs x) (qd ha ah)) Z Z Z (Rt Z (lF Z (by first|exact WD azD (pl_5)|rfl)))))
theorem w195 (a b:Nat) (ha:(dig K9 a).length<=100000) (hb:(dig K9 b).length<=100000):CKa 124 [vL eI (iL (dig K9 a)),vL eI (iL (dig K9 b))] (vL eI (iL (dig K9 (gcd a b)))):=by
 refine cG qf124 Z (nB Z) Z (E Z (B.nilS (enc:=eI) Z) (l2 (fun (p:Nat) (q:Nat)=>[(0,vL eI (iL (dig K9 p))),(1,vL eI (iL (dig K9 q)))]) (fun _ _=>[]) (fun p q=>gcd p q=gcd a b/\List.length (dig K9 p)<=100000/\List.length (dig K9 q)<=100000) (fun _ q=>q) a b Z ?_ (sb Z Z Z) ?_))
 · exact⟨rfl,ha,hb⟩
 intro p q hI0
 refine E Z (B.ju Z jy) (Cp Z Z (fun h1=>?_) (fun h1=>?_))
 ·refine C Z (w214 p q (cm_p h1) aa aa) Z Z Z (pk Z (L2 q (p%q) ?_ ?_ (sb Z Z Z)))
  · exact cm_n hI0 (cm_p h1)
  · exact Wu _ (cm_p h1)
 exact Rt Z (lF Z (lsl (by exact cm_e hI0 h1)))
theorem w154 (a b:Nat) (ha:a<9223372036854775808) (hb:b<9223372036854775808):CKa 144 [vI (a:Int),vI (b:Int)] (vI (((gcd a b):Nat):Int)):=by
 refine cG qf144 Z (nB Z) Z (l2 (fun (p:Nat) (q:Nat)=>[(0,vI (p:Int)),(1,vI (q:Int))]) (fun _ _=>[]) (fun p q=>gcd p q=gcd a b) (fun _ q=>q) a b Z ?_ (sb Z Z Z) ?_)
 · exact rfl
 intro p q hI0
 refine Cp Z Z (fun h1=>?_) (fun h1=>?_)
 ·refine E Z (B.rem Z Z aa) (Dr Z ae (pk Z (L2 q (p%q) ?_ ?_ (sb Z Z Z))))
  · exact gc_n hI0 h1
  · exact Wu _ aa
 exact Rt Z (lF Z (li (by exact gc_e hI0 h1)))
theorem dgs_eq:∀ {s t:Nb},Dgs s->Dgs t->s.length=t.length->jp s=jp t->s=t:=by
 intro s
 induction s with
 | nil=>intro t _ _ h _;exact (QS.1 h.symm).symm
 | cons c s ih=>
  intro t hs ht hl hv
  cases t with
  | nil=>cases hl
  | cons d t=>
   have hs':Dgs s:=fun x hx=>hs x (zN _ hx)
   have ht':Dgs t:=fun x hx=>ht x (zN _ hx)
   have hl':s.length=t.length:=by simpa using hl
   have e1:=kV [c] s
   have e2:=kV [d] t
   rw[decV_one] at e1 e2
   have l1:=kq hs'
   have l2:=kq ht'
   have c1:=hs c (qh ..)
   have d1:=ht d (qh ..)
   rw[show [c]++s=c::s from rfl] at e1
   rw[show [d]++t=d::t from rfl] at e2
   rw[e1,e2,hl'] at hv
   rw[hl'] at l1
   have hc:dgv c=dgv d:=by
    generalize 10 ^ t.length=P at*
    rcases Nat.lt_trichotomy (dgv c) (dgv d) with h|h|h
    ·have:=Xh P (show dgv c+1<=dgv d from h)
     rw[Wa,Wg] at this;omega
    ·exact h
    have:=Xh P (show dgv d+1<=dgv c from h)
    rw[Wa,Wg] at this;omega
   rw[hc] at hv
   rw[ih hs' ht' hl' aa]
   congr 1
   refine JU.1 ?_
   unfold dgv at hc
   omega
def DcI (n m p:Nat) (s:Nb):Prop:=Dgs s/\jp s+10 ^ s.length*p=n/\(s.length<=m\/10 ^ (s.length-1)<=n)
section
variable {n m p:Nat} {s:Nb}
theorem dc_0 (hm:1<=m):DcI n m n []:=⟨fun _ hc=>absurd hc qi,by simp[jp],.inl ao⟩
theorem dc_l (h:DcI n m p s) (hn:n<9223372036854775808) (hm:m<=100):s.length<=100:=by
 rcases h.2.2 with g|g
 ·omega
 rcases KJ s.length 21 with k|k
 ·omega
 have:=Xj (show 0<10 by decide) (show 20<=s.length-1 by omega)
 omega
theorem dc_p (h:DcI n m p s):p<=n:=by
 have:=QY p (Wj (n:=s.length) (show 0<10 by decide))
 have:=h.2.1
 omega
theorem dc_d (d:Nat) (h:d<10):(Zc.take (d+1)).drop d=[UInt8.ofNat (48+d)]:=by
 have key:∀ d,d<10->(Zc.take (d+1)).drop d=[UInt8.ofNat (48+d)]:=ah
 exact key d h
theorem dc_s:drop (toNat (((p:Nat):Int)%10)) (take (toNat (((p:Int)%10)+1)) [48,49,50,51,52,53,54,55,56,57])=[UInt8.ofNat (48+p%10)]:=by
 rw[show toNat (((p:Nat):Int)%10)=p%10 by omega,show toNat (((p:Int)%10)+1)=p%10+1 by omega]
 exact dc_d _ (Wu _ ah)
theorem dc_or {a b:Prop} [Decidable a] [Decidable b] (h1:(bif decide a then true else decide b)=true):a\/b:=by grind
theorem dc_no {a b:Prop} [Decidable a] [Decidable b] (h1:(bif decide a then true else decide b)=false):¬a/\¬b:=by grind
theorem dc_n (h:DcI n m p s) (h1:(bif decide (0<(p:Int)) then true else decide (((s.length:Nat):Int)<(m:Int)))=true):DcI n m (p / 10) ([UInt8.ofNat (48+p%10)]++s):=by
 obtain⟨a,b,c⟩:=h
 have hd:=dg_byte (d:=p%10) (Wu _ ah)
 have hlt:p%10<10:=Wu _ ah
 have hg:dgv (UInt8.ofNat (48+p%10))=p%10:=by unfold dgv;rw[hd];omega
 refine⟨?_,?_,?_⟩
 ·exact Dgs.app (fun x hx=>by rw[zg.1 hx,hd];omega) a
 ·rw[kV,decV_one,hg,za,z6,Wh,Nat.pow_one]
  have e:=JL p 10
  grind
 rw[za,z6]
 rcases dc_or h1 with g|g
 ·right
  rw[QU]
  have:=QV (10 ^ s.length) (show 0<p by omega)
  omega
 left;omega
theorem dc_m (h1:(bif decide (0<(p:Int)) then true else decide (((s.length:Nat):Int)<(m:Int)))=true):p / 10+(m-([UInt8.ofNat (48+p%10)]++s).length)<p+(m-s.length):=by grind
theorem pad_len (k n:Nat):(padN k n).length=max k (decDigits n).length:=by unfold padN;rw[za,qa];omega
theorem pad_dgs (k n:Nat):Dgs (padN k n):=(dgs_zeros _).app (jE n)
theorem pad_val (k n:Nat):jp (padN k n)=n:=by unfold padN;rw[kV,decV_zeros,jG,KU,KT]
theorem dc_e (h:DcI n m p s) (h1:(bif decide (0<(p:Int)) then true else decide (((s.length:Nat):Int)<(m:Int)))=false) (hm:1<=m):s=padN m n:=by
 obtain⟨a,b,c⟩:=h
 obtain⟨g1,g2⟩:=dc_no h1
 have hp:p=0:=aa
 rw[hp,KM,KD] at b
 refine dgs_eq a (pad_dgs m n) ?_ (by rw[pad_val,b])
 rw[pad_len]
 have l1:=kq a
 rw[b] at l1
 have l2:=dec_len (n:=n) (k:=s.length) aa l1
 rcases c with c|c
 ·omega
 have l3:=kq (jE n)
 rw[jG] at l3
 have:s.length-1<(decDigits n).length:=(Nat.pow_lt_pow_iff_right (show 1<10 by decide)).1 (XI c l3)
 omega
end
theorem k9_10 (k:Nat):K9 ^ k=10 ^ (9*k):=by rw[Wi]
theorem dec_k9 {n k:Nat} (hk:0<k) (h:n<K9 ^ k):(decDigits n).length<=9*k:=dec_len aa (by rw[<-k9_10];exact h)
def TxI (z i:Int) (s:Nb):Prop:= -1<=i/\i+1<(dig K9 z.natAbs).length/\s=decDigits (val K9 ((dig K9 z.natAbs).drop (i+1).toNat))
section
variable {z i:Int} {s:Nb}
theorem tx_9 (k:Nat):(decDigits ((iL (dig K9 z.natAbs)).getD k 0).toNat).length<=9:=by
 have h:=kZ (jc js z.natAbs) k
 exact dec_len ah (by have e:(10:Nat) ^ 9=1000000000:=rfl;omega)
theorem tx_0 (h:¬(((iL (dig K9 z.natAbs)).length:Nat):Int)=0):TxI z ((((iL (dig K9 z.natAbs)).length:Nat):Int)-2) (padN 1 (toNat ((iL (dig K9 z.natAbs)).getD ((iL (dig K9 z.natAbs)).length-1) 0))):=by
 rw[qB] at h ⊢
 refine⟨aa,aa,?_⟩
 rw[show ((((dig K9 z.natAbs).length:Nat):Int)-2+1).toNat=(dig K9 z.natAbs).length-1 by omega,jQ,zT,drop_cons aa,zV aa,val_one]
 unfold padN
 have:=Un.ZE ((dig K9 z.natAbs).getD ((dig K9 z.natAbs).length-1) 0)
 have h1:0<(decDigits ((dig K9 z.natAbs).getD ((dig K9 z.natAbs).length-1) 0)).length:=Xr.2 this
 rw[show 1-(decDigits ((dig K9 z.natAbs).getD ((dig K9 z.natAbs).length-1) 0)).length=0 by omega];rfl
theorem tx_l (h:TxI z i s) (hz:(dig K9 z.natAbs).length<=100000):s.length<=900000:=by
 obtain⟨h1,h2,rfl⟩:=h
 have hl:=jR ((jc js z.natAbs).drop (i+1).toNat)
 rw[zo] at hl
 have:=dec_k9 aa hl
 omega
theorem tx_n (h:TxI z i s) (h0:0<=i):TxI z (i-1) (s++padN 9 (toNat ((iL (dig K9 z.natAbs)).getD i.toNat 0))):=by
 obtain⟨h1,h2,rfl⟩:=h
 refine⟨aa,aa,?_⟩
 have hlt:=(jc js z.natAbs).get (show 0<K9 by decide) i.toNat
 rw[show (i-1+1).toNat=i.toNat by omega,show (i+1).toNat=i.toNat+1 by omega,ZJ (k:=i.toNat) aa,jQ,zT]
 have e:=dec_pad (q:=val K9 ((dig K9 z.natAbs).drop (i.toNat+1))) (k:=9) ?_ ah hlt
 ·grind
 have hne:(dig K9 z.natAbs).drop (i.toNat+1)≠[]:=by
  grind [List.length_drop]
 have hnz:Nz ((dig K9 z.natAbs).drop (i.toNat+1)):=fun x hx=>nz_dig js z.natAbs x (by rw[List.getLast?_drop] at hx;split at hx<;>simp_all)
 have:=nz_pos js hnz hne
 grind
theorem tx_v (h:TxI z i s) (h0:¬0<=i):s=decDigits z.natAbs:=by
 obtain⟨h1,h2,rfl⟩:=h
 rw[show (i+1).toNat=0 by omega,J3,qO js]
theorem tx_e1 (h:TxI z i s) (h0:¬0<=i) (h3:z<0):[45]++s=Lib.itoa z:=by rw[tx_v h h0,Lib.itoa,WK h3];rfl
theorem tx_e2 (h:TxI z i s) (h0:¬0<=i) (h3:¬z<0):s=Lib.itoa z:=by rw[tx_v h h0,Lib.itoa,WJ h3,show z.natAbs=z.toNat by omega]
theorem tx_z (h:(((iL (dig K9 z.natAbs)).length:Nat):Int)=0):[48]=Lib.itoa z:=by
 rw[qB] at h
 have:z.natAbs=0:=dig_nil js (QS.1 aa)
 have hz:z=0:=aa
 subst hz
 decide +kernel
end
theorem w155 (n m:Nat) (hn:n<9223372036854775808) (hm0:1<=m) (hm:m<=100):CKa 145 [vI (n:Int),vI (m:Int)] (vS (bsO (padN m n))):=by
 refine cG qf145 Z (nB Z) Z (l2 (fun (p:Nat) (s:Nb)=>[(0,vI (p:Int)),(1,vI (m:Int)),(5,vS (bsO s))]) (fun _ _=>[]) (fun p s=>DcI n m p s) (fun p s=>p+(m-s.length)) n [] Z ?_ (sb Z Z Z) ?_)
 · exact dc_0 hm0
 intro p s hI0
 have hsl:=dc_l hI0 hn hm
 have hpn:=dc_p hI0
 refine Em Z Z Z Z ?_
 refine Eg Z Z (fun hc=>B.ZM (qu Z hc) un9) Z ?_
 refine Em Z Z Z Z ?_
 refine Eg Z Z (fun hc=>B.lss (qu Z hc) (qu Z hc)) Z (E Z (B.pO Z Z Z Z Z) (Cb Z Z (fun h1=>?_) (fun h1=>?_)))
 ·refine E Z (B.remN Z Z de ah) (E Z (B.remN Z Z de ah) (E Z (B.add Z Z bg) (E Z (B.slMB Z Z Z un9 (Xl de).symm (Xl de).symm de de) (E Z (B.catB Z Z (by simp only[zo,zn,zb,zd];omega)) (E Z (B.quoN Z Z de ah bg) (pk Z (L2 (p / 10) ((drop (toNat (((p:Nat):Int)%10)) (take (toNat (((p:Int)%10)+1)) [48,49,50,51,52,53,54,55,56,57]))++s) ?_ ?_ (sb Z Z Z))))))))
  · (rw[dc_s];exact dc_n hI0 h1)
  · (rw[dc_s];exact dc_m h1)
 exact Rt Z (lF Z (ls (by exact WD bsO (dc_e hI0 h1 hm0))))
theorem w155i (x:Int) (m:Nat) (h0:0<=x) (h1:x<1000000000) (hm0:1<=m) (hm:m<=100):CKa 145 [vI x,vI (m:Int)] (vS (bsO (padN m x.toNat))):=by
 have h:=w155 x.toNat m aa hm0 hm
 grind
theorem w161 (z:Int) (hz:(dig K9 (natAbs z)).length<=100000):CKa 126 [.pv (.agg [pB (decide (z<0)),pL eI (iL (dig K9 (natAbs z)))])] (vS (bsO (Lib.itoa z))):=by
 refine cG qf126 Z (nB Z) Z ?_
 have hlz:=qB (l:=dig K9 (natAbs z))
 refine E Z (B.ju Z jy) (Cp Z Z (fun h1=>?_) (fun h1=>?_))
 ·exact Rt Z (lF Z (ls d6))
 refine E Z (B.ju Z jy) (E Z (B.sub Z Z bg) (E Z (B.idx (z:=0) (i:=((iL (dig K9 (natAbs z))).length-1)) Z Z jy sz3 (fun _=>rfl) (by first|exact (Xl aa).symm|omega) aa) (C Z (w155i (getD (iL (dig K9 (natAbs z))) ((iL (dig K9 (natAbs z))).length-1) 0) 1 (kZ (jc js _) _).1 (kZ (jc js _) _).2 ah ah) Z Z Z (E Z (B.ju Z jy) (E Z (B.sub Z Z bg) (l2 (fun (i:Int) (s:Nb)=>[(1,.bref 2 0),(3,vS (bsO s)),(4,vI i)]) (fun _ _=>[(2,.box 136 [vB (decide (z<0)),vL eI (iL (dig K9 (natAbs z)))])]) (fun i s=>TxI z i s) (fun i _=>toNat (i+1)) ((((iL (dig K9 (natAbs z))).length:Nat):Int)-2) (padN 1 (toNat (getD (iL (dig K9 (natAbs z))) ((iL (dig K9 (natAbs z))).length-1) 0))) Z ?_ (sb Z Z Z) ?_))))))
 · exact tx_0 h1
 intro i s hI0
 have hi1:=hI0.1
 have hi2:=hI0.2.1
 have hsl:=tx_l hI0 hz
 refine Cp Z Z (fun h2=>?_) (fun h2=>?_)
 ·refine E Z (B.idx (z:=0) (i:=(toNat i)) Z Z jy sz3 (fun _=>rfl) (Xl aa).symm aa) (C Z (w155i (getD (iL (dig K9 (natAbs z))) (toNat i) 0) 9 (kZ (jc js _) _).1 (kZ (jc js _) _).2 ah ah) Z Z Z (E Z (B.catB (a:=s) (b:=(padN 9 (toNat (getD (iL (dig K9 (natAbs z))) (toNat i) 0)))) Z Z d7) (E Z (B.sub Z Z bg) (pk Z (L2 (i-1) (s++(padN 9 (toNat (getD (iL (dig K9 (natAbs z))) (toNat i) 0)))) ?_ ?_ (sb Z Z Z))))))
  · exact tx_n hI0 h2
  · omega
 refine Cp Z Z (fun h3=>?_) (fun h3=>?_)
 ·exact E Z (B.catB (a:=[45]) (b:=s) Z Z d7) (Rt Z (lF Z (ls d6)))
 exact Rt Z (lF Z (ls d6))
def slN:Nb->Nat
 | []=>0
 | c::l=>if c=47 then 0 else slN l+1
section
variable {s:Nb} {i:Nat} {n:Int}
theorem by_at (hk:i<s.length):byteAt (bsO s) i=((s[i].toNat:Nat):Int):=by grind [byteAt_bsO]
theorem sl_d (hk:i<s.length):s.drop i=s[i]::s.drop (i+1):=QB hk
theorem sl_c (hk:i<s.length):byteAt (bsO s) i=47↔s[i]=47:=by
 rw[by_at hk]
 constructor
 ·intro h
  have:s[i].toNat=47:=aa
  exact JU.1 this
 intro h;rw[h];rfl
theorem sl_n (h:i<=s.length/\slN s=i+slN (s.drop i)) (hk:i<s.length) (h2:¬byteAt (bsO s) i=47):i+1<=s.length/\slN s=(i+1)+slN (s.drop (i+1)):=by
 refine⟨hk,?_⟩
 rw[h.2,sl_d hk,slN,WJ (fun e=>h2 ((sl_c hk).2 e))];omega
theorem sl_a (h:i<=s.length/\slN s=i+slN (s.drop i)) (hk:i<s.length) (h2:byteAt (bsO s) i=47):(i:Int)=((slN s:Nat):Int):=by rw[h.2,sl_d hk,slN,WK ((sl_c hk).1 h2)];rfl
theorem sl_e (h:i<=s.length/\slN s=i+slN (s.drop i)) (h1:¬(i:Int)<(s.length:Int)):(s.length:Int)=((slN s:Nat):Int):=by
 have:=h.1
 rw[h.2,zV aa,slN];omega
theorem va_b (h:i<=s.length/\n=((jp (s.take i):Nat):Int)) (hd:Dgs s) (hi:i<=17):0<=n/\n<100000000000000000:=by
 have:=kq (hd.take i)
 have h2:10 ^ (s.take i).length<=10 ^ 17:=Xj ah cN
 omega
theorem va_c (hd:Dgs s) (hk:i<s.length):48<=byteAt (bsO s) i/\byteAt (bsO s) i<=57:=by
 rw[by_at hk]
 have:=hd _ (Jd hk)
 omega
theorem va_n (h:i<=s.length/\n=((jp (s.take i):Nat):Int)) (hd:Dgs s) (hk:i<s.length):10*n+byteAt (bsO s) i-48=((jp (s.take (i+1)):Nat):Int):=by
 rw[Qf hk,decV_snoc,h.2,by_at hk]
 have:=hd _ (Jd hk)
 unfold dgv
 omega
theorem va_e (h:i<=s.length/\n=((jp (s.take i):Nat):Int)) (h1:¬(i:Int)<(s.length:Int)):n=((jp s:Nat):Int):=by grind
end
def rdZ (s:Nb):Int:=sgn (jW s [45]) (jp (qC s [45]))
def PaI (s r:Nb) (w:List Int):Prop:=Dgs r/\(∃ o,w=iL o/\Dg K9 o/\jp (qC s [45])=val K9 o+K9 ^ o.length*jp r)/\r.length<=s.length/\w.length+r.length<=s.length
theorem w215w {w:List Int} {n:Nat} (b:Bool) (h:∃ o,w=iL o/\Dg K9 o/\val K9 o=n) (hl:w.length<=1000000000):CKa 149 [vB b,vL eI w] (azD (sgn b n)):=by
 obtain⟨o,rfl,h1,rfl⟩:=h
 exact w215 b o h1 (by rw[qB] at hl;exact hl)
section
variable {s r:Nb} {w:List Int}
theorem pr_h:(bif decide (0<(s.length:Int)) then decide (byteAt (bsO s) 0=45) else false)=jW s [45]:=by
 unfold jW
 cases s with
 | nil=>rfl
 | cons c l=>
  rw[by_at (show 0<(c::l).length by simp)]
  have e1:decide (0<(((c::l).length:Nat):Int))=true:=zl d8
  have e2:decide (([45]:Nb).length<=(c::l).length)=true:=zl ao
  rw[e1,e2]
  have e3:((((c::l)[0].toNat:Nat):Int)=45)↔((c::l).take ([45]:Nb).length=[45]):=by
   simp only[QX,z6,Xu,J8,Jz,WC]
   constructor
   ·intro h
    exact JU.1 (show c.toNat=45 by omega)
   rintro rfl;rfl
  exact Jq.2 e3
theorem pr_t (h:(bif decide (0<(s.length:Int)) then decide (byteAt (bsO s) 0=45) else false)=true):qC s [45]=s.drop 1:=by
 rw[pr_h] at h
 unfold qC;rw[h];rfl
theorem pr_f (h:(bif decide (0<(s.length:Int)) then decide (byteAt (bsO s) 0=45) else false)=false):qC s [45]=s:=by
 rw[pr_h] at h
 unfold qC;rw[h];rfl
theorem pr_g (h:(bif decide (0<(s.length:Int)) then decide (byteAt (bsO s) 0=45) else false)=true):1<=s.length:=by grind
theorem pa_0 (hd:Dgs (qC s [45])) (e:qC s [45]=r):PaI s r []:=by
 subst e
 refine⟨hd,⟨[],rfl,dg_nil _,by simp[val]⟩,trimP_len s [45],?_⟩
 have:=trimP_len s [45]
 simpa using this
theorem pa_z:sgn (bif decide (0<(s.length:Int)) then decide (byteAt (bsO s) 0=45) else false) (jp (qC s [45]))=rdZ s:=by rw[pr_h];rfl
theorem pa_d (h:PaI s r w) {k:Nat}:Dgs (r.drop k):=h.1.drop k
theorem pa_r (h:PaI s r w):Dgs r:=h.1
theorem pa_l (h:PaI s r w) (hl:s.length<=900000):r.length<=900000/\w.length<=900000:=⟨by have:=h.2.2.1;omega,by have:=h.2.2.2;omega⟩
theorem pa_e (h:PaI s r w) (hr:r.length<=9):∃ o,w++[((jp r:Nat):Int)]=iL o/\Dg K9 o/\val K9 o=jp (qC s [45]):=by
 obtain⟨h1,⟨o,rfl,h2,h3⟩,_⟩:=h
 refine⟨o++[jp r],by rw[<-iL_app];rfl,h2.app (dg_one ?_),by rw[val_snoc,h3]⟩
 have l1:=kq h1
 have l2:10 ^ r.length<=10 ^ 9:=Xj ah hr
 grind
theorem pa_n (h:PaI s r w) (hr:9<r.length):PaI s (r.take (r.length-9)) (w++[((jp (r.drop (r.length-9)):Nat):Int)]):=by
 obtain⟨h1,⟨o,rfl,h2,h3⟩,h4,h5⟩:=h
 rw[qB] at h5
 have l1:=kq (h1.drop (r.length-9))
 rw[zo,show r.length-(r.length-9)=9 by omega] at l1
 refine⟨h1.take _,⟨o++[jp (r.drop (r.length-9))],by rw[<-iL_app];rfl,h2.app (dg_one l1),?_⟩,by rw[zn];omega,by rw[za,qB,zn];simp only[zb,zd];omega⟩
 have e:=kV (r.take (r.length-9)) (r.drop (r.length-9))
 rw[Q8,zo,show r.length-(r.length-9)=9 by omega,show (10:Nat) ^ 9=K9 from rfl] at e
 rw[h3,e,val_snoc,za,z6,KN,Wd]
 generalize K9=b at*
 grind
end
theorem w193 (s:Nb) (hl:s.length<=1000000000):CKa 122 [vS (bsO s)] (vI (((slN s):Nat):Int)):=by
 refine cG qf122 Z (nB Z) Z (l1 (fun (i:Nat)=>[(0,vS (bsO s)),(3,vI (i:Int))]) (fun _=>[]) (fun i=>i<=s.length/\slN s=i+slN (drop i s)) (fun i=>s.length-i) 0 Z ?_ (sb Z Z Z) ?_)
 · exact⟨zt _,by simp⟩
 intro i hI0
 refine E Z (B.ZM Z un9) (Cp Z Z (fun h1=>?_) (fun h1=>?_))
 ·refine E Z (B.sidx Z Z un9 Z (show i<List.length s from aa)) (Cp Z Z (fun h2=>?_) (fun h2=>?_))
  ·exact Rt Z (lF Z (li d9))
  refine E Z (B.add Z Z bg) (pk Z (L1 (i+1) ?_ ?_ (sb Z Z Z)))
  · exact sl_n hI0 aa h2
  · omega
 exact E Z (B.ZM Z un9) (Rt Z (lF Z (li d9)))
theorem w216 (s:Nb) (hd:Dgs s) (hl:s.length<=18):CKa 143 [vS (bsO s)] (vI (((jp s):Nat):Int)):=by
 refine cG qf143 Z (nB Z) Z (l2 (fun (i:Nat) (n:Int)=>[(0,vS (bsO s)),(3,vI n),(4,vI (i:Int))]) (fun _ _=>[]) (fun i n=>i<=s.length/\n=((jp (take i s):Nat):Int)) (fun i _=>s.length-i) 0 0 Z ?_ (sb Z Z Z) ?_)
 · exact⟨zt _,by simp[jp]⟩
 intro i n hI0
 refine E Z (B.ZM Z un9) (Cp Z Z (fun h1=>?_) (fun h1=>?_))
 ·have hvb:=va_b hI0 hd aa
  have hcb:=va_c hd (i:=i) aa
  refine E Z (B.mul Z Z bg) (E Z (B.sidx Z Z un9 Z (show i<List.length s from aa)) (E Z (B.toI Z un5 un3 bg Z) (E Z (B.add Z Z bg) (E Z (B.sub Z Z bg) (E Z (B.add Z Z bg) (pk Z (L2 (i+1) (((10*n)+(byteAt (bsO s) i))-48) ?_ ?_ (sb Z Z Z))))))))
  · exact⟨aa,va_n hI0 hd aa⟩
  · omega
 exact Rt Z (lF Z (li (by exact va_e hI0 h1)))
theorem w217 (s:Nb) (hd:Dgs (qC s [45])) (hl:s.length<=900000):CKa 146 [vS (bsO s)] (.pv (.agg [pB (decide ((rdZ s)<0)),pL eI (iL (dig K9 (natAbs (rdZ s))))])):=by
 refine cG qf146 Z (nB Z) Z (E Z (B.bN Z Z) (E Z (B.ZM Z un9) ?_))
 refine Em Z Z Z Z ?_
 refine Eg Z Z (fun hc=>B.sidx (qu Z hc) Z un9 Z (show 0<List.length s from dA)) Z (Eg Z Z (fun hc=>B.eql (qu Z hc) Z) Z (E Z (B.pA Z Z Z Z Z) (Cb Z Z (fun h1=>?_) (fun h1=>?_))))
 ·have hge:=pr_g h1
  refine E Z (B.slLB Z Z un9 Z dA) (E Z (B.adopt 5 1 3 Z Z) (l3 (fun (r:Nb) (w:List Int) (v:Nat)=>[(0,vS (bsO r)),(2,.bref 3 0),(3,vB (bif (decide (0<(s.length:Int))) then (decide ((byteAt (bsO s) 0)=45)) else false)),(4,.aref 5 v)]) (fun _ w v=>[(3,.box 136 [vB false,vL eI []]),(5,.arr v 1 3 (List.map eI w))]) (fun r w _=>PaI s r w) (fun r _ _=>r.length) (drop 1 s) [] 0 Z ?_ (sb Z Z Z) ?_))
  · first|exact pa_0 hd (pr_t h1)|exact pa_0 hd (pr_f h1)
  intro r w v hI0
  have hpl:=pa_l hI0 hl
  refine E Z (B.ZM Z un9) (Cp Z Z (fun h2=>?_) (fun h2=>?_))
  ·refine E Z (B.ZM Z un9) (E Z (B.sub Z Z bg) (E Z (B.slLB (i:=(r.length-9)) Z Z un9 aa dA) (C Z (w216 (drop (r.length-9) r) (pa_d hI0) dB) Z Z Z (E Z (B.zA (es:=List.map eI [(((jp (drop (r.length-9) r)):Nat):Int)]) Z) (E Z (B.append Z Z Z jy in3 Z (fun _=>rfl) by3 dA) (E Z (B.ZM Z un9) (E Z (B.sub Z Z bg) (E Z (B.slHB (j:=(r.length-9)) Z Z un9 aa dA) (pk Z (L3 (take (r.length-9) r) (w++[(((jp (drop (r.length-9) r)):Nat):Int)]) (v+1) ?_ ?_ (sb Z Z Z)))))))))))
   · exact pa_n hI0 aa
   · (rw[zn];omega)
  exact C Z (w216 r (pa_r hI0) aa) Z Z Z (E Z (B.zA (es:=List.map eI [(((jp r):Nat):Int)]) Z) (E Z (B.appendZ Z Z Z jy in3 Z (fun _=>rfl) by3 dA) (C Z (w215w (bif (decide (0<(s.length:Int))) then (decide ((byteAt (bsO s) 0)=45)) else false) (pa_e hI0 aa) dC) Z Z Z (Rt Z (lF Z dD)))))
 refine E Z (B.adopt 5 1 3 Z Z) (l3 (fun (r:Nb) (w:List Int) (v:Nat)=>[(0,vS (bsO r)),(2,.bref 3 0),(3,vB (bif (decide (0<(s.length:Int))) then (decide ((byteAt (bsO s) 0)=45)) else false)),(4,.aref 5 v)]) (fun _ w v=>[(3,.box 136 [vB false,vL eI []]),(5,.arr v 1 3 (List.map eI w))]) (fun r w _=>PaI s r w) (fun r _ _=>r.length) s [] 0 Z ?_ (sb Z Z Z) ?_)
 · first|exact pa_0 hd (pr_t h1)|exact pa_0 hd (pr_f h1)
 intro r w v hI0
 have hpl:=pa_l hI0 hl
 refine E Z (B.ZM Z un9) (Cp Z Z (fun h3=>?_) (fun h3=>?_))
 ·refine E Z (B.ZM Z un9) (E Z (B.sub Z Z bg) (E Z (B.slLB (i:=(r.length-9)) Z Z un9 aa dA) (C Z (w216 (drop (r.length-9) r) (pa_d hI0) dB) Z Z Z (E Z (B.zA (es:=List.map eI [(((jp (drop (r.length-9) r)):Nat):Int)]) Z) (E Z (B.append Z Z Z jy in3 Z (fun _=>rfl) by3 dA) (E Z (B.ZM Z un9) (E Z (B.sub Z Z bg) (E Z (B.slHB (j:=(r.length-9)) Z Z un9 aa dA) (pk Z (L3 (take (r.length-9) r) (w++[(((jp (drop (r.length-9) r)):Nat):Int)]) (v+1) ?_ ?_ (sb Z Z Z)))))))))))
  · exact pa_n hI0 aa
  · (rw[zn];omega)
 exact C Z (w216 r (pa_r hI0) aa) Z Z Z (E Z (B.zA (es:=List.map eI [(((jp r):Nat):Int)]) Z) (E Z (B.appendZ Z Z Z jy in3 Z (fun _=>rfl) by3 dA) (C Z (w215w (bif (decide (0<(s.length:Int))) then (decide ((byteAt (bsO s) 0)=45)) else false) (pa_e hI0 aa) dC) Z Z Z (Rt Z (lF Z dD)))))
section
variable {s a b:Nb} {q:Rat}
theorem sl_no (h:∀ x∈a,x≠47):slN a=a.length:=by
 induction a with
 | nil=>rfl
 | cons c l ih=>rw[slN,WJ (h c (qh ..)),ih (fun x hx=>h x (zN _ hx))];rfl
theorem sl_at (h:∀ x∈a,x≠47):slN (a++47::b)=a.length:=by
 induction a with
 | nil=>rfl
 | cons c l ih=>rw[zQ,slN,WJ (h c (qh ..)),ih (fun x hx=>h x (zN _ hx))];rfl
theorem hp_dg {l:Nb} (h:Dgs l):jW l [45]=false:=by
 unfold jW
 cases l with
 | nil=>rfl
 | cons c l=>
  have hc:=h c (qh ..)
  have:¬((c::l).take ([45]:Nb).length=[45]):=by
   intro e
   simp only[z6,Xu,J8,Jz,WC] at e
   rw[e] at hc
   exact absurd hc ah
  rw[zk this,Bool.and_false]
theorem hp_mn {l:Nb}:jW (45::l) [45]=true:=by
 unfold jW;simp
theorem rd_itoa (z:Int):Dgs (qC (Lib.itoa z) [45])/\rdZ (Lib.itoa z)=z:=by
 unfold Lib.itoa rdZ qC
 split
 ·rename_i h
  rw[hp_mn]
  refine⟨jE _,?_⟩
  show sgn true (jp (decDigits z.natAbs))=z
  rw[jG];unfold sgn;simp;omega
 rename_i h
 rw[hp_dg (jE _)]
 refine⟨jE _,?_⟩
 show sgn false (jp (decDigits z.toNat))=z
 rw[jG];unfold sgn;simp;omega
theorem itoa_nat (n:Nat):Lib.itoa (n:Int)=decDigits n:=by
 unfold Lib.itoa;rw[WJ aa];rfl
theorem itoa_47 (z:Int):∀ x∈Lib.itoa z,x≠47:=by
 intro x hx e
 subst e
 unfold Lib.itoa at hx
 split at hx
 ·rcases zF.1 hx with h|h
  ·exact absurd h ah
  exact absurd (jE _ _ h) ah
 exact absurd (jE _ _ hx) ah
theorem txt_1 (h:q.den=1):txt q=Lib.itoa q.num:=by unfold txt;rw[WK h,zR]
theorem txt_2 (h:q.den≠1):txt q=Lib.itoa q.num++47::decDigits q.den:=by unfold txt;rw[WJ h]
theorem pt_one (h1:((slN (txt q):Nat):Int)=(((txt q).length:Nat):Int)):q.den=1:=by
 by_cases h:q.den=1
 ·exact h
 rw[txt_2 h,sl_at (itoa_47 _),za,zb] at h1;omega
theorem pt_no (h1:¬((slN (txt q):Nat):Int)=(((txt q).length:Nat):Int)):q.den≠1:=by
 intro h
 rw[txt_1 h,sl_no (itoa_47 _)] at h1;exact h1 rfl
theorem pt_n (h:q.den≠1):(txt q).take (slN (txt q))=Lib.itoa q.num/\(txt q).drop (slN (txt q)+1)=decDigits q.den:=by
 rw[txt_2 h,sl_at (itoa_47 _)]
 exact⟨J6,by rw[<-List.drop_drop,J1];rfl⟩
theorem pt_s (h1:¬((slN (txt q):Nat):Int)=(((txt q).length:Nat):Int)):slN (txt q)+1<=(txt q).length:=by
 rw[txt_2 (pt_no h1),sl_at (itoa_47 _),za,zb];omega
theorem pt_d1 (h1:((slN (txt q):Nat):Int)=(((txt q).length:Nat):Int)):Dgs (qC (txt q) [45]):=by
 rw[txt_1 (pt_one h1)];exact (rd_itoa _).1
theorem pt_d3 (h1:¬((slN (txt q):Nat):Int)=(((txt q).length:Nat):Int)):Dgs (qC ((txt q).drop (slN (txt q)+1)) [45]):=by
 rw[(pt_n (pt_no h1)).2,<-itoa_nat];exact (rd_itoa _).1
theorem pt_d2:Dgs (qC ((txt q).take (slN (txt q))) [45]):=by
 by_cases h:q.den=1
 ·rw[txt_1 h,sl_no (itoa_47 _),Jg];exact (rd_itoa _).1
 rw[(pt_n h).1];exact (rd_itoa _).1
theorem pt_1 {e:Int} (h1:((slN (txt q):Nat):Int)=(((txt q).length:Nat):Int)) (he:e=1):DV.tup [azD (rdZ (txt q)),azD e]=.tup [azD q.num,azD (q.den:Int)]:=by
 have h:=pt_one h1
 rw[h,he,txt_1 h,(rd_itoa _).2];rfl
theorem pt_2 (h1:¬((slN (txt q):Nat):Int)=(((txt q).length:Nat):Int)):DV.tup [azD (rdZ ((txt q).take (slN (txt q)))),azD (rdZ ((txt q).drop (slN (txt q)+1)))]=.tup [azD q.num,azD (q.den:Int)]:=by
 have h:=pt_n (pt_no h1)
 rw[h.1,h.2,(rd_itoa _).2,<-itoa_nat,(rd_itoa _).2]
end
theorem w153e (e:Int) (he:e=1):CKa 127 [vI 1] (azD e):=by
 have h:=w153 e (by subst he;unfold R64;omega)
 rw[show (vI 1:DV)=vI e by rw[he]]
 exact h
theorem w158 (q:Rat) (hl:(txt q).length<=900000):CKa 83 [vS (bsO (txt q))] (.tup [.pv (.agg [pB (decide ((Rat.num q)<0)),pL eI (iL (dig K9 (natAbs (Rat.num q))))]),.pv (.agg [pB (decide (((Rat.den q:Nat):Int)<0)),pL eI (iL (dig K9 (natAbs ((Rat.den q:Nat):Int))))])]):=by
 refine cG qf83 Z (nB Z) Z (E Z (B.bN Z Z) (E Z (B.bN Z Z) ?_))
 obtain⟨e,he⟩:∃ e:Int,e=1:=⟨1,rfl⟩
 refine C Z (w193 (txt q) aa) Z Z Z (E Z (B.ZM Z un9) (Cp Z Z (fun h1=>?_) (fun h1=>?_)))
 ·exact C Z (w217 (txt q) (pt_d1 h1) dE) Z Z Z (C Z (w153e e he) Z Z Z (Rt Z (lF Z dG)))
 have hsl:=pt_s h1
 exact E Z (B.slHB Z Z un9 Z aa) (C Z (w217 (take (slN (txt q)) (txt q)) (pt_d2) dE) Z Z Z (E Z (B.add Z Z bg) (E Z (B.slLB (i:=((slN (txt q))+1)) Z Z un9 aa aa) (C Z (w217 (drop ((slN (txt q))+1) (txt q)) (pt_d3 h1) dE) Z Z Z (Dr Z ae (Rt Z (lF Z dG)))))))
end Go.Lens.Tb
end
