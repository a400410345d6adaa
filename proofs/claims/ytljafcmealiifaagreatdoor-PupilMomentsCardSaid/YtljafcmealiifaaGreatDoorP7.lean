/- A part of the proof of PupilMomentsCardSaid, without conditions. -/
import Derived.Test.YtljafcmealiifaaGreatDoorP6
import Derived.Test.YtljafcmealiifaaGreatDoorP5
import Derived.Test.YtljafcmealiifaaGreatDoorP3
set_option linter.unusedVariables false
set_option linter.unusedSimpArgs false
set_option linter.unusedSectionVars false
set_option maxRecDepth 100000
set_option maxHeartbeats 4000000
section
namespace Go.Lens.Tb
open Go.Proofs Go.Lens.Un
variable [Lz] [Dn]
attribute [local irreducible] TK PK T RG EfR Body CG
structure OkP (P:PL):Prop where
 k32:∀ k∈P.map (·.1),0<=k.1/\0<=k.2/\k.1+k.2<=32
 len:P.length<=100000
 sz:szP P<=9000000
def gQ (m:List (KI×Qn)) (k:KI):Qn:=Option.getD (Zb k m) frZ
def trmG (m:List (KI×Qn)) (k:KI):Trm:=⟨txt (Qn.q (gQ m k)),k.1,k.2⟩
def polL (P:PL):Bool:=(jm P).any fun k=>jl (cf P k)
def canT (P:PL):List Trm:=(jm P).map fun k=>⟨txt (cf P k),k.1,k.2⟩
def polT (P:PL):List Trm:=bif polL P then [] else canT P
def polE (P:PL):Int:=bif polL P then 4 else 0
section
variable {P:PL} {m q:List (KI×Qn)} {k:KI} {j i:Nat} {o:List Trm} {x y r v:Qn} {n:Array Nat} {ax:Int}
theorem ok_32 (hm:KP P m) (hP:OkP P):∀ k∈m.map (·.1),0<=k.1/\0<=k.2/\k.1+k.2<=32:=fun k hk=>hP.k32 k (hm.mem k hk)
theorem ok_n (hm:KP P m) (hP:OkP P):m.length<=1000000:=by have:=hm.len;have:=hP.len;omega
theorem ok_z (hm:KP P m) (hP:OkP P):∀ k x,Zb k m=some x->sz (Qn.q x)<=20000000:=fun k x h=>by have:=hm.szg h;have:=hP.sz;omega
theorem ok_q (hP:OkP P):(jm P).length<=561:=by
 unfold jm
 refine qh (List.length_filter_le _ _) ?_
 decide +kernel
theorem ord_len:(jm P).length<=P.length:=by
 have:=nd_len (pw_nd ordP_pw) (r:=P.map (·.1)) fun k hk=>by
  by_cases h:k∈P.map (·.1)
  ·exact h
  exact absurd (cf_no h) (mem_ordP.1 hk).2
 simpa using this
theorem gQ_ok (hm:KP P m) (hk:k∈jm P):Zb k m=some (gQ m k):=by
 unfold gQ
 cases h:Zb k m with
 | some x=>rfl
 | none=>
  have:=hm.q k
  unfold cfM at this
  rw[h] at this
  exact absurd this.symm (mem_ordP.1 hk).2
theorem gQ_q (hm:KP P m) (hk:k∈jm P):(gQ m k).q=cf P k:=hm.val (mem_of_get (gQ_ok hm hk))
theorem gQ_s (hm:KP P m) (hk:k∈jm P):sz (gQ m k).q<=szP P:=hm.szg (gQ_ok hm hk)
theorem gQ_z (hm:KP P m) (hP:OkP P) (hk:k∈jm P):sz (gQ m k).q<=20000000:=by have:=gQ_s hm hk;have:=hP.sz;omega
theorem pp_s (h:o=List.map (trmG m) (List.take j (jm P))) (hj:j<(jm P).length):o++[Trm.mk (txt (Qn.q (gQ m (List.getD (jm P) j (0,0))))) (Prod.fst (List.getD (jm P) j (0,0))) (Prod.snd (List.getD (jm P) j (0,0)))]=List.map (trmG m) (List.take (j+1) (jm P)):=by rw[h,List.take_succ_eq_append_getElem hj,qc,ze,zm hj];rfl
theorem pp_l (h:∀ i,i<j->jl (Qn.q (gQ m (List.getD (jm P) i (0,0))))=false) (hj:jl (Qn.q (gQ m (List.getD (jm P) j (0,0))))=false):∀ i,i<j+1->jl (Qn.q (gQ m (List.getD (jm P) i (0,0))))=false:=fun i hi=>by
 grind
theorem pl_1 (hm:KP P m) (hj:j<(jm P).length) (h:jl (Qn.q (gQ m (List.getD (jm P) j (0,0))))=true):polL P=true:=by
 unfold polL
 rw[List.any_eq_true]
 exact⟨_,kj hj,by rw[<-gQ_q hm (kj hj)];exact h⟩
theorem pl_2 (hm:KP P m) (h:∀ i,i<j->jl (Qn.q (gQ m (List.getD (jm P) i (0,0))))=false) (hj:(jm P).length<=j):polL P=false:=by
 unfold polL
 rw[List.any_eq_false]
 intro k hk
 obtain⟨i,hi,rfl⟩:=List.getElem_of_mem hk
 have:=h i aa
 grind [gQ_q]
theorem pp_1 (hm:KP P m) (_:∀ i,i<j->jl (Qn.q (gQ m (List.getD (jm P) i (0,0))))=false) (hj:j<(jm P).length) (h:jl (Qn.q (gQ m (List.getD (jm P) j (0,0))))=true):[]=polT P:=by unfold polT;rw[pl_1 hm hj h];rfl
theorem pp_2 (hm:KP P m) (_:∀ i,i<j->jl (Qn.q (gQ m (List.getD (jm P) i (0,0))))=false) (hj:j<(jm P).length) (h:jl (Qn.q (gQ m (List.getD (jm P) j (0,0))))=true):4=polE P:=by unfold polE;rw[pl_1 hm hj h];rfl
theorem pp_3 (hm:KP P m) (h0:o=List.map (trmG m) (List.take j (jm P))) (h:∀ i,i<j->jl (Qn.q (gQ m (List.getD (jm P) i (0,0))))=false) (hj:(jm P).length<=j):o=polT P:=by
 unfold polT
 rw[pl_2 hm h hj,h0,zz hj,cond_false]
 exact List.map_congr_left fun k hk=>by unfold trmG;rw[gQ_q hm hk]
theorem pp_4 (hm:KP P m) (h:∀ i,i<j->jl (Qn.q (gQ m (List.getD (jm P) i (0,0))))=false) (hj:(jm P).length<=j):0=polE P:=by unfold polE;rw[pl_2 hm h hj];rfl
def evS (m:List (KI×Qn)) (x y:Qn):List KI->Qn->Qn
 | [],r=>r
 | k::l,r=>evS m x y l (Qn.add r (Qn.mul (Qn.mul (gQ m k) (qnP x k.1.toNat)) (qnP y k.2.toNat)))
def valM (m:List (KI×Qn)) (P:PL) (x y:Qn):Qn:=evS m x y (jm P) frZ
def EvOk (P:PL) (x y:Qn):Prop:=(P.length+2)*(szP P+34*(sz x.q+sz y.q+128))<=9000000
theorem evS_app (l:List KI) (k:KI) (r:Qn):evS m x y (l++[k]) r=Qn.add (evS m x y l r) (Qn.mul (Qn.mul (gQ m k) (qnP x k.1.toNat)) (qnP y k.2.toNat)):=by
 induction l generalizing r with
 | nil=>rfl
 | cons a l ih=>exact ih _
theorem ev_s (h:r=evS m x y (List.take j (jm P)) frZ) (hj:j<(jm P).length):Qn.add r (Qn.mul (Qn.mul (gQ m (List.getD (jm P) j (0,0))) (qnP x (Int.toNat (Prod.fst (List.getD (jm P) j (0,0)))))) (qnP y (Int.toNat (Prod.snd (List.getD (jm P) j (0,0))))))=evS m x y (List.take (j+1) (jm P)) frZ:=by grind [List.take_succ_eq_append_getElem,evS_app]
theorem ev_e (h:r=evS m x y (List.take j (jm P)) frZ) (hj:(jm P).length<=j):r=valM m P x y:=by rw[h,zz hj];rfl
theorem w191i (x:Qn) (z:Int) (h:0<=z/\z<=32/\(z.toNat+1)*(sz x.q+64)<=20000000):CKa 114 [qV x,vI z] (qV (qnP x z.toNat)):=by
 have:=w191 x z.toNat h.2.2 aa
 grind
theorem sz_pow (q:Rat) (k:Nat):sz (q ^ k)<=k*sz q+1:=by
 induction k with
 | zero=>rw[Rat.pow_zero];exact qh (sz_int 1) (by rw[Nat.zero_mul];decide)
 | succ k ih=>
  rw[Rat.pow_succ,Nat.succ_mul]
  have:=jy (q ^ k) q
  omega
theorem ev_b (hz:EvOk P x y):szP P+34*(sz x.q+sz y.q+128)<=4500000:=by grind [EvOk]
theorem ev_p (hz:EvOk P x y) (_:OkP P) (hk:k∈jm P):(0<=k.1/\k.1<=32/\(k.1.toNat+1)*(sz x.q+64)<=20000000)/\(0<=k.2/\k.2<=32/\(k.2.toNat+1)*(sz y.q+64)<=20000000):=by
 obtain⟨⟨h1,h2,h3⟩,_⟩:=mem_ordP.1 hk
 have hb:=ev_b hz
 have e1:(k.1.toNat+1)*(sz x.q+64)<=33*(sz x.q+64):=Nat.mul_le_mul_right _ aa
 have e2:(k.2.toNat+1)*(sz y.q+64)<=33*(sz y.q+64):=Nat.mul_le_mul_right _ aa
 omega
theorem ev_pw (hk:k∈jm P):sz (qnP x k.1.toNat).q<=32*sz x.q+1/\sz (qnP y k.2.toNat).q<=32*sz y.q+1:=by
 obtain⟨⟨h1,h2,h3⟩,_⟩:=mem_ordP.1 hk
 rw[qnP_q,qnP_q]
 have a1:=sz_pow x.q k.1.toNat
 have a2:=sz_pow y.q k.2.toNat
 have e1:k.1.toNat*sz x.q<=32*sz x.q:=Nat.mul_le_mul_right _ aa
 have e2:k.2.toNat*sz y.q<=32*sz y.q:=Nat.mul_le_mul_right _ aa
 omega
theorem ev_m1 (hm:KP P m) (hz:EvOk P x y) (_:OkP P) (hk:k∈jm P):sz (gQ m k).q+sz (qnP x k.1.toNat).q<=20000000:=by have:=ev_b hz;have:=gQ_s hm hk;have:=(ev_pw (x:=x) (y:=y) hk).1;omega
theorem ev_t (hm:KP P m) (hk:k∈jm P):sz (Qn.mul (gQ m k) (qnP x k.1.toNat)).q<=szP P+32*sz x.q+1:=by
 rw[Qn.mul_q]
 have:=jy (gQ m k).q (qnP x k.1.toNat).q
 have:=gQ_s hm hk;have:=(ev_pw (x:=x) (y:=x) hk).1;omega
theorem ev_m2 (hm:KP P m) (hz:EvOk P x y) (_:OkP P) (hk:k∈jm P):sz (Qn.mul (gQ m k) (qnP x k.1.toNat)).q+sz (qnP y k.2.toNat).q<=20000000:=by have:=ev_b hz;have:=ev_t (x:=x) hm hk;have:=(ev_pw (x:=x) (y:=y) hk).2;omega
theorem ev_u (hm:KP P m) (hk:k∈jm P):sz (Qn.mul (Qn.mul (gQ m k) (qnP x k.1.toNat)) (qnP y k.2.toNat)).q<=szP P+32*(sz x.q+sz y.q)+2:=by
 rw[Qn.mul_q]
 have:=jy (Qn.mul (gQ m k) (qnP x k.1.toNat)).q (qnP y k.2.toNat).q
 have:=ev_t (x:=x) hm hk;have:=(ev_pw (x:=x) (y:=y) hk).2;omega
theorem ev_sz (hm:KP P m):∀ (l:List KI) (r:Qn),(∀ k∈l,k∈jm P)->sz (evS m x y l r).q<=sz r.q+l.length*(szP P+32*(sz x.q+sz y.q)+3)
 | [],r,_=>by show sz r.q<=_;omega
 | k::l,r,h=>by
  rw[evS]
  refine qh (ev_sz hm l _ fun k hk=>h k (by simp[hk])) ?_
  obtain⟨S,hS⟩:∃ S,S=szP P+32*(sz x.q+sz y.q)+3:=⟨_,rfl⟩
  rw[<-hS,Qn.add_q,zb,Nat.succ_mul]
  have:=sz_add r.q (Qn.mul (Qn.mul (gQ m k) (qnP x k.1.toNat)) (qnP y k.2.toNat)).q
  have:=ev_u (x:=x) (y:=y) hm (h k ao)
  omega
theorem frZ_s:sz frZ.q<=1:=by rw[show frZ.q=((0:Int):Rat) from Qn.ofZ_q _];exact qh (sz_int 0) ah
theorem ev_a (hm:KP P m) (hz:EvOk P x y) (_:OkP P) (hj:j<(jm P).length) (h:r=evS m x y (List.take j (jm P)) frZ):sz r.q+sz (Qn.mul (Qn.mul (gQ m (List.getD (jm P) j (0,0))) (qnP x (Int.toNat (Prod.fst (List.getD (jm P) j (0,0)))))) (qnP y (Int.toNat (Prod.snd (List.getD (jm P) j (0,0)))))).q<=20000000:=by
 have h1:=ev_sz (x:=x) (y:=y) hm (List.take j (jm P)) frZ fun k hk=>zu hk
 have h2:=ev_u (x:=x) (y:=y) hm (kj (z:=(0,0)) hj)
 have h3:=frZ_s
 have h4:=ord_len (P:=P)
 have h5:(List.take j (jm P)).length*(szP P+32*(sz x.q+sz y.q)+3)<=(P.length+2)*(szP P+34*(sz x.q+sz y.q+128)):=Nat.mul_le_mul cZ aa
 grind [EvOk]
def canP (P:PL):PL:=(jm P).map fun k=>(k,cf P k)
theorem cf_map {F:KI->Rat}:∀ {l:List KI},l.Nodup->cf (l.map fun k=>(k,F k)) k=if k∈l then F k else 0
 | [],_=>by simp[cf_nil]
 | a::l,h=>by
  rw[List.nodup_cons] at h
  rw[zy,jP,cf_map h.2]
  grind
theorem can_eqv (hP:OkP P):Eqv (canP P) P:=fun k=>by
 unfold canP
 rw[cf_map (pw_nd ordP_pw)]
 by_cases h:k∈jm P
 ·rw[if_pos h]
 rw[if_neg h]
 by_cases e:cf P k=0
 ·exact e.symm
 exact absurd (mem_ordP.2 ⟨hP.k32 k (by
  by_cases hk:k∈P.map (·.1)
  ·exact hk
  exact absurd (cf_no hk) e),e⟩) h
def evP (P:PL) (a b:Rat):Rat:=lin (fun k=>a ^ k.1.toNat*b ^ k.2.toNat) P
theorem valM_q (hm:KP P m) (hP:OkP P):(valM m P x y).q=evP P x.q y.q:=by
 have key:∀ (l:List KI) (r:Qn),(∀ k∈l,k∈jm P)->(evS m x y l r).q=r.q+lin (fun k=>x.q ^ k.1.toNat*y.q ^ k.2.toNat) (l.map fun k=>(k,cf P k)):=by
  intro l
  induction l with
  | nil=>intro r _;simp[evS,lin,Rat.add_zero]
  | cons k l ih=>
   intro r h
   rw[evS,ih _ fun k hk=>h k (by simp[hk]),Qn.add_q,Qn.mul_q,Qn.mul_q,qnP_q,qnP_q,gQ_q hm (h k ao)]
   simp only[zy,lin]
   grind
 unfold valM evP
 rw[key _ _ fun k hk=>hk,show frZ.q=((0:Int):Rat) from Qn.ofZ_q _]
 rw[<-(can_eqv hP).lin]
 show ((0:Int):Rat)+lin _ (canP P)=_
 rw[Rat.intCast_zero,Rat.zero_add]
def DrOk (P:PL):Prop:=(P.length+2)*(szP P+20)<=9000000
def DrI (m:List (KI×Qn)) (ax:Int) (n:Array Nat) (q:List (KI×Qn)):Prop:=VI m n/\KP (derP ax (plM (visL m n))) q
theorem dr_0:DrI m ax #[] []:=⟨VI.nil _,KP.nil⟩
theorem der_app (A B:PL):derP ax (A++B)=derP ax A++derP ax B:=List.flatMap_append
theorem dr_1:derP ax (plM [(k,v)])=derT ax (k,v.q):=by simp[derP,plM]
theorem dr_s (hI:DrI m ax n q) (hk:m[i]? =some (k,v)) (hi:i∉n) (h:0<kax ax k) (hz:R64 (kax ax k)):DrI m ax (n.push i) (addK (kdec ax k) (Qn.mul v (Qn.ofI (kax ax k))) q):=by
 refine⟨hI.1.push hk hi,?_⟩
 rw[kP hk,plM_app,der_app,dr_1]
 unfold derT
 rw[if_pos h]
 have:=hI.2.add (kdec ax k) (Qn.mul v (Qn.ofI (kax ax k)))
 rw[Qn.mul_q,ofI_q hz] at this
 exact this
theorem dr_n (hI:DrI m ax n q) (hk:m[i]? =some (k,v)) (hi:i∉n) (h:¬0<kax ax k):DrI m ax (n.push i) q:=by
 refine⟨hI.1.push hk hi,?_⟩
 rw[kP hk,plM_app,der_app,dr_1]
 unfold derT
 rw[if_neg h,zR]
 exact hI.2
theorem de_b2 (hm:KP P m) (hP:OkP P) (hk:m[i]? =some (k,v)):0<=k.1/\k.1<=32/\0<=k.2/\k.2<=32:=by
 have:=ok_32 hm hP k (zE.2 ⟨_,List.mem_of_getElem? hk,rfl⟩)
 omega
theorem dr_m (hm:KP P m) (hd:DrOk P) (hk:m[i]? =some (k,v)) {z:Int} (hz: -1<=z/\z<=64):sz v.q+sz (Qn.ofI z).q<=20000000:=by
 have h1:=hm.sz (List.mem_of_getElem? hk)
 have h2:=ofI_sz hz
 grind [DrOk]
theorem dr_a (hm:KP P m) (hP:OkP P) (hd:DrOk P) (hI:DrI m ax n q) (hk:m[i]? =some (k,v)) {z:Int} (hz: -1<=z/\z<=64) {K:KI}:∀ x,Zb K q=some x->sz x.q+sz (Qn.mul v (Qn.ofI z)).q<=20000000:=by
 intro x hx
 have h1:=hm.sz (List.mem_of_getElem? hk)
 have h2:=ofI_sz hz
 have h3:=hI.2.szg hx
 have h4:szP (derP ax (plM (visL m n)))<=P.length*(szP P+8)+1:=by
  refine szP_le (S:=szP P+7) ?_ fun p hp=>?_
  ·have h5:∀ A:PL,(derP ax A).length<=A.length:=by
    intro A
    induction A with
    | nil=>exact zB _
    | cons a A ih=>
     show (derT ax a++derP ax A).length<=_
     grind [List.length_append,List.length_cons,derT]
   have:=h5 (plM (visL m n))
   have:=vis_len m n
   have:=hI.1.size
   have:=hm.len
   grind [plM]
  unfold derP at hp
  rw[List.mem_flatMap] at hp
  obtain⟨a,ha,hp⟩:=hp
  simp only[plM,zE] at ha
  obtain⟨b,hb,rfl⟩:=ha
  have hb':=vis_mem hb
  obtain⟨i',hi'⟩:=List.mem_iff_getElem?.1 hb'
  have hs:=hm.sz (k:=b.1) (x:=b.2) hb'
  have hr:=de_b2 (k:=b.1) (v:=b.2) hm hP hi'
  unfold derT at hp
  split at hp
  ·rw[zg] at hp
   subst hp
   simp only
   have hk: -1<=kax ax b.1/\kax ax b.1<=64:=by unfold kax;split<;>omega
   have:=jy b.2.q (kax ax b.1:Rat)
   have h6:=ofI_sz hk
   rw[ofI_q bg] at h6
   omega
  cases hp
 have h5:=jy v.q (Qn.ofI z).q
 rw[Qn.mul_q]
 unfold DrOk at hd
 have:(P.length+2)*(szP P+20)=P.length*(szP P+8)+P.length*12+2*(szP P+20):=by rw[Nat.add_mul,show szP P+20=(szP P+8)+12 by omega,Nat.mul_add P.length]
 omega
theorem dr_e (hm:KP P m) (hI:DrI m ax n q) (ha:∀ i,i<m.length->i∈n):KP (derP ax P) q:=by
 have hp:=plM_perm (hI.1.all ha)
 refine hI.2.congr (Eqv.der ax ((Eqv.perm hp).trans hm.eqv)) fun k hk=>?_
 have hkeys:∀ (A:PL) (k:KI),k∈(derP ax A).map (·.1)↔∃ a∈A.map (·.1),0<kax ax a/\k=kdec ax a:=by
  intro A k
  simp only[derP,zE,List.mem_flatMap]
  constructor
  ·grind [derT,List.mem_singleton]
  rintro⟨_,⟨a,ha,rfl⟩,h,rfl⟩
  exact⟨_,⟨a,ha,by unfold derT;rw[if_pos h];exact zg.2 rfl⟩,rfl⟩
 rw[hkeys] at hk ⊢
 obtain⟨a,h1,h2,h3⟩:=hk
 exact⟨a,hm.keysP a ((hp.map (·.1)).mem_iff.1 h1),h2,h3⟩
end
theorem by57:ty57.info.bytes=32:=ae
theorem in57:tab.info? 57=some ty57.info:=ae
theorem w104' (hp:qW) (m:List (KI×Qn)) (P:PL) (hm:KP P m) (hP:OkP P):qD Tryz.prog 51 [.mref 1] (qx [(1,(kO eP m))]) (.tup [vL eY (polT P),vI (polE P)]) [(1,(kO eP m))]:=by
 refine cL 10 [(1,(kO eP m))] qf51 Z (nB Z) Z Z (kc (E Z (B.ZH (enc:=eY) Z) (E Z (B.adopt 14 3 57 Z Z) (E Z (B.jd (w180 m P 1 hm (ok_32 hm hP) (ok_n hm hP) (ok_z hm hP)) Z Z ⟨rfl,trivial⟩ rfl rfl) (E Z (B.jp Z un161) (l2 (fun (k:Nat) (o:List Trm)=>[(0,.mref 1),(4,.aref 14 k),(8,vL eK (jm P)),(9,vI (((jm P).length:Nat):Int)),(10,vI (k:Int))]) (fun k o=>[(1,(kO eP m)),(14,.arr k 3 57 (List.map eY o))]) (fun k o=>k<=(jm P).length/\o=List.map (trmG m) (List.take k (jm P))/\∀ j,j<k->jl (Qn.q (gQ m (List.getD (jm P) j (0,0))))=false) (fun k _=>(jm P).length-k) 0 [] Z ?_ (sb Z Z Z) ?_))))))
 · exact⟨zt _,rfl,fun j hj=>aa⟩
 intro k o hI0
 have hq:=ok_q (P:=P) hP
 have hol:o.length=k:=by grind
 refine Cp Z Z (fun h1=>?_) (fun h1=>?_)
 ·refine E Z (B.idx (z:=(0,0)) Z Z un161 sz103 (fun _=>rfl) Z cg) (E Z (B.getK0 kty Z Z Z in83 Z zP_ok (gQ_ok hm (kj aa))) (C Z (w181 hp (gQ m (List.getD (jm P) k (0,0))) (gQ_z hm hP (kj aa))) Z Z Z (Cb Z Z (fun h2=>?_) (fun h2=>?_))))
  ·exact E Z (B.ZH (enc:=eY) Z) (Rt Z (lL Z dP))
  refine E Z (B.getK0 kty Z Z Z in83 Z zP_ok (gQ_ok hm (kj aa))) (C Z (w162 hp (gQ m (List.getD (jm P) k (0,0))) (gQ_z hm hP (kj aa))) Z Z Z (E Z (B.run Z) (E Z (B.run Z) (E Z (B.run (val:=.pv (.agg [pS (bsO (txt (Qn.q (gQ m (List.getD (jm P) k (0,0)))))),pI (Prod.fst (List.getD (jm P) k (0,0))),pI (Prod.snd (List.getD (jm P) k (0,0)))])) (m:=[]) (rd:=[]) ae) (E Z (B.runZ (val:=.pv (.slice (List.map eY [(Trm.mk (txt (Qn.q (gQ m (List.getD (jm P) k (0,0))))) (Prod.fst (List.getD (jm P) k (0,0))) (Prod.snd (List.getD (jm P) k (0,0))))]))) (m0:=[(38,.arr 0 3 57 [[pS (bsO (Trm.c (Trm.mk (txt (Qn.q (gQ m (List.getD (jm P) k (0,0))))) (Prod.fst (List.getD (jm P) k (0,0))) (Prod.snd (List.getD (jm P) k (0,0)))))),pI (Trm.i (Trm.mk (txt (Qn.q (gQ m (List.getD (jm P) k (0,0))))) (Prod.fst (List.getD (jm P) k (0,0))) (Prod.snd (List.getD (jm P) k (0,0))))),pI (Trm.j (Trm.mk (txt (Qn.q (gQ m (List.getD (jm P) k (0,0))))) (Prod.fst (List.getD (jm P) k (0,0))) (Prod.snd (List.getD (jm P) k (0,0)))))]])]) (rd:=[]) ae (fun l=>Frz.arr l _ _ _ _ _) Z) (E Z (B.append Z Z Z un49 in57 Z (fun _=>rfl) by57 cg) (Dr Z ae (E Z (B.add Z Z bg) (pk Z (L2 (k+1) (o++[(Trm.mk (txt (Qn.q (gQ m (List.getD (jm P) k (0,0))))) (Prod.fst (List.getD (jm P) k (0,0))) (Prod.snd (List.getD (jm P) k (0,0))))]) ?_ ?_ (sb Z Z Z)))))))))))
  · exact⟨aa,pp_s hI0.2.1 aa,pp_l hI0.2.2 ab⟩
  · omega
 exact Fz 9 4 Z Z Z (Rt Z (lL Z dP))
theorem w104 (hp:qW) (m:List (KI×Qn)) (P:PL) (a:Nat) (hm:KP P m) (hP:OkP P):qD Tryz.prog 51 [.mref a] (qx [(a,(kO eP m))]) (.tup [vL eY (polT P),vI (polE P)]) [(a,(kO eP m))]:=by simpa [renM,DV.renL,DV.ren,MO.ren,r1_1] using (w104' hp m P hm hP).r1 1 a
theorem w115' (m:List (KI×Qn)) (P:PL) (x y:Qn) (hm:KP P m) (hP:OkP P) (hz:EvOk P x y):qD Tryz.prog 55 [.mref 1,rV x y] (qx [(1,(kO eP m))]) (qV (valM m P x y)) [(1,(kO eP m))]:=by
 refine cL 10 [(1,(kO eP m))] qf55 Z (nB Z) Z Z (kc (E Z (B.bZ Z Z) (C Z (w100 0 bg) Z Z Z (E Z (B.bZ Z Z) (E Z (B.jd (w180 m P 1 hm (ok_32 hm hP) (ok_n hm hP) (ok_z hm hP)) Z Z ⟨rfl,trivial⟩ rfl rfl) (E Z (B.jp Z un161) (l2 (fun (k:Nat) (r:Qn)=>[(0,.mref 1),(3,.bref 13 0),(4,.bref 14 0),(5,.bref 15 0),(10,vL eK (jm P)),(11,vI (((jm P).length:Nat):Int)),(12,vI (k:Int))]) (fun _ r=>[(1,(kO eP m)),(13,.box 117 (gF2 x y)),(14,.box 83 [vI 0,.pv (ZP),vI 0,.pv (ZP)]),(15,.box 83 (gF r))]) (fun k r=>k<=(jm P).length/\r=evS m x y (List.take k (jm P)) frZ) (fun k _=>(jm P).length-k) 0 frZ Z ?_ (sb Z Z Z) ?_)))))))
 · exact⟨zt _,rfl⟩
 intro k r hI0
 have hq:=ok_q (P:=P) hP
 refine Cp Z Z (fun h1=>?_) (fun h1=>?_)
 ·refine E Z (B.idx (z:=(0,0)) Z Z un161 sz103 (fun _=>rfl) Z aa) (E Z (B.getK0 kty Z Z Z in83 Z zP_ok (gQ_ok hm (kj aa))) (E Z (B.run Z) (C Z (w191i x (Prod.fst (List.getD (jm P) k (0,0))) (ev_p hz hP (kj aa)).1) Z Z Z (C Z (w126 (gQ m (List.getD (jm P) k (0,0))) (qnP x (Int.toNat (Prod.fst (List.getD (jm P) k (0,0))))) (ev_m1 hm hz hP (kj aa))) Z Z Z (E Z (B.run Z) (C Z (w191i y (Prod.snd (List.getD (jm P) k (0,0))) (ev_p hz hP (kj aa)).2) Z Z Z (C Z (w126 (Qn.mul (gQ m (List.getD (jm P) k (0,0))) (qnP x (Int.toNat (Prod.fst (List.getD (jm P) k (0,0)))))) (qnP y (Int.toNat (Prod.snd (List.getD (jm P) k (0,0))))) (ev_m2 hm hz hP (kj aa))) Z Z Z (C Z (w125 r (Qn.mul (Qn.mul (gQ m (List.getD (jm P) k (0,0))) (qnP x (Int.toNat (Prod.fst (List.getD (jm P) k (0,0)))))) (qnP y (Int.toNat (Prod.snd (List.getD (jm P) k (0,0)))))) (ev_a hm hz hP aa hI0.2)) Z Z Z (Dr Z ae (E Z (B.add Z Z bg) (pk Z (L2 (k+1) (Qn.add r (Qn.mul (Qn.mul (gQ m (List.getD (jm P) k (0,0))) (qnP x (Int.toNat (Prod.fst (List.getD (jm P) k (0,0)))))) (qnP y (Int.toNat (Prod.snd (List.getD (jm P) k (0,0))))))) ?_ ?_ (sb Z Z Z)))))))))))))
  · exact⟨aa,ev_s hI0.2 aa⟩
  · omega
 exact Rt Z (lL Z (by rw[ev_e hI0.2 aa]))
theorem w115 (m:List (KI×Qn)) (P:PL) (x y:Qn) (a:Nat) (hm:KP P m) (hP:OkP P) (hz:EvOk P x y):qD Tryz.prog 55 [.mref a,rV x y] (qx [(a,(kO eP m))]) (qV (valM m P x y)) [(a,(kO eP m))]:=by simpa [renM,DV.renL,DV.ren,MO.ren,r1_1] using (w115' m P x y hm hP hz).r1 1 a
theorem w117_0' (m:List (KI×Qn)) (P:PL) (hm:KP P m) (hP:OkP P) (hd:DrOk P):qD Tryz.prog 61 [.mref 1,vI 0] (qx [(1,(kO eP m))]) (.mref 20) [(1,(kO eP m)),(20,kR (derP (0:Int) P))]:=by
 refine cL 10 [(1,(kO eP m))] qf61 Z (nB Z) Z Z (kc (E Z (B.newK (enc:=eP) Z Z) (E Z (B.rangeK kty Z Z Z Z) (l2 (fun (n:Array Nat) (q:List (KI×Qn))=>[(0,.mref 1),(1,vI 0),(5,.mref 20),(6,.clos (.func 63) [.mref 20] []),(14,.bref 24 0)]) (fun n q=>[(1,(kO eP m)),(20,(kO eP q)),(24,.miter 1 (m.length) n)]) (fun n q=>DrI m (0:Int) n q) (fun n _=>m.length-Array.size n) (#[]) [] Z ?_ (sb Z Z Z) ?_))))
 · exact dr_0
 intro n q hI0
 refine tk 4 Z ?_
 refine TK.nextK (Y:=tab) Z Z Z Z Z (fun i1 k1 v1 hk1 hi1=>?_) (fun hall1=>?_)
 ·refine rc (CT Z Z (E Z (B.entryK Z Z Z hk1) (E Z (B.bZ Z Z) (E Z (B.run Z) (Cp Z Z (fun h1=>?_) (fun h1=>?_))))))
  ·refine E Z (B.run Z) (E Z (B.sub Z Z dQ) (E Z (B.run Z) (C Z (w100i (Prod.fst k1) dR) Z Z Z (C Z (w126 v1 (Qn.ofI (Prod.fst k1)) (dr_m hm hd hk1 dR)) Z Z Z (E Z (B.jd (w119 q (((Prod.fst k1)-1),(Prod.snd k1)) (Qn.mul v1 (Qn.ofI (Prod.fst k1))) 20 (dr_a hm hP hd hI0 hk1 dR)) Z Z ⟨rfl,trivial⟩ rfl rfl) (Dr Z ae (pk Z (L2 (Array.push n i1) (addK (((Prod.fst k1)-1),(Prod.snd k1)) (Qn.mul v1 (Qn.ofI (Prod.fst k1))) q) ?_ ?_ (sb Z Z Z)))))))))
   · (first|exact dr_s hI0 hk1 hi1 (show 0<kax (0:Int) k1 from (by assumption:0<Prod.fst k1)) dS|exact dr_n hI0 hk1 hi1 (show ¬0<kax (0:Int) k1 from (by assumption:¬0<Prod.fst k1)))
   · exact hI0.1.meas hk1 hi1
  refine pk Z (L2 (Array.push n i1) q ?_ ?_ (sb Z Z Z))
  · (first|exact dr_s hI0 hk1 hi1 (show 0<kax (0:Int) k1 from (by assumption:0<Prod.fst k1)) dS|exact dr_n hI0 hk1 hi1 (show ¬0<kax (0:Int) k1 from (by assumption:¬0<Prod.fst k1)))
  · exact hI0.1.meas hk1 hi1
 refine rc (CF Z Z ?_)
 refine tk 10 Z ?_
 refine TK.shutK (h:=20) (R':=fun kv=>∃ m,KP (derP (0:Int) P) m/\kv=kvO eP m) Z (fun kv e=>⟨_,dr_e hm hI0 hall1,e⟩) ?_
 exact kc (Rt Z (lL Z Z))
theorem w117_1' (m:List (KI×Qn)) (P:PL) (hm:KP P m) (hP:OkP P) (hd:DrOk P):qD Tryz.prog 61 [.mref 1,vI 1] (qx [(1,(kO eP m))]) (.mref 20) [(1,(kO eP m)),(20,kR (derP (1:Int) P))]:=by
 refine cL 10 [(1,(kO eP m))] qf61 Z (nB Z) Z Z (kc (E Z (B.newK (enc:=eP) Z Z) (E Z (B.rangeK kty Z Z Z Z) (l2 (fun (n:Array Nat) (q:List (KI×Qn))=>[(0,.mref 1),(1,vI 1),(5,.mref 20),(6,.clos (.func 63) [.mref 20] []),(14,.bref 24 0)]) (fun n q=>[(1,(kO eP m)),(20,(kO eP q)),(24,.miter 1 (m.length) n)]) (fun n q=>DrI m (1:Int) n q) (fun n _=>m.length-Array.size n) (#[]) [] Z ?_ (sb Z Z Z) ?_))))
 · exact dr_0
 intro n q hI0
 refine tk 4 Z ?_
 refine TK.nextK (Y:=tab) Z Z Z Z Z (fun i1 k1 v1 hk1 hi1=>?_) (fun hall1=>?_)
 ·refine rc (CT Z Z (E Z (B.entryK Z Z Z hk1) (E Z (B.bZ Z Z) (E Z (B.run Z) (Cp Z Z (fun h1=>?_) (fun h1=>?_))))))
  ·refine E Z (B.run Z) (E Z (B.sub Z Z dQ) (E Z (B.run Z) (C Z (w100i (Prod.snd k1) dR) Z Z Z (C Z (w126 v1 (Qn.ofI (Prod.snd k1)) (dr_m hm hd hk1 dR)) Z Z Z (E Z (B.jd (w119 q ((Prod.fst k1),((Prod.snd k1)-1)) (Qn.mul v1 (Qn.ofI (Prod.snd k1))) 20 (dr_a hm hP hd hI0 hk1 dR)) Z Z ⟨rfl,trivial⟩ rfl rfl) (Dr Z ae (pk Z (L2 (Array.push n i1) (addK ((Prod.fst k1),((Prod.snd k1)-1)) (Qn.mul v1 (Qn.ofI (Prod.snd k1))) q) ?_ ?_ (sb Z Z Z)))))))))
   · (first|exact dr_s hI0 hk1 hi1 (show 0<kax (1:Int) k1 from (by assumption:0<Prod.snd k1)) dT|exact dr_n hI0 hk1 hi1 (show ¬0<kax (1:Int) k1 from (by assumption:¬0<Prod.snd k1)))
   · exact hI0.1.meas hk1 hi1
  refine pk Z (L2 (Array.push n i1) q ?_ ?_ (sb Z Z Z))
  · (first|exact dr_s hI0 hk1 hi1 (show 0<kax (1:Int) k1 from (by assumption:0<Prod.snd k1)) dT|exact dr_n hI0 hk1 hi1 (show ¬0<kax (1:Int) k1 from (by assumption:¬0<Prod.snd k1)))
  · exact hI0.1.meas hk1 hi1
 refine rc (CF Z Z ?_)
 refine tk 10 Z ?_
 refine TK.shutK (h:=20) (R':=fun kv=>∃ m,KP (derP (1:Int) P) m/\kv=kvO eP m) Z (fun kv e=>⟨_,dr_e hm hI0 hall1,e⟩) ?_
 exact kc (Rt Z (lL Z Z))
theorem w117 (ax:Int) (m:List (KI×Qn)) (P:PL) (a b:Nat) (hab:a≠b) (ha:ax=0\/ax=1) (hm:KP P m) (hP:OkP P) (hd:DrOk P):qD Tryz.prog 61 [.mref a,vI ax] (qx [(a,(kO eP m))]) (.mref b) [(a,(kO eP m)),(b,kR (derP ax P))]:=by
 rcases ha with rfl|rfl
 ·simpa [renM,DV.renL,DV.ren,MO.ren,r2_1 (show 1≠20 by decide) hab,r2_2] using (w117_0' m P hm hP hd).r2 1 20 a b
 simpa [renM,DV.renL,DV.ren,MO.ren,r2_1 (show 1≠20 by decide) hab,r2_2] using (w117_1' m P hm hP hd).r2 1 20 a b
end Go.Lens.Tb
end
section
namespace Go.Lens
variable [Lz]
section
variable {P:Program} {f:FuncId} {ds:List DV} {val:DV} {out out':Na}
def WkL:Na->Na->Prop
 | [],[]=>True
 | p::l,q::l'=>(p.1=q.1/\p.2.refs=q.2.refs/\∀ G w,q7 G w p.1 p.2->q7 G w p.1 q.2)/\WkL l l'
 | _,_=>False
theorem WkL.keys:∀ {l l':Na},WkL l l'->l.map (·.1)=l'.map (·.1)
 | [],[],_=>rfl
 | p::l,q::l',h=>by rw[zy,zy,h.1.1,WkL.keys h.2]
theorem WkL.mem:∀ {l l':Na},WkL l l'->∀ {k o},(k,o)∈l'->∃ o0,(k,o0)∈l/\o0.refs=o.refs/\∀ G w,q7 G w k o0->q7 G w k o
 | [],[],_,_,_,hk=>by cases hk
 | [],q::l',h,_,_,_=>False.elim h
 | p::l,q::l',h,k,o,hk=>by
  rcases zF.1 hk with e|hk
  ·obtain⟨⟨a,b,c⟩,_⟩:=h
   obtain⟨p1,p2⟩:=p
   grind
  obtain⟨o0,h1,h2⟩:=WkL.mem h.2 hk
  exact⟨o0,zN _ h1,h2⟩
theorem Stepped.wk {G:Gh} {w:World} {look:Nat->Option MO} {G':Gh} {w':World} {r:Value} (h:WkL out out') (S:Stepped G w look val out G' w' r):Stepped G w look val out' G' w' r:=by
 have hn:∀ k,k∈out'.map (·.1)↔k∈out.map (·.1):=fun k=>by rw[h.keys]
 refine⟨S.later,S.hval,fun k o hk=>?_,S.keeps,fun k hk=>S.old k (fun e=>hk ((hn k).2 e)),S.fresh,fun b k hk=>(S.own b k hk).imp (fun e=>(hn k).2 e) id,fun k hk=>(S.refs k hk).imp (fun e=>(hn k).2 e) id,fun k o hk j hj=>?_,S.newb,S.r0,S.r0m⟩
 ·obtain⟨o0,h1,_,h3⟩:=h.mem hk
  exact h3 _ _ (S.hms k o0 h1)
 obtain⟨o0,h1,h2,_⟩:=h.mem hk
 exact (S.refsM k o0 h1 j (by rw[h2];exact hj)).imp (fun e=>(hn j).2 e) id
theorem qD.wk {look:Nat->Option MO} (H:qD P f ds look val out) (h:WkL out out'):qD P f ds look val out':=
 ⟨H.refs,fun G w vs M hv=>(H.call G w vs M hv).mono fun _ _ ⟨G',S⟩=>⟨G',S.wk h⟩⟩
theorem wkK {k:Nat} {R R':List (PV×PV)->Prop} (h:∀ kv,R kv->R' kv) {l l':Na} (hl:WkL l l'):WkL ((k,.kmap R)::l) ((k,.kmap R')::l'):=
 ⟨⟨rfl,rfl,fun G w H=>by
  simp only[q7] at H ⊢
  obtain⟨h1,es,kv,h2,h3⟩:=H
  exact⟨h1,es,kv,h kv h2,h3⟩⟩,hl⟩
theorem wkI {p:Nat×MO} {l l':Na} (hl:WkL l l'):WkL (p::l) (p::l'):=⟨⟨rfl,rfl,fun _ _ H=>H⟩,hl⟩
theorem wk0:WkL [] []:=trivial
theorem qD.fam {l:Na} {ι:Type} {h:Nat} {o:MO} {o':ι->MO} {p:ι->Prop} (hm:qx l h=some o) (hr0:∀ i,(o' i).refs=[]) (hr:∀ k∈DV.qO ds,∃ o,qx l k=some o)
  (ho:∀ (G:Gh) (w:World),q7 G w h o->∃ i,p i/\q7 G w h (o' i)) (k:∀ i,p i->qD P f ds (qx ((h,o' i)::l)) val out):qD P f ds (qx l) val out:=by
 have hd:∀ i k,(∃ o,qx l k=some o)↔∃ o,qx ((h,o' i)::l) k=some o:=by
  intro i k
  rw[qF]
  grind
 refine⟨hr,fun G w vs M hv=>?_⟩
 obtain⟨i,hp,H⟩:=ho G w (M.ms h o hm)
 have M':Z4 G (qx ((h,o' i)::l)) w:=by
  refine⟨fun j u e=>?_,M.fresh,fun b j e=>(hd i j).1 (M.own b j e),fun j u x e hx=>?_,M.r0,M.r0m,M.baseLe,M.laid⟩
  ·rw[qF] at e
   split at e
   ·grind
   exact M.ms j u e
  rw[qF] at e
  split at e
  ·grind
  exact (hd i x).1 (M.refsM j u x e hx)
 refine ((k i hp).call G w vs M' hv).mono fun r w' ⟨G',S⟩=>⟨G',S.later,S.hval,S.hms,fun j u e=>?_,S.old,S.fresh,S.own,fun j hj=>(S.refs j hj).imp id (hd i j).2,fun a u ha j hj=>(S.refsM a u ha j hj).imp id (hd i j).2,S.newb,S.r0,S.r0m⟩
 obtain⟨u',e'⟩:=(hd i j).1 ⟨u,e⟩
 exact S.keeps j u' e'
theorem qD.famK {l:Na} {h:Nat} {R:List (PV×PV)->Prop} (hm:qx l h=some (.kmap R)) (hr:∀ k∈DV.qO ds,∃ o,qx l k=some o)
  (k:∀ kv,R kv->qD P f ds (qx ((h,.kmap (fun x=>x=kv))::l)) val out):qD P f ds (qx l) val out:=
 qD.fam (o':=fun kv=>.kmap (fun x=>x=kv)) hm (fun _=>rfl) hr (fun G w H=>by
  simp only[q7] at H ⊢
  obtain⟨h1,es,kv,h2,h3⟩:=H
  exact⟨kv,h2,h1,es,kv,rfl,h3⟩) k
theorem qD.lk {l l':Nat->Option MO} (e:∀ h,l h=l' h) (H:qD P f ds l val out):qD P f ds l' val out:=by
 have:l=l':=funext e
 rw[<-this];exact H
end
section
variable [Fc] {P:Program} {Y:Tab} [qL P Y] {nb n:Nat} {Q:Exit->St->Prop} {K:List Fr} {ops:Array Oper} {B:List Oper}
theorem textRa (r:Option Nat) {l2:List Nat}:∀ {os:List Oper} {l:List Nat} {s:St} {es:List Ef},efsR P Y nb ops os s es->l.map (fun i=>ops[i]?)=os.map some->os.all (fun o=>dstOk n o.dst)=true->
  ∀ {G:Gh} {a:Act} {w:World} {Q:Exit->Act->World->Prop},Inv G s.vw a w->a.tmps.size=n->
  (∀ G' a' w',Inv G' (es.foldl stp s).vw a' w'->Since nb (qx s.ms) G w (qx (es.foldl stp s).ms) G' w'->a'.tmps.size=n->a'.defers=a.defers->wpOpsIn (fcR r) 0 P ops Q l2 a' w')->wpOpsIn (fcR r) 0 P ops Q (l++l2) a w
 | [],l,s,es,h,hl,_,G,a,w,Q,I,hn,hK=>by
  have:l=[]:=by cases l with|nil=>rfl|cons i l=>simp at hl
  subst this
  simp only[efsR] at h
  subst h
  exact hK G a w I (Since.refl _ _ _ _) hn rfl
 | o::os,l,s,es,h,hl,hda,G,a,w,Q,I,hn,hK=>by
  obtain⟨e,es',rfl,he,hes⟩:=h
  cases l with
  | nil=>simp at hl
  | cons i l=>
  simp only[zy,List.cons.injEq] at hl
  obtain⟨hi,hl⟩:=hl
  simp only[List.all_cons,zj] at hda
  have pd:∀ v,(a.put o.dst v).defers=a.defers:=fun v=>by cases hd:o.dst<;>rfl
  simp only[zQ,wpOpsIn,hi]
  have key:=EfR.sound (P:=P) (π:=s) he hda.1 (fun _ _=>rfl) (fun _ _=>rfl) I hn (Q:=Q) (next:=wpOpsIn (fcR r) 0 P ops Q (l++l2)) ?_
  ·split
   ·grind
   rename_i hw;rw[if_neg hw] at key;exact⟨fun _ _=>trivial,key⟩
  intro G1 r w1 I1 Sn1
  rw[<-he.dst] at I1 Sn1
  refine textRa _ hes hl hda.2 (G:=G1) aQ aP ?_
  intro G2 a2 w2 I2 Sn2 hn2 hd2
  exact hK G2 a2 w2 I2 (Sn1.trans Sn2) hn2 (hd2.trans (pd r))
def Cut (P:Program) (Y:Tab) (nb n:Nat) (Q:Exit->St->Prop) (K:List Fr) (ops:Array Oper) (B:List Oper) (h:Nat) (s:St):Prop:=
 ∃ R,qx s.ms h=some (.kmap R)/\∀ kv,R kv->RG P Y nb ops false B ⟨s.tm,(h,.kmap (fun x=>x=kv))::s.ms⟩ [] (PK P n nb Q K .normal)
theorem Cut.mk {h:Nat} {tm:List (Nat×DV)} {ms:Na} {R:List (PV×PV)->Prop} (e:qx ms h=some (.kmap R)) (k:∀ kv,R kv->RG P Y nb ops false B ⟨tm,(h,.kmap (fun x=>x=kv))::ms⟩ [] (PK P n nb Q K .normal)):Cut P Y nb n Q K ops B h ⟨tm,ms⟩:=
 ⟨R,e,k⟩
theorem TK.cutK {id:Nat} {tm:List (Nat×DV)} {ms:Na} (i h:Nat) (hda:jo n (.region id ops false)=true)
  (hA:RG P Y nb ops false (ops.toList.take i) ⟨tm,ms⟩ [] (PK P n nb Q (.lp (Cut P Y nb n Q K ops (ops.toList.drop i) h)::K) .normal)):TK P n nb Q (.region id ops false) K ⟨tm,ms⟩:=by
 obtain⟨es,hes,_,hq⟩:=hA
 obtain⟨R,hm,k⟩:Cut P Y nb n Q K ops (ops.toList.drop i) h (es.foldl stp ⟨tm,ms⟩):=by
  have:=hq
  simpa only[PK] using this
 intro G a w R0 I hn hK
 simp only[jo,zj] at hda
 have hsp:ops.toList.map some=(ops.toList.take i).map some++(ops.toList.drop i).map some:=by rw[<-qc,List.take_append_drop]
 have hidx:(List.range ops.size).map (fun i=>ops[i]?)=ops.toList.map some:=by
  apply List.ext_getElem?
  grind
 obtain⟨l1,l2,hl,hl1,hl2⟩:∃ l1 l2,List.range ops.size=l1++l2/\l1.map (fun i=>ops[i]?)=(ops.toList.take i).map some/\l2.map (fun i=>ops[i]?)=(ops.toList.drop i).map some:=
  ⟨(List.range ops.size).take i,(List.range ops.size).drop i,(List.take_append_drop _ _).symm,by rw[List.map_take,hidx,List.map_take],by rw[List.map_drop,hidx,List.map_drop]⟩
 have hds:=hda.1
 rw[<-List.take_append_drop i ops.toList,List.all_append,zj] at hds
 refine wpIn_region ?_
 rw[hl]
 refine textRa (P:=P) _ hes hl1 hds.1 I hn ?_
 intro G1 a1 w1 I1 Sn1 hn1 hd1
 obtain⟨kv,hkv,H⟩:∃ kv,R kv/\q7 G1 w1 h (.kmap (fun x=>x=kv)):=by
  have:=I1.ms h _ hm
  grind [q7]
 obtain⟨es2,hes2,_,hq2⟩:=k kv hkv
 generalize es.foldl stp ⟨tm,ms⟩=s1 at*
 obtain⟨tm1,ms1⟩:=s1
 have S:=jh (m:=.kmap (fun x=>x=kv)) (val:=.dead) (r:=undef) I1.ctxS (B:=G1.ρ h) hm aU (w':=w1) Z Z Z Z (fun _ _=>rfl) aB cB ak am
 rw[Gh.qX] at S
 obtain⟨I2,Sn2⟩:=I1.eff (s:=⟨tm1,ms1⟩) (K:=nb) S none ao
 refine textR (P:=P) _ hes2 hl2 hds.2 (G:=G1) I2 hn1 ?_
 intro G' a' w' I' Sn' hn' hd'
 exact hK _ _ _ _ _ hq2 I' ((Sn1.trans Sn2).trans Sn') hn' (Mks.of (hd'.trans hd1))
end
end Go.Lens
end
section
namespace Go.Lens.Tb
open Go.Proofs Go.Lens.Un
variable [Lz] [Dn]
attribute [local irreducible] TK PK T RG EfR Body CG
theorem qD.k1 {f:FuncId} {ds:List DV} {val:DV} {out:Na} {x:Nat} {P:PL} (hr:∀ k∈DV.qO ds,k=x) (H:∀ m,KP P m->qD Tryz.prog f ds (qx [(x,kO eP m)]) val out):qD Tryz.prog f ds (qx [(x,kR P)]) val out:=by
 refine qD.famK (h:=x) (by simp[qF];rfl) (fun k hk=>⟨kR P,by rw[hr k hk];simp[qF]⟩) ?_
 rintro kv ⟨m,hm,rfl⟩
 refine (H m hm).lk fun h=>?_
 by_cases e:x=h<;>simp[qF,e]
theorem qD.k2 {f:FuncId} {ds:List DV} {val:DV} {out:Na} {x y:Nat} {P R:PL} (hxy:x≠y) (hr:∀ k∈DV.qO ds,k=x\/k=y) (H:∀ m o,KP P m->KP R o->qD Tryz.prog f ds (qx [(x,kO eP m),(y,kO eP o)]) val out):qD Tryz.prog f ds (qx [(x,kR P),(y,kR R)]) val out:=by
 have hl:∀ k,(k=x\/k=y)->∃ o,qx [(x,kR P),(y,kR R)] k=some o:=by
  rintro k (rfl|rfl)
  ·exact⟨kR P,by simp[qF]⟩
  exact⟨kR R,by simp[qF,hxy]⟩
 refine qD.famK (h:=x) (by simp[qF];rfl) (fun k hk=>hl k (hr k hk)) ?_
 rintro kv ⟨m,hm,rfl⟩
 refine qD.famK (h:=y) (by simp[qF,hxy];rfl) (fun k hk=>?_) ?_
 ·obtain⟨o,ho⟩:=hl k (hr k hk)
  by_cases e:x=k
  ·exact⟨_,by rw[qF,if_pos e]⟩
  exact⟨o,by rw[qF,if_neg e];exact ho⟩
 rintro kv ⟨o,ho,rfl⟩
 refine (H m o hm ho).lk fun h=>?_
 by_cases e:x=h
 ·subst e;simp[qF,hxy,Ne.symm hxy]
 by_cases e2:y=h<;>simp[qF,e,e2]
theorem w114a (f:List Trm) (a:Nat) (hl:f.length<=1000000) (hc:jf f=0):qD Tryz.prog 54 [vL eY f] (qx []) (.mref a) [(a,kO eP (sumM f))]:=by simpa [renM,DV.renL,DV.ren,MO.ren,r1_1] using (w114' f hl fun t ht=>(po_t hc ht).1).r1 7 a
theorem w114k (f:List Trm) (a:Nat) (hl:f.length<=1000000) (hc:jf f=0):qD Tryz.prog 54 [vL eY f] (qx []) (.mref a) [(a,kR (plF f))]:=
 (w114a f a hl hc).wk (wkK (fun _ h=>⟨_,kp_sum hc,h⟩) wk0)
theorem w104k (hp:qW) (P:PL) (a:Nat) (hP:OkP P):qD Tryz.prog 51 [.mref a] (qx [(a,kR P)]) (.tup [vL eY (polT P),vI (polE P)]) [(a,kR P)]:=
 qD.k1 dU fun m hm=>(w104 hp m P a hm hP).wk (wkK (fun _ h=>⟨_,hm,h⟩) wk0)
theorem w117k (ax:Int) (P:PL) (a b:Nat) (hab:a≠b) (ha:ax=0\/ax=1) (hP:OkP P) (hd:DrOk P):qD Tryz.prog 61 [.mref a,vI ax] (qx [(a,kR P)]) (.mref b) [(a,kR P),(b,kR (derP ax P))]:=
 qD.k1 dU fun m hm=>(w117 ax m P a b hab ha hm hP hd).wk (wkK (fun _ h=>⟨_,hm,h⟩) (wkI wk0))
theorem w102k (P R:PL) (b:Qn) (x y z:Nat) (hxy:x≠y) (hxz:x≠z) (hyz:y≠z) (hz:szP P+(R.length+1)*(szP R+sz (Qn.q b)+2)<=10000000):qD Tryz.prog 49 [.mref x,.mref y,.pv (eP b)] (qx [(x,kR P),(y,kR R)]) (.mref z) [(y,kR R),(x,kR P),(z,kR (P++scl (Qn.q b) R))]:=
 qD.k2 hxy dU fun m o hm ho=>(w102 m o P R b x y z hxy hxz hyz hm ho hz).wk (wkK (fun _ h=>⟨_,ho,h⟩) (wkK (fun _ h=>⟨_,hm,h⟩) (wkI wk0)))
theorem w101k (P R:PL) (x y z:Nat) (hxy:x≠y) (hxz:x≠z) (hyz:y≠z) (hP:KB P) (hR:KB R) (hz:(P.length*R.length+2)*(szP P+szP R+2)<=10000000):qD Tryz.prog 48 [.mref x,.mref y] (qx [(x,kR P),(y,kR R)]) (.mref z) [(y,kR R),(x,kR P),(z,kR (q6 P R))]:=
 qD.k2 hxy dU fun m o hm ho=>(w101 m o P R x y z hxy hxz hyz hm ho hP hR hz).wk (wkK (fun _ h=>⟨_,ho,h⟩) (wkK (fun _ h=>⟨_,hm,h⟩) (wkI wk0)))
def erL {α:Type} (e:Int) (l:List α):List α:=if e≠0 then [] else l
def erE (e d:Int):Int:=if e≠0 then e else d
section
variable {α:Type} {e d:Int} {l:List α} {f g:List Trm} {x y:Nb}
theorem er_1 (h:e≠0):[]=erL e l:=by unfold erL;rw[if_pos h]
theorem er_2 (h:e≠0):e=erE e d:=by unfold erE;rw[if_pos h]
theorem er_3 (h:¬e≠0):l=erL e l:=by unfold erL;rw[if_neg h]
theorem er_4 (h:¬e≠0):d=erE e d:=by unfold erE;rw[if_neg h]
theorem va_0 (h:¬qM [jf f,jA x,jA y]≠0):jf f=0/\jA x=0/\jA y=0:=by grind [ff_0]
theorem va_f (h:¬qM [jf f,jA x,jA y]≠0):jf f=0:=(va_0 h).1
theorem va_x (h:¬qM [jf f,jA x,jA y]≠0):jA x=0:=(va_0 h).2.1
theorem va_y (h:¬qM [jf f,jA x,jA y]≠0):jA y=0:=(va_0 h).2.2
theorem va_k (h:¬qM [jf f,jA x,jA y]≠0):KP (plF f) (sumM f):=kp_sum (va_f h)
theorem va_q (h:¬qM [jf f,jA x,jA y]≠0) (hz:jf f=0->OkP (plF f)/\EvOk (plF f) (jc x) (jc y)):(valM (sumM f) (plF f) (jc x) (jc y)).q=evP (plF f) (jc x).q (jc y).q:=valM_q (va_k h) (hz (va_f h)).1
theorem va_3 (h:¬qM [jf f,jA x,jA y]≠0) (hz:jf f=0->OkP (plF f)/\EvOk (plF f) (jc x) (jc y)):resT (valM (sumM f) (plF f) (jc x) (jc y)).q=erL (qM [jf f,jA x,jA y]) (resT (evP (plF f) (jc x).q (jc y).q)):=by rw[va_q h hz];exact er_3 h
theorem va_4 (h:¬qM [jf f,jA x,jA y]≠0) (hz:jf f=0->OkP (plF f)/\EvOk (plF f) (jc x) (jc y)):resE (valM (sumM f) (plF f) (jc x) (jc y)).q=erE (qM [jf f,jA x,jA y]) (resE (evP (plF f) (jc x).q (jc y).q)):=by rw[va_q h hz];exact er_4 h
theorem va_z (h:¬qM [jf f,jA x,jA y]≠0) (hz:jf f=0->OkP (plF f)/\EvOk (plF f) (jc x) (jc y)):sz (valM (sumM f) (plF f) (jc x) (jc y)).q<=20000000:=by
 obtain⟨h1,h2⟩:=hz (va_f h)
 have a1:=ev_sz (x:=jc x) (y:=jc y) (va_k h) (jm (plF f)) frZ fun k hk=>hk
 have a2:=frZ_s
 have a3:=ord_len (P:=plF f)
 have a4:(jm (plF f)).length*(szP (plF f)+32*(sz (jc x).q+sz (jc y).q)+3)<=((plF f).length+2)*(szP (plF f)+34*(sz (jc x).q+sz (jc y).q+128)):=Nat.mul_le_mul aa aa
 unfold EvOk at h2
 unfold valM
 omega
theorem ch_0 (h:¬ky f g≠0):jf f=0/\jf g=0:=by
 have:=zi.1 h
 unfold ky at this
 grind [ff_0]
theorem ch_f (h:¬ky f g≠0):jf f=0:=(ch_0 h).1
theorem ch_g (h:¬ky f g≠0):jf g=0:=(ch_0 h).2
theorem of1_s (h:R64 1):sz (Qn.ofZ 1 h).q<=64:=by rw[Qn.ofZ_q];exact qh (sz_int 1) ah
theorem scl_sz (b:Rat) (R:PL):szP (scl b R)<=R.length*(szP R+sz b+2)+1:=by
 refine szP_le (S:=szP R+sz b+1) (by simp[scl]) fun p hp=>?_
 simp only[scl,zE] at hp
 obtain⟨a,ha,rfl⟩:=hp
 have:=jy a.2 b
 have:=szP_mem ha
 simp only
 omega
def MulOk (P R:PL):Prop:=(P.length*R.length+2)*(szP P+szP R+2)<=8000000/\P.length*R.length<=100000
theorem mu_k (h:¬ky f g≠0):KB (plF f)/\KB (plF g):=⟨fun k hk=>by have:=kb_f (ch_f h) k hk;omega,fun k hk=>by have:=kb_f (ch_g h) k hk;omega⟩
theorem mu_z (h:¬ky f g≠0) (hz:ky f g=0->MulOk (plF f) (plF g)):((plF f).length*(plF g).length+2)*(szP (plF f)+szP (plF g)+2)<=10000000:=by have:=(hz (zi.1 h)).1;omega
theorem prods_sz (P R:PL):szP (q6 P R)<=P.length*R.length*(szP P+szP R+2)+1:=by
 refine szP_le (S:=szP P+szP R+1) (by rw[prods_len];exact zB _) fun p hp=>?_
 simp only[q6,rowP,List.mem_flatMap,zE] at hp
 obtain⟨a,ha,b,hb,rfl⟩:=hp
 have:=jy a.2 b.2
 have:=szP_mem ha
 have:=szP_mem hb
 simp only
 omega
end
theorem w22 (hp:qW) (f:List Trm) (x y:Nb) (hlf:f.length<=1000000) (hsf:∀ t∈f,(Trm.c t).length<=1000000000) (hx:x.length<=1000000000) (hy:y.length<=1000000000) (hz:jf f=0->OkP (plF f)/\EvOk (plF f) (jc x) (jc y)):CKa 17 [vL eY f,.pv (.agg [pS (bsO x),pS (bsO y)])] (.tup [vS (bsO (erL (qM [jf f,jA x,jA y]) (resT (evP (plF f) (Qn.q (jc x)) (Qn.q (jc y)))))),vI (erE (qM [jf f,jA x,jA y]) (resE (evP (plF f) (Qn.q (jc x)) (Qn.q (jc y)))))]):=by
 refine cL 10 [] qf17 Z (nB Z) Z Z (kc (C Z (w81 f hlf hsf) Z Z Z (C Z (w112 x hx) Z Z Z (C Z (w112 y hy) Z Z Z (E Z (B.runZ (val:=.pv (.slice (List.map eI [(jf f),(jA x),(jA y)]))) (m0:=[(25,.arr 0 1 26 [[pI (jf f)],[pI (jA x)],[pI (jA y)]])]) (rd:=[]) ae (fun l=>Frz.arr l _ _ _ _ _) Z) (C Z (w98 [(jf f),(jA x),(jA y)] (nB Z)) Z Z Z (Dr Z ae (Cp Z Z (fun h1=>?_) (fun h1=>?_)))))))))
 ·exact Rt Z (lL Z dV)
 exact E Z (B.jd (w114a f 31 hlf (va_f ab)) Z Z trivial Z Z) (C Z (w116 x (va_x ab)) Z Z Z (C Z (w116 y (va_y ab)) Z Z Z (E Z (B.run (val:=(rV (jc x) (jc y))) (m:=[]) (rd:=[]) ae) (E Z (B.jd (w115 (sumM f) (plF f) (jc x) (jc y) 31 (va_k ab) (hz (va_f ab)).1 (hz (va_f ab)).2) Z Z ⟨rfl,trivial⟩ rfl rfl) (C Z (w113 hp (valM (sumM f) (plF f) (jc x) (jc y)) (va_z ab hz)) Z Z Z (Dr Z ae (Rt Z (lL Z dV))))))))
def axB (s:Nb):Bool:=decide (s=[120])||decide (s=[121])
def axI (s:Nb):Int:=if s=[121] then 1 else 0
theorem axI_c (s:Nb):axI s=0\/axI s=1:=by unfold axI;split<;>simp
theorem B.lookAx (x:Nb) {P:Program} {Y:Tab} [qL P Y] {nb:Nat} {s:St} {dst:Option Tmp} {ty t:TypeId} {pos:String} {af:Array Edge} {gd:Option (Nat×Bool)} {m k:Operand} {h:Nat} {a b:ByteArray} {kt et:TypeId} {kd:TypeDesc} (hx:ev1 s m=.mref h) (hm:qx s.ms h=some (.map [.lit (.string a),.lit (.string b)] [.lit (.int .i64 0),.lit (.int .i64 1)])) (hy:ev1 s k=vS (bsO x))
  (und:Y.underlying t=some (.map kt et)) (uk:Y.underlying kt=some kd) (hz:(Y.info? et).bind (fun i=>i.zero.bind valPV)=some (.lit (.int .i64 0))) (hpk:plainKey kd (.lit (.string (bsO x)))=true) (hks:(plainKeys kd [.lit (.string a),.lit (.string b)]&&2==2)=true) (ha:a=bsO [120]) (hb:b=bsO [121]) :
  Body P Y nb s ⟨dst,.lookup t m k true,ty,pos,af,gd⟩ (.tup [vI (axI x),vB (axB x)]) [] [h]:=by
 subst ha hb
 have hf:Zx (.lit (.string (bsO x))) [.lit (.string (bsO [120])),.lit (.string (bsO [121]))] [.lit (.int .i64 0),.lit (.int .i64 1)]=if x=[120] then some (.lit (.int .i64 0)) else if x=[121] then some (.lit (.int .i64 1)) else none:=by simp only[Zx,bsO_toList,beq_iff_eq]
 have key:=B.lookK (P:=P) (nb:=nb) (dst:=dst) (ty:=ty) (pos:=pos) (af:=af) (gd:=gd) (z:=.lit (.int .i64 0)) hx hm (key:=.lit (.string (bsO x))) hy und uk hz hpk hks hf
 have e1:((if x=[120] then some (PV.lit (.int .i64 0)) else if x=[121] then some (.lit (.int .i64 1)) else none:Option PV).getD (.lit (.int .i64 0)))=.lit (.int .i64 (axI x)):=by
  unfold axI
  grind
 have e2:(if x=[120] then some (PV.lit (.int .i64 0)) else if x=[121] then some (.lit (.int .i64 1)) else none:Option PV).isSome=axB x:=by
  unfold axB
  grind
 rw[e1,e2] at key
 exact key
section
variable {f g:List Trm} {s:Nb} {n:Array Nat} {q:List (KI×Qn)} {i:Nat} {k:KI} {v t:Qn} {P:PL} {ax:Int}
theorem de_f (h:¬qM [jf f,ju (!(axB s)) 13]≠0):jf f=0:=by grind [ff_0]
theorem der_len (P:PL):(derP ax P).length<=P.length:=by
 induction P with
 | nil=>exact zB _
 | cons a A ih=>
  show (derT ax a++derP ax A).length<=_
  grind [List.length_append,List.length_cons,derT]
theorem de_ok (h:¬qM [jf f,ju (!(axB s)) 13]≠0) (hz:jf f=0->OkP (plF f)/\DrOk (plF f)):OkP (derP ax (plF f)):=by
 obtain⟨hP,hd⟩:=hz (de_f h)
 refine⟨fun k hk=>?_,qh (der_len _) hP.len,?_⟩
 ·simp only[derP,zE,List.mem_flatMap] at hk
  obtain⟨p,⟨a,ha,hp⟩,rfl⟩:=hk
  unfold derT at hp
  split at hp
  ·rename_i h0
   rw[zg] at hp;subst hp
   have:=hP.k32 a.1 (zE.2 ⟨a,ha,rfl⟩)
   grind [kax,kdec]
  cases hp
 have h1:szP (derP ax (plF f))<=(plF f).length*(szP (plF f)+8)+1:=by
  refine szP_le (S:=szP (plF f)+7) (der_len _) fun p hp=>?_
  simp only[derP,List.mem_flatMap] at hp
  obtain⟨a,ha,hp⟩:=hp
  unfold derT at hp
  split at hp
  ·rw[zg] at hp;subst hp
   have hk:=hP.k32 a.1 (zE.2 ⟨a,ha,rfl⟩)
   have hb: -1<=kax ax a.1/\kax ax a.1<=64:=by unfold kax;split<;>omega
   have:=jy a.2 (kax ax a.1:Rat)
   have h6:=ofI_sz hb
   rw[ofI_q bg] at h6
   have:=szP_mem ha
   simp only
   omega
  cases hp
 unfold DrOk at hd
 have:((plF f).length+2)*(szP (plF f)+20)=(plF f).length*(szP (plF f)+8)+(plF f).length*12+2*(szP (plF f)+20):=by rw[Nat.add_mul,show szP (plF f)+20=(szP (plF f)+8)+12 by omega,Nat.mul_add (plF f).length]
 omega
def TuI (m:List (KI×Qn)) (n:Array Nat) (q:List (KI×Qn)):Prop:=VI m n/\KP (turP (plM (visL m n))) q
theorem tur_app (A B:PL):turP (A++B)=turP A++turP B:=qc
theorem tu_0 {m:List (KI×Qn)}:TuI m #[] []:=⟨VI.nil _,KP.nil⟩
theorem tu_s {m:List (KI×Qn)} (hI:TuI m n q) (hk:m[i]? =some (k,v)) (hi:i∉n) (h:k.2%2=1):TuI m (n.push i) (addK (k.2,k.1) (Qn.neg v) q):=by
 refine⟨hI.1.push hk hi,?_⟩
 rw[kP hk,plM_app,tur_app]
 have:=hI.2.add (k.2,k.1) (Qn.neg v)
 grind [Qn.neg_q,turP,turT,plM]
theorem tu_t {m:List (KI×Qn)} (hI:TuI m n q) (hk:m[i]? =some (k,v)) (hi:i∉n) (h:¬k.2%2=1):TuI m (n.push i) (addK (k.2,k.1) v q):=by
 refine⟨hI.1.push hk hi,?_⟩
 rw[kP hk,plM_app,tur_app]
 have:=hI.2.add (k.2,k.1) v
 simpa [turP,turT,plM,h] using this
theorem tu_b (h:¬jf f≠0) (hk:(sumM f)[i]? =some (k,v)):0<=k.1/\0<=k.2/\k.1+k.2<=16:=
 kb_f (zi.1 h) k ((kp_sum (zi.1 h)).mem k (zE.2 ⟨_,List.mem_of_getElem? hk,rfl⟩))
theorem tu_n (h:¬jf f≠0) (hz:jf f=0->OkP (plF f)/\DrOk (plF f)) (hk:(sumM f)[i]? =some (k,v)):sz v.q<=20000000:=by
 have:=(kp_sum (zi.1 h)).sz (List.mem_of_getElem? hk)
 have:=(hz (zi.1 h)).1.sz
 omega
theorem szP_tur (A:PL):szP (turP A)=szP A:=by
 induction A with
 | nil=>rfl
 | cons a A ih=>
  show szP (turT a::turP A)=_
  obtain⟨k,c⟩:=a
  unfold turT
  simp only[szP]
  rw[ih]
  split
  ·rw[sz_neg]
  rfl
theorem vis_sz {m:List (KI×Qn)} (hm:KP P m) (hI:VI m n):szP (plM (visL m n))<=P.length*(szP P+1)+1:=by
 refine szP_le (S:=szP P) ?_ fun p hp=>?_
 ·have:=vis_len m n
  have:=hI.size
  have:=hm.len
  grind [plM]
 simp only[plM,zE] at hp
 obtain⟨b,hb,rfl⟩:=hp
 exact hm.sz (vis_mem hb)
theorem tu_a (h:¬jf f≠0) (hz:jf f=0->OkP (plF f)/\DrOk (plF f)) (hI:TuI (sumM f) n q) (hk:(sumM f)[i]? =some (k,v)) {K:KI} {c:Qn} (hc:sz c.q<=sz v.q:=by first|exact zB _|(rw[Qn.neg_q,sz_neg];exact zB _)):∀ x,Zb K q=some x->sz x.q+sz c.q<=20000000:=by
 intro x hx
 have h1:=(kp_sum (zi.1 h)).sz (List.mem_of_getElem? hk)
 have h2:=hI.2.szg hx
 have h3:=(hz (zi.1 h)).1.sz
 have hs:szP (turP (plM (visL (sumM f) n)))<=9000000:=by
  rw[szP_tur]
  have h5:=vis_sz (kp_sum (zi.1 h)) hI.1
  have h6:=(hz (zi.1 h)).2
  unfold DrOk at h6
  have:((plF f).length+2)*(szP (plF f)+20)=(plF f).length*(szP (plF f)+1)+(plF f).length*19+2*(szP (plF f)+20):=by rw[Nat.add_mul,show szP (plF f)+20=(szP (plF f)+1)+19 by omega,Nat.mul_add (plF f).length]
  omega
 omega
theorem tu_e (h:¬jf f≠0) (hI:TuI (sumM f) n q) (ha:∀ i,i<(sumM f).length->i∈n):KP (turP (plF f)) q:=by
 have hm:=kp_sum (zi.1 h)
 have hp:=plM_perm (hI.1.all ha)
 refine hI.2.congr (Eqv.tur ((Eqv.perm hp).trans hm.eqv)) fun k hk=>?_
 have hkeys:∀ (A:PL) (k:KI),k∈(turP A).map (·.1)↔∃ a∈A.map (·.1),k=(a.2,a.1):=by
  intro A k
  simp only[turP,List.map_map,zE,Function.comp,turT]
  grind
 rw[hkeys] at hk ⊢
 obtain⟨a,h1,h2⟩:=hk
 exact⟨a,hm.keysP a ((hp.map (·.1)).mem_iff.1 h1),h2⟩
theorem tu_ok (h:¬jf f≠0) (hz:jf f=0->OkP (plF f)/\DrOk (plF f)):OkP (turP (plF f)):=by
 have hP:=(hz (zi.1 h)).1
 refine⟨fun k hk=>?_,by simpa [turP] using hP.len,by rw[szP_tur];exact hP.sz⟩
 simp only[turP,List.map_map,zE,Function.comp,turT] at hk
 obtain⟨a,ha,rfl⟩:=hk
 have:=hP.k32 a.1 (zE.2 ⟨a,ha,rfl⟩)
 simp only;omega
end
theorem un120:tab.underlying 120=some (.map 9 3):=ae
theorem w24 (hp:qW) (f:List Trm) (s:Nb) (hlf:f.length<=1000000) (hsf:∀ t∈f,(Trm.c t).length<=1000000000) (hz:jf f=0->OkP (plF f)/\DrOk (plF f)):CKa 19 [vL eY f,vS (bsO s)] (.tup [vL eY (erL (qM [jf f,ju (!(axB s)) 13]) (polT (derP (axI s) (plF f)))),vI (erE (qM [jf f,ju (!(axB s)) 13]) (polE (derP (axI s) (plF f))))]):=by
 refine cL 10 [] qf19 Z (nB Z) Z Z (kc (E Z (B.ZH (enc:=eY) Z) (E Z (B.run Z) (E Z (B.run (val:=.dead) (m:=[(20,.map [.lit (.string (bsO [120]))] [.lit (.int .i64 0)])]) (rd:=[20]) ae) (E Z (B.run (val:=.dead) (m:=[(20,.map [.lit (.string (bsO [120])),.lit (.string (bsO [121]))] [.lit (.int .i64 0),.lit (.int .i64 1)])]) (rd:=[20]) ae) (E Z (B.lookAx s Z Z Z un120 un9 ae ae ae ae ae) (C Z (w81 f hlf hsf) Z Z Z (C Z (w99 (!(axB s)) 13) Z Z Z (E Z (B.runZ (val:=.pv (.slice (List.map eI [(jf f),(ju (!(axB s)) 13)]))) (m0:=[(31,.arr 0 1 26 [[pI (jf f)],[pI (ju (!(axB s)) 13)]])]) (rd:=[]) ae (fun l=>Frz.arr l _ _ _ _ _) Z) (C Z (w98 [(jf f),(ju (!(axB s)) 13)] (nB Z)) Z Z Z (Cp Z Z (fun h1=>?_) (fun h1=>?_))))))))))))
 ·exact E Z (B.ZH (enc:=eY) Z) (Rt Z (lL Z dW))
 exact E Z (B.jd (w114k f 37 hlf (de_f ab)) Z Z trivial Z Z) (E Z (B.jd (w117k (axI s) (plF f) 37 39 ah (axI_c s) (hz (de_f ab)).1 (hz (de_f ab)).2) Z Z ⟨rfl,trivial⟩ rfl rfl) (E Z (B.jd (w104k hp (derP (axI s) (plF f)) 39 (de_ok ab hz)) Z Z ⟨rfl,trivial⟩ rfl rfl) (Rt Z (lL Z dW))))
theorem w25 (hp:qW) (f:List Trm) (hlf:f.length<=1000000) (hsf:∀ t∈f,(Trm.c t).length<=1000000000) (hz:jf f=0->OkP (plF f)/\DrOk (plF f)):CKa 20 [vL eY f] (.tup [vL eY (erL (jf f) (polT (turP (plF f)))),vI (erE (jf f) (polE (turP (plF f))))]):=by
 refine cL 10 [] qf20 Z (nB Z) Z Z (kc (E Z (B.ZH (enc:=eY) Z) (C Z (w81 f hlf hsf) Z Z Z (Cp Z Z (fun h1=>?_) (fun h1=>?_)))))
 ·exact E Z (B.ZH (enc:=eY) Z) (Rt Z (lL Z dW))
 refine E Z (B.newK (enc:=eP) Z Z) (E Z (B.jd (w114a f 25 hlf (zi.1 ab)) Z Z trivial Z Z) (E Z (B.rangeK kty Z Z Z Z) (l2 (fun (n:Array Nat) (q:List (KI×Qn))=>[(5,.mref 23),(16,.bref 26 0)]) (fun n q=>[(23,(kO eP q)),(25,(kO eP (sumM f))),(26,.miter 25 ((sumM f).length) n)]) (fun n q=>TuI (sumM f) n q) (fun n _=>(sumM f).length-Array.size n) (#[]) [] Z ?_ (sb Z Z Z) ?_)))
 · exact tu_0
 intro n q hI0
 refine tk 6 Z ?_
 refine TK.nextK (Y:=tab) Z Z Z Z Z (fun i1 k1 v1 hk1 hi1=>?_) (fun hall1=>?_)
 ·refine rc (CT Z Z (E Z (B.entryK Z Z Z hk1) (E Z (B.bZ Z Z) (E Z (B.run Z) (E Z (B.remN Z Z (by have hb:=tu_b ab hk1;omega) ah) (Cp Z Z (fun h2=>?_) (fun h2=>?_)))))))
  ·refine C Z (w118 v1 (tu_n ab hz hk1)) Z Z Z (E Z (B.run Z) (E Z (B.run Z) (E Z (B.run (val:=.pv (.agg [pI (Prod.snd k1),pI (Prod.fst k1)])) (m:=[]) (rd:=[]) ae) (E Z (B.jd (w119 q ((Prod.snd k1),(Prod.fst k1)) (Qn.neg v1) 23 (tu_a ab hz hI0 hk1)) Z Z ⟨rfl,trivial⟩ rfl rfl) (pk Z (L2 (Array.push n i1) (addK ((Prod.snd k1),(Prod.fst k1)) (Qn.neg v1) q) ?_ ?_ (sb Z Z Z)))))))
   · first|exact tu_s hI0 hk1 hi1 ab|exact tu_t hI0 hk1 hi1 ab
   · exact hI0.1.meas hk1 hi1
  refine E Z (B.run Z) (E Z (B.run Z) (E Z (B.run (val:=.pv (.agg [pI (Prod.snd k1),pI (Prod.fst k1)])) (m:=[]) (rd:=[]) ae) (E Z (B.jd (w119 q ((Prod.snd k1),(Prod.fst k1)) v1 23 (tu_a ab hz hI0 hk1)) Z Z ⟨rfl,trivial⟩ rfl rfl) (pk Z (L2 (Array.push n i1) (addK ((Prod.snd k1),(Prod.fst k1)) v1 q) ?_ ?_ (sb Z Z Z))))))
  · first|exact tu_s hI0 hk1 hi1 ab|exact tu_t hI0 hk1 hi1 ab
  · exact hI0.1.meas hk1 hi1
 refine rc (CF Z Z ?_)
 refine tk 11 Z ?_
 refine TK.shutK (h:=23) (R':=fun kv=>∃ m,KP (turP (plF f)) m/\kv=kvO eP m) Z (fun kv e=>⟨_,tu_e ab hI0 hall1,e⟩) ?_
 exact kc (E Z (B.jd (w104k hp (turP (plF f)) 23 (tu_ok ab hz)) Z Z ⟨rfl,trivial⟩ rfl rfl) (Rt Z (lL Z dW)))
def dq (k:Int):Rat:=(Qg k).q
def dF (k:KI):Rat:=if k.1%2=0/\k.2%2=0 then 2*dq (k.1-1)*dq (k.2-1) / (dq (k.1+k.2)*((k.1+k.2+2:Int):Rat)) else 0
def DiI (m:List (KI×Qn)) (n:Array Nat) (t:Qn):Prop:=VI m n/\t.q=lin dF (plM (visL m n))
def DiOk (P R:PL):Prop:=(P.length*R.length+2)*(szP P+szP R+2)<=5000000/\P.length*R.length<=3000
theorem DiOk.mul {P R:PL} (h:DiOk P R):MulOk P R:=⟨by have:=h.1;omega,by have:=h.2;omega⟩
theorem dbF_s:∀ (n:Nat) (k:Int) (r:Qn), -1<=k/\k<=64->sz (dblF n k r).q<=sz r.q+n*7
 | 0,_,_,_=>by simp[dblF]
 | n+1,k,r,h=>by
  rw[dblF]
  split
  ·refine qh (dbF_s n _ _ aa) ?_
   rw[Qn.mul_q]
   have:=jy r.q (Qn.ofI k).q
   have:=ofI_sz h
   omega
  omega
theorem dq_s {k:Int} (h: -1<=k/\k<=64):sz (Qg k).q<=400:=by
 have:=dbF_s 40 k (Qn.ofZ 1 bg) h
 have:=of1_s bg
 unfold Qg;omega
theorem rz_int {k:Int} (h:k≠0):(k:Rat)≠0:=fun e=>h (by
 have e2:((k:Int):Rat)=((0:Int):Rat):=e
 exact Rat.intCast_inj.1 e2)
theorem rz_mul {a b:Rat} (ha:a≠0) (hb:b≠0):a*b≠0:=fun e=>by rcases Rat.mul_eq_zero.1 e with h|h;exact ha h;exact hb h
theorem dbF_z:∀ (n:Nat) (k:Int) (r:Qn),k<=64->r.q≠0->(dblF n k r).q≠0
 | 0,_,_,_,h=>h
 | n+1,k,r,h1,h=>by
  rw[dblF]
  split
  ·refine dbF_z n _ _ aa ?_
   rw[Qn.mul_q,ofI_q bg]
   exact rz_mul h (rz_int aa)
  exact h
theorem dq_z {k:Int} (h:k<=64):(Qg k).q≠0:=dbF_z 40 k _ h (by rw[Qn.ofZ_q];exact rz_int ah)
def sumS (ks:List KI) (P:PL):Nat:=(ks.map fun k=>sz (cf P k)+1).sum
theorem sumS_le (a:KI) (c:Rat) (P:PL):∀ ks:List KI,ks.Nodup->sumS ks ((a,c)::P)<=sumS ks P+if a∈ks then sz c+1 else 0
 | [],_=>by simp[sumS]
 | k::ks,h=>by
  rw[List.nodup_cons] at h
  have ih:=sumS_le a c P ks h.2
  simp only[sumS,zy,List.sum_cons] at ih ⊢
  rw[jP]
  by_cases e:a=k
  ·subst e
   simp only[h.1,qr,ql,qq,Nat.add_zero] at ih ⊢
   have:=sz_add c (cf P a)
   omega
  grind
theorem sz_0:sz 0<=1:=qh (sz_int 0) ah
theorem sumS_all (ks:List KI) (h:ks.Nodup):∀ P:PL,sumS ks P<=szP P+2*ks.length
 | []=>by
  have:∀ l:List KI,sumS l []<=2*l.length:=by
   intro l
   induction l with
   | nil=>simp[sumS]
   | cons a l ih=>
    simp only[sumS,zy,List.sum_cons,zb] at ih ⊢
    have e:cf [] a=0:=rfl
    have:=sz_0
    rw[e];omega
  grind
 | (a,c)::P=>by
  have h1:=sumS_le a c P ks h
  have h2:=sumS_all ks h P
  grind [szP]
section
variable {f g:List Trm} {n:Array Nat} {m:List (KI×Qn)} {i:Nat} {k:KI} {v t:Qn} {P:PL}
theorem vis_nd (hn:(m.map (·.1)).Nodup):∀ {l:List Nat},l.Nodup->((l.filterMap fun i=>m[i]?).map (·.1)).Nodup
 | [],_=>by simp
 | i::l,h=>by
  rw[List.nodup_cons] at h
  have ih:=vis_nd hn h.2
  rw[List.filterMap_cons]
  cases e:m[i]? with
  | none=>simpa using ih
  | some a=>
   simp only[zy,List.nodup_cons]
   refine⟨fun ha=>?_,ih⟩
   simp only[zE,List.mem_filterMap] at ha
   obtain⟨b,⟨j,hj,hb⟩,hab⟩:=ha
   obtain⟨hi',ei⟩:=List.getElem?_eq_some_iff.1 e
   obtain⟨hj',ej⟩:=List.getElem?_eq_some_iff.1 hb
   have hij:i≠j:=fun e=>h.1 (e▸hj)
   have h3:(m.map (·.1))[i]'(by simpa using hi')=(m.map (·.1))[j]'(by simpa using hj'):=by grind
   rcases Nat.lt_or_gt_of_ne hij with q|q
   ·exact List.pairwise_iff_getElem.1 hn i j _ _ q h3
   exact List.pairwise_iff_getElem.1 hn j i _ _ q h3.symm
theorem vis_S (hm:KP P m) (hI:VI m n):szP (plM (visL m n))<=szP P+2*P.length+1:=by
 have hnd:=vis_nd hm.nd hI.1
 have h1:=sumS_all _ hnd P
 have h2:∀ l:List (KI×Qn),(∀ b∈l,b∈m)->szP (plM l)=sumS (l.map (·.1)) P+1:=by
  intro l
  induction l with
  | nil=>intro _;simp[plM,szP,sumS]
  | cons a l ih=>
   intro h
   have:=ih fun b hb=>h b (zN _ hb)
   have hv:=hm.val (k:=a.1) (x:=a.2) (h a ql)
   simp only[plM,zy,szP,sumS,List.sum_cons] at this ⊢
   rw[hv,this]
   omega
 have h3:=h2 (visL m n) fun b hb=>vis_mem hb
 have h4:((visL m n).map (·.1)).length<=P.length:=by
  rw[zI]
  have:=vis_len m n
  have:=hI.size
  have:=hm.len
  omega
 grind [visL]
theorem di_b (h:¬ky f g≠0) (hm:KP (q6 (plF f) (plF g)) m) (hk:m[i]? =some (k,v)):0<=k.1/\0<=k.2/\k.1+k.2<=32:=by
 obtain⟨a,ha,b,hb,rfl⟩:=prods_keys.1 (hm.mem k (zE.2 ⟨_,List.mem_of_getElem? hk,rfl⟩))
 have:=kb_f (ch_f h) a ha
 have:=kb_f (ch_g h) b hb
 unfold kadd;simp only;omega
theorem pr_z (h:¬ky f g≠0) (hz:ky f g=0->DiOk (plF f) (plF g)):szP (q6 (plF f) (plF g))<=5000000/\(q6 (plF f) (plF g)).length<=3000:=by
 obtain⟨a1,a2⟩:=hz (zi.1 h)
 have b1:=prods_sz (plF f) (plF g)
 rw[Nat.add_mul] at a1
 rw[prods_len]
 omega
theorem of2_s {h:R64 2}:sz (Qn.ofZ 2 h).q<=64:=by rw[Qn.ofZ_q];exact qh (sz_int 2) ah
theorem di_v (h:¬ky f g≠0) (hz:ky f g=0->DiOk (plF f) (plF g)) (hm:KP (q6 (plF f) (plF g)) m) (hk:m[i]? =some (k,v)):sz v.q<=5000000:=by
 have:=hm.sz (List.mem_of_getElem? hk)
 have:=(pr_z h hz).1
 omega
theorem di_m (h:¬ky f g≠0) (hz:ky f g=0->DiOk (plF f) (plF g)) (hm:KP (q6 (plF f) (plF g)) m) (hk:m[i]? =some (k,v)) {h2:R64 2}:sz v.q+sz (Qn.ofZ 2 h2).q<=20000000/\sz (Qn.mul v (Qn.ofZ 2 h2)).q+sz (Qg (k.1-1)).q<=20000000/\sz (Qn.mul (Qn.mul v (Qn.ofZ 2 h2)) (Qg (k.1-1))).q+sz (Qg (k.2-1)).q<=20000000/\sz (Qg (k.1+k.2)).q+sz (Qn.ofI (k.1+k.2+2)).q<=20000000:=by
 have h3:=di_v h hz hm hk
 have h4:=di_b h hm hk
 have h5:=of2_s (h:=h2)
 have d1:=dq_s (k:=k.1-1) aa
 have d2:=dq_s (k:=k.2-1) aa
 have d3:=dq_s (k:=k.1+k.2) aa
 have d4:=ofI_sz (j:=k.1+k.2+2) aa
 have s1:=jy v.q (Qn.ofZ 2 h2).q
 have s2:=jy (v.q*(Qn.ofZ 2 h2).q) (Qg (k.1-1)).q
 simp only[Qn.mul_q]
 omega
theorem di_d (h:¬ky f g≠0) (hz:ky f g=0->DiOk (plF f) (plF g)) (hm:KP (q6 (plF f) (plF g)) m) (hk:m[i]? =some (k,v)) {h2:R64 2}:sz (Qn.mul (Qn.mul (Qn.mul v (Qn.ofZ 2 h2)) (Qg (k.1-1))) (Qg (k.2-1))).q+sz (Qn.mul (Qg (k.1+k.2)) (Qn.ofI (k.1+k.2+2))).q<=20000000:=by
 have h3:=di_v h hz hm hk
 have h4:=di_b h hm hk
 have h5:=of2_s (h:=h2)
 have d1:=dq_s (k:=k.1-1) aa
 have d2:=dq_s (k:=k.2-1) aa
 have d3:=dq_s (k:=k.1+k.2) aa
 have d4:=ofI_sz (j:=k.1+k.2+2) aa
 have s1:=jy v.q (Qn.ofZ 2 h2).q
 have s2:=jy (v.q*(Qn.ofZ 2 h2).q) (Qg (k.1-1)).q
 have s3:=jy (v.q*(Qn.ofZ 2 h2).q*(Qg (k.1-1)).q) (Qg (k.2-1)).q
 have s4:=jy (Qg (k.1+k.2)).q (Qn.ofI (k.1+k.2+2)).q
 simp only[Qn.mul_q]
 omega
theorem di_z (h:¬ky f g≠0) (hm:KP (q6 (plF f) (plF g)) m) (hk:m[i]? =some (k,v)):(Qn.mul (Qg (k.1+k.2)) (Qn.ofI (k.1+k.2+2))).q≠0:=by
 have h4:=di_b h hm hk
 rw[Qn.mul_q,ofI_q bg]
 exact rz_mul (dq_z aa) (rz_int aa)
theorem dF_s {c:Rat} (h:0<=k.1/\0<=k.2/\k.1+k.2<=32):sz (c*dF k)<=sz c+1300:=by
 have d1:=dq_s (k:=k.1-1) aa
 have d2:=dq_s (k:=k.2-1) aa
 have d3:=dq_s (k:=k.1+k.2) aa
 have d4:=ofI_sz (j:=k.1+k.2+2) aa
 rw[ofI_q bg] at d4
 have s0:=jy c (dF k)
 have h5:sz (2:Rat)<=64:=qh (sz_int 2) ah
 have:sz (dF k)<=1300:=by
  unfold dF
  split
  ·have s1:=jy 2 (dq (k.1-1))
   have s2:=jy (2*dq (k.1-1)) (dq (k.2-1))
   have s3:=jy (dq (k.1+k.2)) ((k.1+k.2+2:Int):Rat)
   have s4:=sz_div (2*dq (k.1-1)*dq (k.2-1)) (dq (k.1+k.2)*((k.1+k.2+2:Int):Rat))
   unfold dq at*
   omega
  have:=sz_0;omega
 omega
theorem lin_sz:∀ (A:PL),(∀ p∈A,0<=p.1.1/\0<=p.1.2/\p.1.1+p.1.2<=32)->sz (lin dF A)<=szP A+A.length*1302
 | [],_=>by have:=sz_0;simp only[lin,szP];omega
 | (a,c)::A,h=>by
  have ih:=lin_sz A fun p hp=>h p (zN _ hp)
  have h1:=dF_s (c:=c) (h _ ql)
  have h2:=sz_add (c*dF a) (lin dF A)
  grind [lin,szP,List.length_cons]
theorem di_t (h:¬ky f g≠0) (hz:ky f g=0->DiOk (plF f) (plF g)) (hm:KP (q6 (plF f) (plF g)) m) (hI:DiI m n t):sz t.q<=10000000:=by
 have h1:=pr_z h hz
 have h2:=vis_S hm hI.1
 have h3:(plM (visL m n)).length<=3000:=by
  have:=vis_len m n
  have:=hI.1.size
  have:=hm.len
  grind [plM]
 have h4:=lin_sz (plM (visL m n)) fun p hp=>by
  simp only[plM,zE] at hp
  obtain⟨b,hb,rfl⟩:=hp
  obtain⟨j,hj⟩:=List.mem_iff_getElem?.1 (vis_mem hb)
  exact di_b h hm hj
 rw[hI.2]
 omega
theorem di_a (h:¬ky f g≠0) (hz:ky f g=0->DiOk (plF f) (plF g)) (hm:KP (q6 (plF f) (plF g)) m) (hk:m[i]? =some (k,v)) (hI:DiI m n t) {h2:R64 2}:sz t.q+sz (Qn.dv (Qn.mul (Qn.mul (Qn.mul v (Qn.ofZ 2 h2)) (Qg (k.1-1))) (Qg (k.2-1))) (Qn.mul (Qg (k.1+k.2)) (Qn.ofI (k.1+k.2+2)))).q<=20000000:=by
 have h1:=di_t h hz hm hI
 have h3:=di_v h hz hm hk
 have h4:=di_b h hm hk
 have h5:=of2_s (h:=h2)
 have d1:=dq_s (k:=k.1-1) aa
 have d2:=dq_s (k:=k.2-1) aa
 have d3:=dq_s (k:=k.1+k.2) aa
 have d4:=ofI_sz (j:=k.1+k.2+2) aa
 have s1:=jy v.q (Qn.ofZ 2 h2).q
 have s2:=jy (v.q*(Qn.ofZ 2 h2).q) (Qg (k.1-1)).q
 have s3:=jy (v.q*(Qn.ofZ 2 h2).q*(Qg (k.1-1)).q) (Qg (k.2-1)).q
 have s4:=jy (Qg (k.1+k.2)).q (Qn.ofI (k.1+k.2+2)).q
 have s5:=sz_div (v.q*(Qn.ofZ 2 h2).q*(Qg (k.1-1)).q*(Qg (k.2-1)).q) ((Qg (k.1+k.2)).q*(Qn.ofI (k.1+k.2+2)).q)
 rw[Qn.dv_q]
 simp only[Qn.mul_q]
 omega
theorem di_s (h:¬ky f g≠0) (hz:ky f g=0->DiOk (plF f) (plF g)) (hm:KP (q6 (plF f) (plF g)) m) (hI:DiI m n t):sz t.q<=20000000:=by have:=di_t h hz hm hI;omega
theorem di_0:DiI m #[] (Qn.ofZ 0 bg):=⟨VI.nil _,by rw[Qn.ofZ_q];rfl⟩
theorem ev_b2 (h:(bif decide (k.1%2=0) then decide (k.2%2=0) else false)=true):k.1%2=0/\k.2%2=0:=⟨cg_1 h,cg_2 h⟩
theorem di_1 (h:¬ky f g≠0) (hm:KP (q6 (plF f) (plF g)) m) (hI:DiI m n t) (hk:m[i]? =some (k,v)) (hi:i∉n) (hc:(bif decide (k.1%2=0) then decide (k.2%2=0) else false)=true) {h2:R64 2}:DiI m (n.push i) (Qn.add t (Qn.dv (Qn.mul (Qn.mul (Qn.mul v (Qn.ofZ 2 h2)) (Qg (k.1-1))) (Qg (k.2-1))) (Qn.mul (Qg (k.1+k.2)) (Qn.ofI (k.1+k.2+2))))):=by
 refine⟨hI.1.push hk hi,?_⟩
 have h4:=di_b h hm hk
 rw[kP hk,plM_app,lin_app,<-hI.2,Qn.add_q,Qn.dv_q]
 simp only[Qn.mul_q,Qn.ofZ_q,plM,zy,zZ,lin]
 unfold dF
 rw[if_pos (ev_b2 hc),ofI_q bg]
 unfold dq
 have e:((2:Int):Rat)=2:=rfl
 rw[e,Rat.div_def,Rat.div_def]
 grind
theorem di_2 (_:¬ky f g≠0) (_:KP (q6 (plF f) (plF g)) m) (hI:DiI m n t) (hk:m[i]? =some (k,v)) (hi:i∉n) (hc:(bif decide (k.1%2=0) then decide (k.2%2=0) else false)=false):DiI m (n.push i) t:=by
 refine⟨hI.1.push hk hi,?_⟩
 rw[kP hk,plM_app,lin_app,<-hI.2]
 have:dF k=0:=by unfold dF;rw[if_neg (cg_4 hc)]
 simp only[plM,zy,zZ,lin,this]
 grind
theorem di_q (hm:KP (q6 (plF f) (plF g)) m) (hI:DiI m n t) (ha:∀ i,i<m.length->i∈n):t.q=lin dF (q6 (plF f) (plF g)):=by
 rw[hI.2]
 exact ((Eqv.perm (plM_perm (hI.1.all ha))).trans hm.eqv).lin _
theorem di_3 (h:¬ky f g≠0) (hm:KP (q6 (plF f) (plF g)) m) (hI:DiI m n t) (ha:∀ i,i<m.length->i∈n):resT t.q=erL (ky f g) (resT (lin dF (q6 (plF f) (plF g)))):=by rw[di_q hm hI ha];exact er_3 h
theorem di_4 (h:¬ky f g≠0) (hm:KP (q6 (plF f) (plF g)) m) (hI:DiI m n t) (ha:∀ i,i<m.length->i∈n):resE t.q=erE (ky f g) (resE (lin dF (q6 (plF f) (plF g)))):=by rw[di_q hm hI ha];exact er_4 h
end
theorem w33 (hp:qW) (f g:List Trm) (hlf:f.length<=1000000) (hsf:∀ t∈f,(Trm.c t).length<=1000000000) (hlg:g.length<=1000000) (hsg:∀ t∈g,(Trm.c t).length<=1000000000) (hz:ky f g=0->DiOk (plF f) (plF g)):CKa 18 [vL eY f,vL eY g] (.tup [vS (bsO (erL (ky f g) (resT (lin dF (q6 (plF f) (plF g)))))),vI (erE (ky f g) (resE (lin dF (q6 (plF f) (plF g)))))]):=by
 refine cL 10 [] qf18 Z (nB Z) Z Z (kc (C Z (w124 f g hlf hsf hlg hsg) Z Z Z (Cp Z Z (fun h1=>?_) (fun h1=>?_))))
 ·exact Rt Z (lL Z dX)
 refine C Z (w100 0 bg) Z Z Z (E Z (B.bZ Z Z) ?_)
 refine tk 5 Z ?_
 refine TK.cutK (Y:=tab) 5 33 Z ?_
 refine rc (E Z (B.jd (w114k f 30 hlf (ch_f ab)) Z Z trivial Z Z) (E Z (B.jd (w114k g 32 hlg (ch_g ab)) Z Z trivial Z Z) (E Z (B.jd (w101k (plF f) (plF g) 30 32 33 ah ah ah (mu_k ab).1 (mu_k ab).2 (mu_z ab fun e=>(hz e).mul)) Z Z ⟨rfl,rfl,trivial⟩ rfl rfl) (pk Z (Cut.mk Z (fun kv1 hkv1=>?_))))))
 obtain⟨m1,hm1,rfl⟩:=hkv1
 refine rc (E Z (B.rangeK kty Z Z Z Z) (l2 (fun (n:Array Nat) (t:Qn)=>[(7,.bref 17 0),(24,.bref 34 0)]) (fun n t=>[(17,.box 83 (gF t)),(33,(kO eP m1)),(34,.miter 33 (m1.length) n)]) (fun n t=>DiI m1 n t) (fun n _=>m1.length-Array.size n) (#[]) (Qn.ofZ 0 bg) Z ?_ (sb Z Z Z) ?_))
 · exact di_0
 intro n t hI0
 refine tk 6 Z ?_
 refine TK.nextK (Y:=tab) Z Z Z Z Z (fun i1 k1 v1 hk1 hi1=>?_) (fun hall1=>?_)
 ·refine rc (CT Z Z (E Z (B.entryK Z Z Z hk1) (E Z (B.bZ Z Z) (E Z (B.run Z) (E Z (B.run Z) (Dr Z ae (E Z (B.remN Z Z dY ah) ?_)))))))
  refine Em Z Z Z Z ?_
  refine Eg Z Z (fun hc=>B.remN (qz Z hc) Z dY ah) Z (Eg Z Z (fun hc=>B.eql (qz Z hc) Z) Z (E Z (B.pA Z Z Z Z Z) (Cb Z Z (fun h2=>?_) (fun h2=>?_))))
  ·refine C Z (w100 2 bg) Z Z Z (C Z (w126 v1 (Qn.ofZ 2 bg) (di_m ab hz hm1 hk1 (h2:=by unfold R64;omega)).1) Z Z Z (E Z (B.sub Z Z dZ) (C Z (w127 ((Prod.fst k1)-1) dY) Z Z Z (C Z (w126 (Qn.mul v1 (Qn.ofZ 2 bg)) (Qg ((Prod.fst k1)-1)) (di_m ab hz hm1 hk1 (h2:=by unfold R64;omega)).2.1) Z Z Z (E Z (B.sub Z Z dZ) (C Z (w127 ((Prod.snd k1)-1) dY) Z Z Z (C Z (w126 (Qn.mul (Qn.mul v1 (Qn.ofZ 2 bg)) (Qg ((Prod.fst k1)-1))) (Qg ((Prod.snd k1)-1)) (di_m ab hz hm1 hk1 (h2:=by unfold R64;omega)).2.2.1) Z Z Z (E Z (B.add Z Z dZ) (C Z (w127 ((Prod.fst k1)+(Prod.snd k1)) dY) Z Z Z (E Z (B.add Z Z dZ) (E Z (B.add Z Z dZ) (C Z (w100i (((Prod.fst k1)+(Prod.snd k1))+2) dY) Z Z Z (C Z (w126 (Qg ((Prod.fst k1)+(Prod.snd k1))) (Qn.ofI (((Prod.fst k1)+(Prod.snd k1))+2)) (di_m ab hz hm1 hk1 (h2:=by unfold R64;omega)).2.2.2) Z Z Z ?_)))))))))))))
   refine C Z (w128d (Qn.mul (Qn.mul (Qn.mul v1 (Qn.ofZ 2 bg)) (Qg ((Prod.fst k1)-1))) (Qg ((Prod.snd k1)-1))) (Qn.mul (Qg ((Prod.fst k1)+(Prod.snd k1))) (Qn.ofI (((Prod.fst k1)+(Prod.snd k1))+2))) (di_d ab hz hm1 hk1) (di_z ab hm1 hk1)) Z Z Z (C Z (w125 t (Qn.dv (Qn.mul (Qn.mul (Qn.mul v1 (Qn.ofZ 2 bg)) (Qg ((Prod.fst k1)-1))) (Qg ((Prod.snd k1)-1))) (Qn.mul (Qg ((Prod.fst k1)+(Prod.snd k1))) (Qn.ofI (((Prod.fst k1)+(Prod.snd k1))+2)))) (di_a ab hz hm1 hk1 hI0)) Z Z Z (Dr Z ae (pk Z (L2 (Array.push n i1) (Qn.add t (Qn.dv (Qn.mul (Qn.mul (Qn.mul v1 (Qn.ofZ 2 bg)) (Qg ((Prod.fst k1)-1))) (Qg ((Prod.snd k1)-1))) (Qn.mul (Qg ((Prod.fst k1)+(Prod.snd k1))) (Qn.ofI (((Prod.fst k1)+(Prod.snd k1))+2))))) ?_ ?_ (sb Z Z Z)))))
   · first|exact di_1 ab hm1 hI0 hk1 hi1 ab|exact di_2 ab hm1 hI0 hk1 hi1 ab
   · exact hI0.1.meas hk1 hi1
  refine pk Z (L2 (Array.push n i1) t ?_ ?_ (sb Z Z Z))
  · first|exact di_1 ab hm1 hI0 hk1 hi1 ab|exact di_2 ab hm1 hI0 hk1 hi1 ab
  · exact hI0.1.meas hk1 hi1
 exact rc (CF Z Z (C Z (w113 hp t (di_s ab hz hm1 hI0)) Z Z Z (Rt Z (lL Z dX))))
end Go.Lens.Tb
end
section
namespace Go.Lens
variable [Lz]
section
variable {P:Program} {Y:Tab} [qL P Y] {nb:Nat} {s:St} {dst:Option Tmp} {ty:TypeId} {pos:String} {af:Array Edge} {gd:Option (Nat×Bool)} {t:TypeId} {x y:Operand}
theorem B.idxG {g n len:Nat} {m:Int} {e:TypeId} (ht:Y.underlying t=some (.array len e)) (hs:szT Y e=some 1) (hy:ev1 s y=.pv (.lit (.int .i64 m))) (h1:1<len) (hn:m=(n:Int)) (hlt:n<len) :
  Body P Y nb s ⟨dst,.indexAddr t (.global g) y,ty,pos,af,gd⟩ (.pv (.lit (.pointer (some ⟨g,n,none⟩)))) [] []:=by
 subst hn
 refine .inr (kH.of fun σ G a w hv _ I=>?_)
 have hY:=hv y aS
 rw[hy] at hY
 obtain⟨hY,_⟩:=qB hY
 have hx:a.eval (.global g)=.pointer (some ⟨g,0,none⟩):=rfl
 have hrun:(Instr.indexAt t (.pointer (some ⟨g,0,none⟩)) (.int .i64 (n:Int))).run P w=.ok (.pointer (some ⟨g,n,none⟩)) w:=by
  have hl:¬len<=1:=aa
  simp only[Instr.indexAt,qu,asIntOf,qw,qJ ht,qt,Instr.sureAddr,Int.natCast_nonneg,Int.ofNat_lt,hlt,and_self,qq,Sem.run_ite,qZ hs,Addr.add_lit,hl,zT,Nat.zero_add,Nat.mul_one]
 refine⟨.pointer (some ⟨g,n,none⟩),w,G,.inl ?_,qH I.ctxS (by simp[qy,qN,isLit]) (fun k hk=>by simp[DV.refs] at hk)⟩
 simp only[execOp,hx,hY,qu,hrun,qt,qw]
theorem B.loadG {g n:Nat} {tab:List Int} {T:TypeId} {fr:Nat×Nat} (hx:ev1 s x=.pv (.lit (.pointer (some ⟨g,n,none⟩)))) (hL:Lz.L g=some (.cells (tab.map fun z=>Value.int .i64 z).toArray T fr)) (ha:aggT Y t=some false) (hlt:n<tab.length) :
  Body P Y nb s ⟨dst,.load t x,ty,pos,af,gd⟩ (.pv (.lit (.int .i64 (tab.getD n 0)))) [] []:=by
 refine .inr (kH.of fun σ G a w hv _ I=>?_)
 have hX:=hv x aS
 rw[hx] at hX
 obtain⟨hX,_⟩:=qB hX
 have hc:w.cell? ⟨g,n,none⟩=some (.int .i64 (tab.getD n 0)):=by
  simp only[World.cell?,(I.laid _ _ hL).2]
  grind
 have hrun:(Instr.loadAt t (.pointer (some ⟨g,n,none⟩))).run P w=.ok (.int .i64 (tab.getD n 0)) w:=by
  simp only[Instr.loadAt,qu,Instr.sureAddr,qw,qt]
  exact kU ha hc
 refine⟨.int .i64 (tab.getD n 0),w,G,.inl ?_,qH I.ctxS (by simp[qy,qN,isLit]) (fun k hk=>by simp[DV.refs] at hk)⟩
 simp only[execOp,hX,qu,hrun,qt,qw]
end
section
variable [Fc] {P:Program} {Y:Tab} [qL P Y] {nb n:Nat} {ops ops':Array Oper} {p q:Nat}
def seqB (ops:Array Oper):Array Bool->List Nat->Bool
 | listed,[]=>(Region.ready .any ops listed).isEmpty
 | listed,i::l=>(Region.ready .any ops listed==[i])&&seqB ops (listed.setIfInBounds i true) l
theorem any_seq (r:Option Nat):∀ {os:List Oper} {l:List Nat} {listed:Array Bool} {s:St} {es:List Ef},efsR P Y nb ops os s es->l.map (fun i=>ops[i]?)=os.map some->os.all (fun o=>dstOk n o.dst)=true->seqB ops listed l=true->
  ∀ {G:Gh} {a:Act} {w:World} {Q:Exit->Act->World->Prop},Inv G s.vw a w->a.tmps.size=n->
  (∀ G' a' w',Inv G' (es.foldl stp s).vw a' w'->Since nb (qx s.ms) G w (qx (es.foldl stp s).ms) G' w'->a'.tmps.size=n->a'.defers=a.defers->Q .normal a' w')->wpAnyIn (fcR r) 0 P .any ops Q l.length listed a w
 | [],l,listed,s,es,h,hl,_,hq,G,a,w,Q,I,hn,hK=>by
  have:l=[]:=by cases l with|nil=>rfl|cons i l=>simp at hl
  subst this
  simp only[efsR] at h
  subst h
  simp only[seqB,List.isEmpty_iff] at hq
  exact⟨hq,hK G a w I (Since.refl _ _ _ _) hn rfl⟩
 | o::os,l,listed,s,es,h,hl,hda,hq,G,a,w,Q,I,hn,hK=>by
  obtain⟨e,es',rfl,he,hes⟩:=h
  cases l with
  | nil=>simp at hl
  | cons i l=>
  simp only[zy,List.cons.injEq] at hl
  obtain⟨hi,hl⟩:=hl
  simp only[List.all_cons,zj] at hda
  simp only[seqB,zj,beq_iff_eq] at hq
  obtain⟨hq1,hq2⟩:=hq
  have pd:∀ v,(a.put o.dst v).defers=a.defers:=fun v=>by cases hd:o.dst<;>rfl
  refine⟨fun hr=>(by rw[hq1] at hr;cases hr),fun j hj=>?_⟩
  rw[hq1,zg] at hj
  subst hj
  have key:=EfR.sound (P:=P) (π:=s) he hda.1 (fun _ _=>rfl) (fun _ _=>rfl) I hn (Q:=Q) (next:=wpAnyIn (fcR r) 0 P .any ops Q l.length (listed.setIfInBounds j true)) ?_
  ·unfold wpOpIn
   rw[hi]
   simp only
   split
   ·grind
   rename_i hw;rw[if_neg hw] at key;exact⟨fun _ _=>trivial,key⟩
  intro G1 v w1 I1 Sn1
  rw[<-he.dst] at I1 Sn1
  refine any_seq r hes hl hda.2 hq2 (G:=G1) aQ aP ?_
  intro G2 a2 w2 I2 Sn2 hn2 hd2
  exact hK G2 a2 w2 I2 (Sn1.trans Sn2) hn2 (hd2.trans (pd v))
def Fork (P:Program) (Y:Tab) (nb n:Nat) (ops ops':Array Oper) (p q:Nat) (s:St) (es:List Ef) (QF:St->Prop):Prop:=
 ∀ listed:Array Bool,listed.size=ops.size->Down ops' (fun k=>listed.getD k false)->listed.getD p false=false->q∈Region.ready .any ops listed->
  ∃ (oq:Oper) (e:Ef) (l:List Nat) (es2:List Ef),ops[q]? =some oq/\dstOk n oq.dst=true/\l.length+1=listed.toList.count false/\EfR P Y nb ops (stK s es (fun k=>listed.getD k false) ops.size) oq e/\
   efsR P Y nb ops (l.filterMap (fun i=>ops[i]?)) (stp (stK s es (fun k=>listed.getD k false) ops.size) e) es2/\l.map (fun i=>ops[i]?)=(l.filterMap (fun i=>ops[i]?)).map some/\(l.filterMap (fun i=>ops[i]?)).all (fun o=>dstOk n o.dst)=true/\seqB ops (listed.setIfInBounds q true) l=true/\
   QF (es2.foldl stp (stp (stK s es (fun k=>listed.getD k false) ops.size) e))
theorem fork_any {s:St} {es:List Ef} {QF:St->Prop} (hes:efsR P Y nb ops' ops'.toList s es) (hds:ops'.toList.all (fun o=>dstOk n o.dst)=true) (hsl:slotsOk ops'=true) (hef:Zt ops' 0 es=true) (hsz':ops'.size=ops.size) (hps:p<ops.size)
  (hr1:∀ (listed:Array Bool) (i:Nat),i∈Region.ready .any ops listed->i∈Region.ready .any ops' listed\/(i=q/\listed.getD p false=false)) (hr2:∀ (listed:Array Bool) (i:Nat),i∈Region.ready .any ops' listed->i∈Region.ready .any ops listed)
  (hw:∀ {F:Fence} {Q:Exit->Act->World->Prop} {i:Nat} {next:Act->World->Prop} {a:Act} {w:World},wpOpIn F 0 P ops' Q i next a w->wpOpIn F 0 P ops Q i next a w)
  (hA:QF (es.foldl stp s)) (hB:Fork P Y nb n ops ops' p q s es QF) {Q:Exit->Act->World->Prop} (r:Option Nat) :
  ∀ (fuel:Nat) (listed:Array Bool),listed.size=ops.size->listed.toList.count false=fuel->Down ops' (fun k=>listed.getD k false)->
  ∀ {G:Gh} {a:Act} {w:World},Inv G (stK s es (fun k=>listed.getD k false) ops.size).vw a w->a.tmps.size=n->
  (∀ sF G' a' w',QF sF->Inv G' sF.vw a' w'->Since nb (qx (stK s es (fun k=>listed.getD k false) ops.size).ms) G w (qx sF.ms) G' w'->a'.tmps.size=n->a'.defers=a.defers->Q .normal a' w')->
  wpAnyIn (fcR r) 0 P .any ops Q fuel listed a w:=by
 intro fuel
 induction fuel with
 | zero=>
  intro listed hsz hc D G a w I hn hK
  have h0:=drawnR_any (P:=P) hes hds hsl hef r 0 listed (by rw[hsz'];exact hsz) hc D (Q:=Q) ed hn (fun G' a' w' I' Sn=>hK _ G' a' w' hA I' (by rw[hsz'] at Sn;exact Sn))
  refine⟨?_,h0.2⟩
  refine List.eq_nil_iff_forall_not_mem.2 fun i hi=>?_
  rcases hr1 listed i hi with h|⟨rfl,h⟩
  ·rw[h0.1] at h;cases h
  have hp:p<listed.size:=aa
  have:false∈listed.toList:=by
   have e:listed[p]=false:=by simpa [zC,hp] using h
   grind
  grind
 | succ fuel ih=>
  intro listed hsz hc D G a w I hn hK
  have h0:=drawnR_any (P:=P) hes hds hsl hef r (fuel+1) listed (by rw[hsz'];exact hsz) hc D (Q:=Q) ed hn (fun G' a' w' I' Sn=>hK _ G' a' w' hA I' (by rw[hsz'] at Sn;exact Sn))
  refine⟨fun hr=>h0.1 (List.eq_nil_iff_forall_not_mem.2 fun i hi=>by have:=hr2 listed i hi;rw[hr] at this;cases this),fun i hi=>?_⟩
  by_cases hi':i∈Region.ready .any ops' listed
  ·refine hw ?_
   unfold Region.ready at hi'
   obtain⟨hi1,hi2⟩:=List.mem_filter.1 hi'
   have hin:=List.mem_range.1 hi1
   have hil:i<listed.size:=aa
   simp only[zj,Bool.not_eq_true'] at hi2
   obtain⟨h1,h2⟩:=hi2
   have h1':listed.getD i false=false:=by grind
   have ho:ops'[i]? =some ops'[i]:=Array.getElem?_eq_getElem hin
   rw[ho] at h2
   simp only[qf,zO] at h2
   rw[<-Array.all_toList] at h2
   have hr:∀ e∈ops'[i].after.toList,Region.binds .any e=true->listed.getD e.on false=true:=by grind
   have hS:∀ k,(listed.setIfInBounds i true).getD k false=(listed.getD k false||Nat.beq k i):=by
    intro k
    simp only[zC,Array.getElem?_setIfInBounds]
    by_cases hk:i=k
    ·subst hk;simp[hil]
    have:Nat.beq k i=false:=Bool.eq_false_iff.mpr fun h=>hk (zD h).symm
    simp[hk,this]
   have hSf:(fun k=>(listed.setIfInBounds i true).getD k false)=(fun k=>listed.getD k false||Nat.beq k i):=funext hS
   refine drawnR_step (P:=P) hes hds hsl hef D ho h1' hr ed hn ?_ r
   rw[hsz']
   intro G' a' w' I' Sn hn' hd'
   refine ih (listed.setIfInBounds i true) (by simp[hsz]) ?_ ?_ (by rw[hSf];exact I') hn' ?_
   ·have:=count_set (l:=listed.toList) (i:=i) (by
      have:listed[i]? =some false:=by
       rw[Array.getElem?_eq_getElem hil]
       simpa [zC,hil] using h1'
      simpa using this)
    grind
   ·rw[hSf]
    intro j o2 hj ho2 e2 he2 hb2
    simp only[Bool.or_eq_true] at hj ⊢
    rcases hj with hj|hj
    ·exact .inl (D j o2 hj ho2 e2 he2 hb2)
    have:=zD hj
    subst this
    rw[ho] at ho2;cases ho2
    exact .inl (hr e2 he2 hb2)
   intro sF G2 a2 w2 hq2 I2 Sn2 hn2 hd2
   rw[hSf] at Sn2
   exact hK sF G2 a2 w2 hq2 I2 (Sn.trans Sn2) hn2 (hd2.trans hd')
  rcases hr1 listed i hi with h|⟨rfl,h⟩
  ·exact absurd h hi'
  have hp:listed.getD p false=false:=h
  obtain⟨oq,e,l,es2,k1,k2,k3,k4,k5,k6,k7,k8,k9⟩:=hB listed hsz D hp hi
  have hl:l.length=fuel:=aa
  have pd:∀ v,(a.put oq.dst v).defers=a.defers:=fun v=>by cases hd:oq.dst<;>rfl
  have key:=EfR.sound (P:=P) k4 k2 (fun _ _=>rfl) (fun _ _=>rfl) I hn (Q:=Q) (next:=wpAnyIn (fcR r) 0 P .any ops Q fuel (listed.setIfInBounds i true)) ?_
  ·unfold wpOpIn
   rw[k1]
   simp only
   split
   ·rename_i hw;rw[if_pos hw] at key;exact key r
   rename_i hw;rw[if_neg hw] at key;exact⟨fun _ _=>trivial,key⟩
  intro G1 v w1 I1 Sn1
  rw[<-k4.dst] at I1 Sn1
  rw[<-hl]
  refine any_seq r k5 k6 k7 k8 (G:=G1) (by rw[<-k4.dst];exact I1) aP ?_
  intro G2 a2 w2 I2 Sn2 hn2 hd2
  exact hK _ G2 a2 w2 k9 I2 (Sn1.trans Sn2) hn2 (hd2.trans (pd v))
def addE (ops:Array Oper) (p q:Nat):Array Oper:=ops.modify q fun o=>{ o with after:=o.after.push ⟨p,.data⟩ }
theorem addE_get (i:Nat):(addE ops p q)[i]? =if q=i then (ops[i]?).map (fun o=>{ o with after:=o.after.push ⟨p,.data⟩ }) else ops[i]? :=Array.getElem?_modify
theorem addE_size:(addE ops p q).size=ops.size:=by simp[addE]
theorem addE_ready {listed:Array Bool} {i:Nat}:i∈Region.ready .any (addE ops p q) listed↔i∈Region.ready .any ops listed/\(i=q->listed.getD p false=true):=by
 unfold Region.ready
 rw[List.mem_filter,List.mem_filter,addE_size,addE_get]
 by_cases e:q=i
 ·subst e
  cases h:ops[q]? with
  | none=>simp
  | some o=>
   simp only[qq,qf,zO,Array.all_push,zj,forall_const]
   have:Region.binds .any ⟨p,.data⟩=true:=rfl
   grind
 grind
theorem addE_yield (ts:Array Value):yielded (addE ops p q) ts=yielded ops ts:=by
 funext j
 unfold yielded
 rw[addE_get]
 grind
theorem addE_wp {F:Fence} {Q:Exit->Act->World->Prop} {i:Nat} {next:Act->World->Prop} {a:Act} {w:World} (h:wpOpIn F 0 P (addE ops p q) Q i next a w):wpOpIn F 0 P ops Q i next a w:=by
 unfold wpOpIn at h ⊢
 rw[addE_get,addE_yield] at h
 by_cases e:q=i
 ·rw[if_pos e] at h
  cases ho:ops[i]? with
  | none=>rw[ho] at h;exact h
  | some o=>
   rw[ho] at h
   obtain⟨d,op,ty,pos,af,gd⟩:=o
   exact h
 rw[if_neg e] at h;exact h
theorem TK.fork (hm:P.follows .mixedOrders=true) {id:Nat} {s s0:St} {K:List Fr} {es:List Ef} {Q:Exit->St->Prop} (p q:Nat) (hps:p<ops.size) (hda:jo n (.region id (addE ops p q) true)=true) (hes:efsR P Y nb (addE ops p q) (addE ops p q).toList s es) (hef:Zt (addE ops p q) 0 es=true)
  (hA:Wk nb (es.foldl stp s) s0) (hB:Fork P Y nb n ops (addE ops p q) p q s es (fun s'=>Wk nb s' s0)) (k:PK P n nb Q K .normal s0):TK P n nb Q (.region id ops true) K s:=by
 intro G a w R I hn hK
 simp only[jo,zj] at hda
 have hsl:slotsOk (addE ops p q)=true:=by simpa using hda.2
 refine wpIn_region_any hm ?_
 have h0:∀ k,(Array.replicate ops.size false).getD k false=false:=by
  intro k
  simp only[zC,Array.getElem?_replicate]
  split<;>rfl
 have hst:stK s es (fun k=>(Array.replicate ops.size false).getD k false) ops.size=s:=by
  rw[stK_congr (S':=fun _=>false) (fun k _=>h0 k)]
  have:∀ m,stK s es (fun _=>false) m=s:=by
   intro m
   induction m with
   | zero=>rfl
   | succ m ih=>simp only[stK];split<;>simp[ih]
  exact this _
 refine fork_any (P:=P) hes hda.1 hsl hef addE_size hps (fun listed i hi=>by by_cases e:i=q->listed.getD p false=true;exact .inl (addE_ready.2 ⟨hi,e⟩);(have e2:=Classical.not_imp.1 e;exact .inr ⟨e2.1,by simpa using e2.2⟩)) (fun listed i hi=>(addE_ready.1 hi).1) addE_wp (QF:=fun s'=>Wk nb s' s0) hA hB _ ops.size _ ao ao ?_ (G:=G) ?_ hn ?_
 ·intro j o hj;have hj':(Array.replicate ops.size false).getD j false=true:=hj;rw[h0] at hj';cases hj'
 ·rw[hst];exact I.drew _
 rw[hst]
 intro sF G0 a' w' hq I0 Sn0 hn' hd'
 obtain⟨G',I',Sn1⟩:=hq I0
 have Sn:=Sn0.trans Sn1
 exact hK _ _ _ _ _ k I' ⟨⟨Sn.later.base,Sn.later.R0,Sn.later.R0c,Sn.later.R0m,Sn.later.os,Sn.later.tape,Sn.later.output,Sn.later.size,Sn.later.cold,fun e=>qh (Nat.le_succ _) (Sn.later.drawn e)⟩,Sn.keeps,Sn.newb⟩ hn' (Mks.of hd')
theorem Wk.trans {s s1 s2:St} (h:Wk nb s s1) (k:Wk nb s1 s2):Wk nb s s2:=fun I=>by
 obtain⟨G1,I1,S1⟩:=h I
 obtain⟨G2,I2,S2⟩:=k I1
 exact⟨G2,I2,S1.trans S2⟩
theorem wk_shutK {s:St} {h:Nat} {R R':List (PV×PV)->Prop} (hm:qx s.ms h=some (.kmap R)) (hR:∀ kv,R kv->R' kv):Wk nb s ⟨s.tm,(h,.kmap R')::s.ms⟩:=fun {G a w} I=>by
 have H:q7 G w h (.kmap R'):=by
  have:=I.ms h _ hm
  grind [q7]
 have S:=jh (m:=.kmap R') (val:=.dead) (r:=undef) I.ctxS (B:=G.ρ h) hm aU (w':=w) Z Z Z Z (fun _ _=>rfl) aB cB ak am
 rw[Gh.qX] at S
 obtain⟨I1,Sn1⟩:=I.eff (s:=s) (K:=nb) S none ao
 exact⟨G,I1,Sn1⟩
theorem ready_after {listed:Array Bool} {i:Nat} (h:i∈Region.ready .any ops listed) {o:Oper} (ho:ops[i]? =some o):listed.getD i true=false/\∀ e∈o.after.toList,Region.binds .any e=true->listed.getD e.on false=true:=by
 unfold Region.ready at h
 have h2:=(List.mem_filter.1 h).2
 rw[ho] at h2
 simp only[zj,Bool.not_eq_true',qf,zO] at h2
 obtain⟨h1,h2⟩:=h2
 rw[<-Array.all_toList] at h2
 grind
end
end Go.Lens
end
section
namespace Go.Lens.Tb
open Go.Proofs Go.Lens.Un
variable [Lz] [Dn]
attribute [local irreducible] TK PK T RG EfR Body CG
def facL:List Int:=[1,1,2,6,24,120,720,5040,40320]
def jW (z:Int):Int:=facL.getD z.toNat 0
def jq:Prop:=∃ T fr,Lz.L 0=some (.cells (facL.map fun z=>Value.int .i64 z).toArray T fr)
theorem B.loadF (hf:jq) {P:Program} {Y:Tab} [qL P Y] {nb:Nat} {s:St} {dst:Option Tmp} {ty t:TypeId} {pos:String} {af:Array Edge} {gd:Option (Nat×Bool)} {x:Operand} {m:Int} (hx:ev1 s x=.pv (.lit (.pointer (some ⟨0,m.toNat,none⟩)))) (ha:aggT Y t=some false) (hlt:m.toNat<9) :
  Body P Y nb s ⟨dst,.load t x,ty,pos,af,gd⟩ (vI (jW m)) [] []:=by
 obtain⟨T,fr,h⟩:=hf
 exact B.loadG hx h ha hlt
theorem fac_b (z:Int):0<=jW z/\jW z<=40320:=by
 unfold jW
 rcases Nat.lt_or_ge z.toNat 9 with h|h
 ·have:∀ n,n<9->0<=facL.getD n 0/\facL.getD n 0<=40320:=ah
  exact this _ h
 rw[ze,qg h];decide
theorem fac_p {z:Int} (h:z<=8):1<=jW z:=by
 unfold jW
 have:∀ n,n<9->1<=facL.getD n 0:=ah
 exact this _ aa
theorem ra_m2 (a b:Int):0<=jW a*jW b/\jW a*jW b<=40320*40320:=
 ⟨Int.mul_nonneg (fac_b a).1 (fac_b b).1,Int.mul_le_mul (fac_b a).2 (fac_b b).2 (fac_b b).1 ah⟩
theorem ra_m3 (a b c:Int):0<=jW a*jW b*jW c/\jW a*jW b*jW c<=40320*40320*40320:=
 ⟨Int.mul_nonneg (ra_m2 a b).1 (fac_b c).1,Int.mul_le_mul (ra_m2 a b).2 (fac_b c).2 (fac_b c).1 ah⟩
theorem ku (a b:Int):R64 (jW a*jW b):=by have:=ra_m2 a b;unfold R64;omega
theorem j1 (a b c:Int):R64 (jW a*jW b*jW c):=by have:=ra_m3 a b c;unfold R64;omega
def mkQ (a b:Int):Qn:=if h:(-9223372036854775808<=a/\a<=9223372036854775807)/\(-9223372036854775808<=b/\b<=9223372036854775807)/\b≠0 then Qn.make (ofI a) (ofI b) (Zk h.1) (Zk h.2.1) h.2.2 else frZ
theorem ofR_q {a b:Int} (ha:R64 a) (hb:R64 b) (h0:b≠0):(mkQ a b).q=(a:Rat) / (b:Rat):=by unfold mkQ;rw[dif_pos ⟨fi_ok ha,fi_ok hb,h0⟩];exact Qn.make_q _ _ _
theorem w179z (a b:Int) (ha:R64 a) (hb:R64 b) (h0:b≠0):CKa 103 [nV (ofI a),nV (ofI b)] (.pv (eP (mkQ a b))):=by
 have hl:∀ z,R64 z->(dig B64 (Int.natAbs z)).length<=400000:=fun z hz=>qh (ji (k:=1) ah bx) ah
 unfold mkQ
 rw[dif_pos ⟨fi_ok ha,fi_ok hb,h0⟩]
 exact w179 (ofI a) (ofI b) (Zk (fi_ok ha)) (Zk (fi_ok hb)) (hl a ha) (hl b hb) h0
theorem r64_s {z:Int} (h:R64 z):sz (z:Rat)<=64:=by
 refine qh (sz_int z) ?_
 have:jb z.natAbs<=64:=jS ch
 omega
theorem ofR_s {a b:Int}:sz (mkQ a b).q<=128:=by
 unfold mkQ
 split
 ·rename_i h
  obtain⟨ha,hb,h0⟩:=h
  have e:(Qn.make (ofI a) (ofI b) (Zk ha) (Zk hb) h0).q=((ofI a).1:Rat) / ((ofI b).1:Rat):=Qn.make_q _ _ _
  have hd:=sz_div ((ofI a).1:Rat) ((ofI b).1:Rat)
  rw[<-e] at hd
  refine qh hd ?_
  have h1:sz ((ofI a).1:Rat)<=64:=r64_s (z:=a) bg
  have h2:sz ((ofI b).1:Rat)<=64:=r64_s (z:=b) bg
  omega
 have:=frZ_s;omega
theorem ra_n {a b:Int}:sz (mkQ a b).q<=20000000:=qh ofR_s ah
theorem w101e (P R S:PL) (x y z:Nat) (hxy:x≠y) (hxz:x≠z) (hyz:y≠z) (hP:KB P) (hR:KB R) (hz:(P.length*R.length+2)*(szP P+szP R+2)<=10000000) (hS:q6 P R=S):qD Tryz.prog 48 [.mref x,.mref y] (qx [(x,kR P),(y,kR R)]) (.mref z) [(y,kR R),(x,kR P),(z,kR S)]:=by subst hS;exact w101k P R x y z hxy hxz hyz hP hR hz
theorem w102e (P R S:PL) (b:Qn) (x y z:Nat) (hxy:x≠y) (hxz:x≠z) (hyz:y≠z) (hz:szP P+(R.length+1)*(szP R+sz (Qn.q b)+2)<=10000000) (hS:P++scl (Qn.q b) R=S):qD Tryz.prog 49 [.mref x,.mref y,.pv (eP b)] (qx [(x,kR P),(y,kR R)]) (.mref z) [(y,kR R),(x,kR P),(z,kR S)]:=by subst hS;exact w102k P R b x y z hxy hxz hyz hz
def sqP:PL:=[((2,0),1),((0,2),1)]
def powP (c:Rat):Nat->PL
 | 0=>[((0,0),c)]
 | j+1=>q6 (powP c j) sqP
def crR (n k s:Int):Rat:=(if s%2=1 then -1 else 1)*((jW (n-s):Int) / (jW s*jW ((n+k) / 2-s)*jW ((n-k) / 2-s):Int))
def radP (n k:Int):Nat->PL
 | 0=>[]
 | i+1=>radP n k i++scl 1 (powP (crR n k (i:Int)) (Int.toNat ((n-k) / 2-(i:Int))))
def radQ (n k:Int):PL:=radP n k (Int.toNat ((n-k) / 2+1))
def RaN (n k:Int):Prop:=0<=k/\k<=n/\n<=8/\(n-k)%2=0
section
variable {n k:Int} {i j:Nat} {b e:Bool} {c:Rat} {P:PL}
theorem kp_sq {h1 h2:R64 1}:KP sqP (ZZ (0,2) (Qn.ofZ 1 h1) (ZZ (2,0) (Qn.ofZ 1 h2) [])):=by
 have:=(KP.nil.add (2,0) (Qn.ofZ 1 h2)).add (0,2) (Qn.ofZ 1 h1)
 simpa [Qn.ofZ_q,sqP,addK,ZZ,Zb] using this
theorem kp_sq2 {h1 h2:R64 1}:KP sqP (ZZ (2,0) (Qn.ofZ 1 h1) (ZZ (0,2) (Qn.ofZ 1 h2) [])):=by
 have:=(KP.nil.add (0,2) (Qn.ofZ 1 h2)).add (2,0) (Qn.ofZ 1 h1)
 have h:KP [((0,2),1),((2,0),1)] (ZZ (2,0) (Qn.ofZ 1 h1) (ZZ (0,2) (Qn.ofZ 1 h2) [])):=by simpa [Qn.ofZ_q,addK,ZZ,Zb] using this
 refine h.congr (Eqv.perm (List.Perm.swap _ _ _)) fun k hk=>?_
 simp[sqP] at hk ⊢
 exact hk.symm
theorem fk_9 {listed:Array Bool} (hs:listed.size=9) (h0:listed.getD 0 false=true) (h2:listed.getD 2 false=true) (h3:listed.getD 3 false=false) (h4:listed.getD 4 false=true) (h5:listed.getD 5 false=true) (h6:listed.getD 6 true=false)
  (h7:listed.getD 7 false=true->listed.getD 3 false=true) (h8:listed.getD 8 false=true->listed.getD 7 false=true):∃ b,listed= #[true,b,true,false,true,true,false,false,false]:=by
 obtain⟨l⟩:=listed
 match l,hs with
 | [a0,a1,a2,a3,a4,a5,a6,a7,a8],_=>
  simp at h0 h2 h3 h4 h5 h6 h7 h8
  grind
abbrev es103:List Ef:=[⟨some 10,.mref 20,[(20,kO eP ([]:List (KI×Qn)))],[]⟩,⟨some 11,.pv (.agg [pI 2,pI 0]),[],[]⟩,⟨some 12,.pv (eP (Qn.ofZ 1 bg)),[],[]⟩,⟨none,.dead,[(20,kO eP (ZZ (2,0) (Qn.ofZ 1 bg) []))],[20]⟩,
 ⟨some 13,.pv (.agg [pI 0,pI 2]),[],[]⟩,⟨some 14,.pv (eP (Qn.ofZ 1 bg)),[],[]⟩,⟨none,.dead,[(20,kO eP (ZZ (0,2) (Qn.ofZ 1 bg) (ZZ (2,0) (Qn.ofZ 1 bg) [])))],[20]⟩,⟨some 15,.mref 20,[],[]⟩,⟨some 5,.mref 20,[],[]⟩]
theorem kp_c {v:Qn} (h:v.q=c):KP (powP c 0) (ZZ (0,0) v []):=by
 have:=KP.nil.add (0,0) v
 rw[h] at this
 exact this
theorem ra_d (hn:RaN n k) (hi:i<=Int.toNat ((n-k) / 2+1)) (h:(i:Int)<(n-k) / 2+1):jW (i:Int)*jW ((n+k) / 2-(i:Int))*jW ((n-k) / 2-(i:Int))≠0:=by
 unfold RaN at hn
 have h1:=fac_p (z:=(i:Int)) aa
 have h2:=fac_p (z:=(n+k) / 2-(i:Int)) aa
 have h3:=fac_p (z:=(n-k) / 2-(i:Int)) aa
 exact Int.mul_ne_zero (Int.mul_ne_zero aa aa) aa
theorem ra_q (hn:RaN n k) (hi:i<=Int.toNat ((n-k) / 2+1)) (h:(i:Int)<(n-k) / 2+1):(mkQ (jW (n-(i:Int))) (jW (i:Int)*jW ((n+k) / 2-(i:Int))*jW ((n-k) / 2-(i:Int)))).q=((jW (n-(i:Int)):Int):Rat) / ((jW (i:Int)*jW ((n+k) / 2-(i:Int))*jW ((n-k) / 2-(i:Int)):Int):Rat):=by
 have hb:=fac_b (n-(i:Int))
 exact ofR_q bg (j1 _ _ _) (ra_d hn hi h)
theorem ra_o (hn:RaN n k) (hI:i<=Int.toNat ((n-k) / 2+1)/\false=decide (i%2=0)) (h:(i:Int)<(n-k) / 2+1):(Qn.neg (mkQ (jW (n-(i:Int))) (jW (i:Int)*jW ((n+k) / 2-(i:Int))*jW ((n-k) / 2-(i:Int))))).q=crR n k (i:Int):=by grind [Qn.neg_q,ra_q,hI.1,crR]
theorem ra_e (hn:RaN n k) (hI:i<=Int.toNat ((n-k) / 2+1)/\true=decide (i%2=0)) (h:(i:Int)<(n-k) / 2+1):(mkQ (jW (n-(i:Int))) (jW (i:Int)*jW ((n+k) / 2-(i:Int))*jW ((n-k) / 2-(i:Int)))).q=crR n k (i:Int):=by grind [ra_q,hI.1,crR]
theorem ra_od (h:false=decide (i%2=0)):(i:Int)%2=1:=by grind
theorem ra_ev (h:true=decide (i%2=0)):¬(i:Int)%2=1:=by grind
theorem ra_bf (h:false=decide (i%2=0)):true=decide ((i+1)%2=0):=by grind
theorem ra_bt (h:true=decide (i%2=0)):false=decide ((i+1)%2=0):=by grind
theorem pw_key:∀ {j:Nat} {a:KI},a∈(powP c j).map (·.1)->0<=a.1/\0<=a.2/\a.1+a.2=2*(j:Int)
 | 0,a,h=>by simp[powP] at h;subst h;simp
 | j+1,a,h=>by
  obtain⟨x,hx,y,hy,rfl⟩:=prods_keys.1 h
  have:=pw_key hx
  grind [sqP,kadd]
theorem pw_len:∀ (j:Nat),(powP c j).length=2 ^ j
 | 0=>rfl
 | j+1=>by rw[powP,prods_len,pw_len j,Nat.pow_succ];rfl
theorem sz_1:sz 1<=1:=qh (sz_int 1) ah
theorem pw_sz:∀ {j:Nat} {p:KI×Rat},p∈powP c j->sz p.2<=sz c+j
 | 0,p,h=>by simp[powP] at h;subst h;simp
 | j+1,p,h=>by
  simp only[powP,q6,rowP,List.mem_flatMap,zE] at h
  obtain⟨a,ha,b,hb,rfl⟩:=h
  have h1:=pw_sz ha
  grind [sqP]
theorem cr_s:sz (crR n k (i:Int))<=200:=by
 unfold crR
 have h1:=jy (if (i:Int)%2=1 then -1 else 1:Rat) (((jW (n-(i:Int)):Int):Rat) / ((jW (i:Int)*jW ((n+k) / 2-(i:Int))*jW ((n-k) / 2-(i:Int)):Int):Rat))
 have h2:=sz_div ((jW (n-(i:Int)):Int):Rat) ((jW (i:Int)*jW ((n+k) / 2-(i:Int))*jW ((n-k) / 2-(i:Int)):Int):Rat)
 have hb:=fac_b (n-(i:Int))
 have h3:=r64_s (z:=jW (n-(i:Int))) bg
 have h4:=r64_s (j1 (i:Int) ((n+k) / 2-(i:Int)) ((n-k) / 2-(i:Int)))
 have h5:sz (if (i:Int)%2=1 then -1 else 1:Rat)<=1:=by split;(rw[sz_neg];exact sz_1);exact sz_1
 omega
theorem ra_j (hn:RaN n k) (hj:j<=Int.toNat ((n-k) / 2-(i:Int))):j<=4:=by unfold RaN at hn;omega
theorem pw_S (hn:RaN n k) (hj:j<=Int.toNat ((n-k) / 2-(i:Int))):szP (powP (crR n k (i:Int)) j)<=3300/\(powP (crR n k (i:Int)) j).length<=16:=by
 have h4:=ra_j hn hj
 have hl:2 ^ j<=2 ^ 4:=Nat.pow_le_pow_right ah h4
 have h1:=szP_le (A:=powP (crR n k (i:Int)) j) (N:=16) (S:=204) (by rw[pw_len];exact hl) fun p hp=>by have:=pw_sz hp;have:=cr_s (n:=n) (k:=k) (i:=i);omega
 grind [pw_len]
theorem ra_k (hn:RaN n k) (hj:j<=Int.toNat ((n-k) / 2-(i:Int))):KB (powP (crR n k (i:Int)) j)/\KB sqP:=by
 have h4:=ra_j hn hj
 refine⟨fun a ha=>?_,fun a ha=>?_⟩
 ·have:=pw_key ha;omega
 grind [sqP]
theorem sq_s:szP sqP<=5:=by simp only[sqP,szP];have:=sz_1;omega
theorem ra_m (hn:RaN n k) (hj:j<=Int.toNat ((n-k) / 2-(i:Int))):((powP (crR n k (i:Int)) j).length*sqP.length+2)*(szP (powP (crR n k (i:Int)) j)+szP sqP+2)<=10000000:=by
 obtain⟨h1,h2⟩:=pw_S hn hj
 have h3:=sq_s
 have h4:(powP (crR n k (i:Int)) j).length*sqP.length<=16*2:=Nat.mul_le_mul h2 (zB 2)
 exact qh (Nat.mul_le_mul (show _<=34 by omega) (show _<=3310 by omega)) ah
theorem rad_S (hn:RaN n k):∀ i,szP (radP n k i)<=1+i*60000/\(radP n k i).length<=i*16
 | 0=>by simp[radP,szP]
 | i+1=>by
  obtain⟨h1,h2⟩:=rad_S hn i
  obtain⟨h3,h4⟩:=pw_S (i:=i) hn (zB _)
  have h5:=szP_app (radP n k i) (scl 1 (powP (crR n k (i:Int)) (Int.toNat ((n-k) / 2-(i:Int)))))
  have h6:=scl_sz 1 (powP (crR n k (i:Int)) (Int.toNat ((n-k) / 2-(i:Int))))
  have h7:=sz_1
  have h8:(powP (crR n k (i:Int)) (Int.toNat ((n-k) / 2-(i:Int)))).length*(szP (powP (crR n k (i:Int)) (Int.toNat ((n-k) / 2-(i:Int))))+sz 1+2)<=16*3303:=Nat.mul_le_mul h4 aa
  grind [radP,List.length_append,scl]
theorem ra_z (hn:RaN n k) (hi:i<=Int.toNat ((n-k) / 2+1)) (hj:j<=Int.toNat ((n-k) / 2-(i:Int))) {h1:R64 1}:szP (radP n k i)+((powP (crR n k (i:Int)) j).length+1)*(szP (powP (crR n k (i:Int)) j)+sz (Qn.q (Qn.ofZ 1 h1))+2)<=10000000:=by
 obtain⟨h3,h4⟩:=pw_S hn hj
 obtain⟨h5,_⟩:=rad_S hn i
 have h6:=of1_s h1
 have h7:((powP (crR n k (i:Int)) j).length+1)*(szP (powP (crR n k (i:Int)) j)+sz (Qn.q (Qn.ofZ 1 h1))+2)<=17*3400:=Nat.mul_le_mul aa aa
 unfold RaN at hn
 omega
theorem ra_s (hx:¬(j:Int)<(n-k) / 2-(i:Int)) (hj:j<=Int.toNat ((n-k) / 2-(i:Int))) {h1:R64 1}:radP n k i++scl (Qn.q (Qn.ofZ 1 h1)) (powP (crR n k (i:Int)) j)=radP n k (i+1):=by
 have:j=Int.toNat ((n-k) / 2-(i:Int)):=aa
 rw[Qn.ofZ_q,radP,this];rfl
theorem ra_leaf {p:Prop} (hx:¬(i:Int)<(n-k) / 2+1) (hn:RaN n k) (hI:i<=Int.toNat ((n-k) / 2+1)/\b=decide (i%2=0)) (he:e=decide (((n-k) / 2+1)%2=0)) (h:e=b->i=Int.toNat ((n-k) / 2+1)->p):p:=by
 unfold RaN at hn
 refine h ?_ aa
 rw[he,hI.2]
 grind
end
theorem un160:tab.underlying 160=some (.array 9 3):=ae
theorem w103' (hf:jq) (n k:Int) (e:Bool) (hn:RaN n k) (he:e=decide (((n-k) / 2+1)%2=0)):qD Tryz.prog 50 [vI n,vI k] (qx []) (.mref (bif e then 26 else 88)) [((bif e then 26 else 88),(kR (radP n k (Int.toNat ((n-k) / 2+1)))))]:=by
 refine cL 10 [] qf50 Z (nB Z) Z Z (kc ?_)
 refine tk 1 Z ?_
 refine TK.fork mixed 3 6 (es:=es103) (s0:=⟨[(0,vI n),(1,vI k),(5,.mref 20)],[(20,kR sqP)]⟩) ah ae ⟨_,_,rfl,EfR.on Z (B.newK (enc:=eP) Z Z),_,_,rfl,EfR.on Z (B.run (val:=.pv (.agg [pI 2,pI 0])) (m:=[]) (rd:=[]) ae),_,_,rfl,EfR.on Z (B.call (w100 1 bg) Z Z Z),_,_,rfl,EfR.on Z (B.insK (enc:=eP) (l:=[]) (k:=(2,0)) (v:=(Qn.ofZ 1 bg)) kty Z Z Z Z),_,_,rfl,EfR.on Z (B.run (val:=.pv (.agg [pI 0,pI 2])) (m:=[]) (rd:=[]) ae),_,_,rfl,EfR.on Z (B.call (w100 1 bg) Z Z Z),_,_,rfl,EfR.on Z (B.insK (enc:=eP) (l:=[((2,0),(Qn.ofZ 1 bg))]) (k:=(0,2)) (v:=(Qn.ofZ 1 bg)) kty Z Z Z Z),_,_,rfl,EfR.on Z (B.run Z),_,_,rfl,EfR.on Z (B.run Z),rfl⟩ ae (Wk.trans (wk_shutK (h:=20) Z (fun kv e=>⟨_,kp_sq,e⟩)) (sb Z Z Z).wk) (fun listed hsz D hp hq=>?_) ?_
 · obtain⟨h6,ha⟩:=ready_after hq rfl
   have h5:listed.getD 5 false=true:=ha ⟨5,.data⟩ (.tail _ (.tail _ (.head _))) rfl
   obtain⟨b,rfl⟩:=fk_9 hsz (ha ⟨0,.data⟩ (.head _) rfl) (D 5 _ h5 rfl ⟨2,_⟩ (.head _) rfl) hp (ha ⟨4,.data⟩ (.tail _ (.head _)) rfl) h5 h6 (fun h=>D 7 _ h rfl ⟨3,.data⟩ (.tail _ (.tail _ (.tail _ (.head _)))) rfl) (fun h=>D 8 _ h rfl ⟨7,.data⟩ (.head _) rfl)
   cases b
   · exact⟨_,_,[1,3,7,8],_,rfl,rfl,rfl,EfR.on Z (B.insK (enc:=eP) (l:=[]) (k:=(0,2)) (v:=(Qn.ofZ 1 bg)) kty Z Z Z Z),⟨_,_,rfl,EfR.on Z (B.run (val:=.pv (.agg [pI 2,pI 0])) (m:=[]) (rd:=[]) ae),_,_,rfl,EfR.on Z (B.insK (enc:=eP) (l:=[((0,2),(Qn.ofZ 1 bg))]) (k:=(2,0)) (v:=(Qn.ofZ 1 bg)) kty Z Z Z Z),_,_,rfl,EfR.on Z (B.run Z),_,_,rfl,EfR.on Z (B.run Z),rfl⟩,rfl,rfl,ae,Wk.trans (wk_shutK (h:=20) Z (fun kv e=>⟨_,kp_sq2,e⟩)) (sb Z Z Z).wk⟩
   · exact⟨_,_,[3,7,8],_,rfl,rfl,rfl,EfR.on Z (B.insK (enc:=eP) (l:=[]) (k:=(0,2)) (v:=(Qn.ofZ 1 bg)) kty Z Z Z Z),⟨_,_,rfl,EfR.on Z (B.insK (enc:=eP) (l:=[((0,2),(Qn.ofZ 1 bg))]) (k:=(2,0)) (v:=(Qn.ofZ 1 bg)) kty Z Z Z Z),_,_,rfl,EfR.on Z (B.run Z),_,_,rfl,EfR.on Z (B.run Z),rfl⟩,rfl,rfl,ae,Wk.trans (wk_shutK (h:=20) Z (fun kv e=>⟨_,kp_sq2,e⟩)) (sb Z Z Z).wk⟩
 refine pc (E Z (B.newK (enc:=eP) Z Z) ?_)
 refine tk 3 Z ?_
 refine TK.shutK (h:=26) (R':=fun kv=>∃ m,KP (radP n k 0) m/\kv=kvO eP m) Z (fun kv e=>⟨_,KP.nil,e⟩) ?_
 refine kc (E Z (B.sub Z Z ee) (E Z (B.quoN Z Z eg ah ee) (E Z (B.add Z Z ee) (l2 (fun (i:Nat) (b:Bool)=>[(0,vI n),(1,vI k),(5,.mref 20),(6,.mref (bif b then 26 else 88)),(21,vI (((n-k) / 2)+1)),(22,vI (i:Int))]) (fun i b=>[(20,(kR sqP)),((bif b then 26 else 88),(kR (radP n k i)))]) (fun i b=>i<=Int.toNat ((n-k) / 2+1)/\b=decide (i%2=0)) (fun i _=>Int.toNat ((n-k) / 2+1)-i) 0 true Z ?_ (sb Z Z Z) ?_))))
 · exact⟨zt _,rfl⟩
 intro i b hI0
 cases b
 ·refine Cp Z Z (fun h1=>?_) (fun h1=>?_)
  ·refine E Z (B.sub Z Z ee) (E Z (B.idxG (n:=Int.toNat (n-(i:Int))) un160 Z Z ah eg eg) (E Z (B.loadF hf Z Z eg) (C Z (w177 (jW (n-(i:Int)))) Z Z Z (E Z (B.idxG (n:=Int.toNat (i:Int)) un160 Z Z ah eg eg) (E Z (B.loadF hf Z Z eg) (E Z (B.add Z Z ee) (E Z (B.quoN Z Z eg ah ee) (E Z (B.sub Z Z ee) (E Z (B.idxG (n:=Int.toNat (((n+k) / 2)-(i:Int))) un160 Z Z ah eg eg) (E Z (B.loadF hf Z Z eg) (E Z (B.mul Z Z ee) (E Z (B.sub Z Z ee) (E Z (B.quoN Z Z eg ah ee) ?_)))))))))))))
   refine E Z (B.sub Z Z ee) (E Z (B.idxG (n:=Int.toNat (((n-k) / 2)-(i:Int))) un160 Z Z ah eg eg) (E Z (B.loadF hf Z Z eg) (E Z (B.mul Z Z ee) (C Z (w177 (((jW (i:Int))*(jW (((n+k) / 2)-(i:Int))))*(jW (((n-k) / 2)-(i:Int))))) Z Z Z (C Z (w179z (jW (n-(i:Int))) (((jW (i:Int))*(jW (((n+k) / 2)-(i:Int))))*(jW (((n-k) / 2)-(i:Int)))) eh (j1 _ _ _) (ra_d hn hI0.1 ab)) Z Z Z (E Z (B.bZ Z Z) (Dr Z ae (E Z (B.remN Z Z eg ah) (Cp Z Z (fun h2=>?_) (fun h2=>?_))))))))))
   ·refine C Z (w118 (mkQ (jW (n-(i:Int))) (((jW (i:Int))*(jW (((n+k) / 2)-(i:Int))))*(jW (((n-k) / 2)-(i:Int))))) ra_n) Z Z Z (E Z (B.newK (enc:=eP) Z Z) (E Z (B.run (val:=.pv (.agg [pI 0,pI 0])) (m:=[]) (rd:=[]) ae) (E Z (B.insK (l:=[]) (k:=(0,0)) (v:=(Qn.neg (mkQ (jW (n-(i:Int))) (((jW (i:Int))*(jW (((n+k) / 2)-(i:Int))))*(jW (((n-k) / 2)-(i:Int))))))) kty Z Z Z Z) ?_)))
    refine tk 10 Z ?_
    refine TK.shutK (h:=69) (R':=fun kv=>∃ m,KP (powP (crR n k (i:Int)) 0) m/\kv=kvO eP m) Z (fun kv e=>⟨_,kp_c (ra_o hn hI0 ab),e⟩) ?_
    refine kc (E Z (B.sub Z Z ee) (E Z (B.quoN Z Z eg ah ee) (E Z (B.sub Z Z ee) (l2 (fun (j:Nat) (b2:Bool)=>[(0,vI n),(1,vI k),(5,.mref 20),(6,.mref 88),(9,.mref (bif b2 then 69 else 83)),(21,vI (((n-k) / 2)+1)),(22,vI (i:Int)),(68,vI (((n-k) / 2)-(i:Int))),(69,vI (j:Int))]) (fun j b2=>[(20,(kR sqP)),((bif b2 then 69 else 83),(kR (powP (crR n k (i:Int)) j))),(88,(kR (radP n k i)))]) (fun j _=>j<=Int.toNat ((n-k) / 2-(i:Int))) (fun j _=>Int.toNat ((n-k) / 2-(i:Int))-j) 0 true Z ?_ (sb Z Z Z) ?_))))
    · exact zt _
    intro j b2 hI1
    cases b2
    ·refine Cp Z Z (fun h3=>?_) (fun h3=>?_)
     ·refine E Z (B.jd (w101e (powP (crR n k (i:Int)) j) sqP (powP (crR n k (i:Int)) (j+1)) 83 20 69 ah ah ah (ra_k hn hI1).1 (ra_k hn hI1).2 (ra_m hn hI1) Z) Z Z ⟨rfl,rfl,trivial⟩ rfl rfl) (E Z (B.add Z Z ee) (pk Z (L2 (j+1) true ?_ ?_ (sb Z Z Z))))
      · omega
      · omega
     refine C Z (w100 1 bg) Z Z Z (E Z (B.jd (w102e (radP n k i) (powP (crR n k (i:Int)) j) (radP n k (i+1)) (Qn.ofZ 1 bg) 88 83 26 ah ah ah (ra_z hn hI0.1 hI1) (ra_s ab hI1)) Z Z ⟨rfl,rfl,trivial⟩ rfl rfl) (E Z (B.add Z Z ee) (pk Z (L2 (i+1) true ?_ ?_ (sb Z Z Z)))))
     · exact⟨aa,by first|exact ra_bf hI0.2|exact ra_bt hI0.2⟩
     · omega
    refine Cp Z Z (fun h4=>?_) (fun h4=>?_)
    ·refine E Z (B.jd (w101e (powP (crR n k (i:Int)) j) sqP (powP (crR n k (i:Int)) (j+1)) 69 20 83 ah ah ah (ra_k hn hI1).1 (ra_k hn hI1).2 (ra_m hn hI1) Z) Z Z ⟨rfl,rfl,trivial⟩ rfl rfl) (E Z (B.add Z Z ee) (pk Z (L2 (j+1) false ?_ ?_ (sb Z Z Z))))
     · omega
     · omega
    refine C Z (w100 1 bg) Z Z Z (E Z (B.jd (w102e (radP n k i) (powP (crR n k (i:Int)) j) (radP n k (i+1)) (Qn.ofZ 1 bg) 88 69 26 ah ah ah (ra_z hn hI0.1 hI1) (ra_s ab hI1)) Z Z ⟨rfl,rfl,trivial⟩ rfl rfl) (E Z (B.add Z Z ee) (pk Z (L2 (i+1) true ?_ ?_ (sb Z Z Z)))))
    · exact⟨aa,by first|exact ra_bf hI0.2|exact ra_bt hI0.2⟩
    · omega
   exact absurd (ra_od hI0.2) h2
  refine Rt Z ?_
  exact ra_leaf ab hn hI0 he (fun e1 e2=>by subst e1;exact leafL (out0:=[(88,(kR (radP n k i)))]) (.inr Z) ae Z (by rw[e2];rfl))
 refine Cp Z Z (fun h5=>?_) (fun h5=>?_)
 ·refine E Z (B.sub Z Z ee) (E Z (B.idxG (n:=Int.toNat (n-(i:Int))) un160 Z Z ah eg eg) (E Z (B.loadF hf Z Z eg) (C Z (w177 (jW (n-(i:Int)))) Z Z Z (E Z (B.idxG (n:=Int.toNat (i:Int)) un160 Z Z ah eg eg) (E Z (B.loadF hf Z Z eg) (E Z (B.add Z Z ee) (E Z (B.quoN Z Z eg ah ee) (E Z (B.sub Z Z ee) (E Z (B.idxG (n:=Int.toNat (((n+k) / 2)-(i:Int))) un160 Z Z ah eg eg) (E Z (B.loadF hf Z Z eg) (E Z (B.mul Z Z ee) (E Z (B.sub Z Z ee) (E Z (B.quoN Z Z eg ah ee) ?_)))))))))))))
  refine E Z (B.sub Z Z ee) (E Z (B.idxG (n:=Int.toNat (((n-k) / 2)-(i:Int))) un160 Z Z ah eg eg) (E Z (B.loadF hf Z Z eg) (E Z (B.mul Z Z ee) (C Z (w177 (((jW (i:Int))*(jW (((n+k) / 2)-(i:Int))))*(jW (((n-k) / 2)-(i:Int))))) Z Z Z (C Z (w179z (jW (n-(i:Int))) (((jW (i:Int))*(jW (((n+k) / 2)-(i:Int))))*(jW (((n-k) / 2)-(i:Int)))) eh (j1 _ _ _) (ra_d hn hI0.1 ab)) Z Z Z (E Z (B.bZ Z Z) (Dr Z ae (E Z (B.remN Z Z eg ah) (Cp Z Z (fun h6=>?_) (fun h6=>?_))))))))))
  ·exact absurd h6 (ra_ev hI0.2)
  refine E Z (B.newK (enc:=eP) Z Z) (E Z (B.run (val:=.pv (.agg [pI 0,pI 0])) (m:=[]) (rd:=[]) ae) (E Z (B.insK (l:=[]) (k:=(0,0)) (v:=(mkQ (jW (n-(i:Int))) (((jW (i:Int))*(jW (((n+k) / 2)-(i:Int))))*(jW (((n-k) / 2)-(i:Int)))))) kty Z Z Z Z) ?_))
  refine tk 10 Z ?_
  refine TK.shutK (h:=69) (R':=fun kv=>∃ m,KP (powP (crR n k (i:Int)) 0) m/\kv=kvO eP m) Z (fun kv e=>⟨_,kp_c (ra_e hn hI0 ab),e⟩) ?_
  refine kc (E Z (B.sub Z Z ee) (E Z (B.quoN Z Z eg ah ee) (E Z (B.sub Z Z ee) (l2 (fun (j:Nat) (b2:Bool)=>[(0,vI n),(1,vI k),(5,.mref 20),(6,.mref 26),(9,.mref (bif b2 then 69 else 83)),(21,vI (((n-k) / 2)+1)),(22,vI (i:Int)),(68,vI (((n-k) / 2)-(i:Int))),(69,vI (j:Int))]) (fun j b2=>[(20,(kR sqP)),(26,(kR (radP n k i))),((bif b2 then 69 else 83),(kR (powP (crR n k (i:Int)) j)))]) (fun j _=>j<=Int.toNat ((n-k) / 2-(i:Int))) (fun j _=>Int.toNat ((n-k) / 2-(i:Int))-j) 0 true Z ?_ (sb Z Z Z) ?_))))
  · exact zt _
  intro j b2 hI1
  cases b2
  ·refine Cp Z Z (fun h7=>?_) (fun h7=>?_)
   ·refine E Z (B.jd (w101e (powP (crR n k (i:Int)) j) sqP (powP (crR n k (i:Int)) (j+1)) 83 20 69 ah ah ah (ra_k hn hI1).1 (ra_k hn hI1).2 (ra_m hn hI1) Z) Z Z ⟨rfl,rfl,trivial⟩ rfl rfl) (E Z (B.add Z Z ee) (pk Z (L2 (j+1) true ?_ ?_ (sb Z Z Z))))
    · omega
    · omega
   refine C Z (w100 1 bg) Z Z Z (E Z (B.jd (w102e (radP n k i) (powP (crR n k (i:Int)) j) (radP n k (i+1)) (Qn.ofZ 1 bg) 26 83 88 ah ah ah (ra_z hn hI0.1 hI1) (ra_s ab hI1)) Z Z ⟨rfl,rfl,trivial⟩ rfl rfl) (E Z (B.add Z Z ee) (pk Z (L2 (i+1) false ?_ ?_ (sb Z Z Z)))))
   · exact⟨aa,by first|exact ra_bf hI0.2|exact ra_bt hI0.2⟩
   · omega
  refine Cp Z Z (fun h8=>?_) (fun h8=>?_)
  ·refine E Z (B.jd (w101e (powP (crR n k (i:Int)) j) sqP (powP (crR n k (i:Int)) (j+1)) 69 20 83 ah ah ah (ra_k hn hI1).1 (ra_k hn hI1).2 (ra_m hn hI1) Z) Z Z ⟨rfl,rfl,trivial⟩ rfl rfl) (E Z (B.add Z Z ee) (pk Z (L2 (j+1) false ?_ ?_ (sb Z Z Z))))
   · omega
   · omega
  refine C Z (w100 1 bg) Z Z Z (E Z (B.jd (w102e (radP n k i) (powP (crR n k (i:Int)) j) (radP n k (i+1)) (Qn.ofZ 1 bg) 26 69 88 ah ah ah (ra_z hn hI0.1 hI1) (ra_s ab hI1)) Z Z ⟨rfl,rfl,trivial⟩ rfl rfl) (E Z (B.add Z Z ee) (pk Z (L2 (i+1) false ?_ ?_ (sb Z Z Z)))))
  · exact⟨aa,by first|exact ra_bf hI0.2|exact ra_bt hI0.2⟩
  · omega
 refine Rt Z ?_
 exact ra_leaf ab hn hI0 he (fun e1 e2=>by subst e1;exact leafL (out0:=[(26,(kR (radP n k i)))]) (.inr Z) ae Z (by rw[e2];rfl))
theorem w103 (hf:jq) (n k:Int) (a:Nat) (hn:RaN n k):qD Tryz.prog 50 [vI n,vI k] (qx []) (.mref a) [(a,kR (radQ n k))]:=by
 have key:=w103' hf n k _ hn rfl
 generalize (bif decide (((n-k) / 2+1)%2=0) then 26 else 88)=x at key
 simpa [renM,DV.renL,DV.ren,MO.ren,r1_1,radQ] using key.r1 x a
end Go.Lens.Tb
end
section
namespace Go.Lens
variable [Lz]
section
variable {P:Program} {Y:Tab} [qL P Y] {nb:Nat} {s:St} {dst:Option Tmp} {ty u:TypeId} {pos:String} {af:Array Edge} {gd:Option (Nat×Bool)} {t:TypeId} {x y:Operand} {a b:Int}
theorem B.subW (hx:ev1 s x=lit (.int .i64 a)) (hy:ev1 s y=lit (.int .i64 b)):Body P Y nb s ⟨dst,.binOp .sub t x y u,ty,pos,af,gd⟩ (lit (.int .i64 (wr64 (a-b)))) [] []:=by
 refine .inr (kH.of fun σ G a' w hv hl I=>?_)
 have hX:=hv x aS
 have hY:=hv y aS
 rw[hx] at hX;rw[hy] at hY
 have eX:=(qB hX).1
 have eY:=(qB hY).1
 refine⟨.int .i64 (wr64 (a-b)),w,G,.inl ?_,qH I.ctxS (qK Z) (fun k hk=>by simp[lit,DV.refs] at hk)⟩
 rw[<-wrap_i64]
 have hg:eqGuard .sub t x y (.int .i64 a) (.int .i64 b)=(Pure.pure ():Sem Unit):=by simp[eqGuard]
 simp only[execOp,qu,eX,eY,hg]
 simp[binOp,Op.intArith]
theorem B.idxB {h c n len:Nat} {m:Int} {e:TypeId} {o:MO} (ht:Y.underlying t=some (.array len e)) (hs:szT Y e=some 1) (hx:ev1 s x=.bref h c) (hm:qx s.ms h=some o) (hy:ev1 s y=lit (.int .i64 m)) (h1:1<len) (hn:m=(n:Int)) (hlt:n<len) :
  Body P Y nb s ⟨dst,.indexAddr t x y,ty,pos,af,gd⟩ (.bref h (c+n)) [] [h]:=by
 subst hn
 refine .inr (kH.of fun σ G a w hv hl I=>?_)
 have hX:=hv x aS
 have hY:=hv y aS
 rw[hx] at hX;rw[hy] at hY
 have hY:=(qB hY).1
 have hlk:qx σ.ms h=some o:=by grind
 simp only[qy] at hX
 obtain⟨ha,b,hb,hX⟩:=hX
 have hrun:(Instr.indexAt t (.pointer (some ⟨b,c,none⟩)) (.int .i64 (n:Int))).run P w=.ok (.pointer (some ⟨b,c+n,none⟩)) w:=by
  have hl:¬len<=1:=aa
  simp only[Instr.indexAt,qu,asIntOf,qw,qJ ht,qt,Instr.sureAddr,Int.natCast_nonneg,Int.ofNat_lt,hlt,and_self,qq,Sem.run_ite,qZ hs,Addr.add_lit,hl,zT,Nat.mul_one]
 refine⟨.pointer (some ⟨b,c+n,none⟩),w,G,.inl ?_,qH I.ctxS ?_ (fun k hk=>?_)⟩
 ·simp only[execOp,hX,hY,qu,hrun,qt,qw]
 ·grind [qy]
 grind [DV.refs]
theorem B.ki {h c k:Nat} {T:TypeId} {ds:List DV} (hx:ev1 s x=.bref h c) (hm:qx s.ms h=some (.box T ds)) (ha:aggT Y t=some false) (hs:szT Y t=some 1) (hd:ds[c]? =some (.mref k)) :
  Body P Y nb s ⟨dst,.load t x,ty,pos,af,gd⟩ (.mref k) [] [h]:=by
 refine .inr (kH.of fun σ G a w hv hl I=>?_)
 have hX:=hv x aS
 rw[hx] at hX
 have hlk:qx σ.ms h=some (.box T ds):=by grind
 have hcl:=(List.getElem?_eq_some_iff.1 hd).1
 have hq:Z3 Y t (qx σ.ms) (.bref h c)=some (true,.mref k):=by grind [Z3]
 obtain⟨r,h1,h2⟩:=Z2 (P:=P) I.ctxS.sees hq hX
 refine⟨r,w,G,.inl ?_,qH I.ctxS h2 (fun j hj=>?_)⟩
 ·simp only[execOp,qu,h1,qt,qw]
 refine I.refsM h _ j hlk ?_
 have hk:(DV.mref k)∈ds:=List.mem_of_getElem? hd
 have:∀ (l:List DV),DV.mref k∈l->∀ j∈(DV.mref k).refs,j∈DV.qO l:=by
  intro l
  induction l with
  | nil=>intro h;cases h
  | cons d l ih=>
   grind [DV.qO]
 exact this ds hk j hj
end
end Go.Lens
end
section
namespace Go.Lens.Tb
open Go.Proofs Go.Lens.Un
variable [Lz] [Dn]
attribute [local irreducible] TK PK T RG EfR Body CG
section
variable [Fc] {n nb:Nat} {Q:Exit->St->Prop} {K:List Fr} {c:Cg} {ops:Array Oper} {dr:Bool} {os:List Oper} {tm:List (Nat×DV)} {ms m:Na} {acc:List Ef} {dst:Option Tmp} {op:Op} {ty:TypeId} {pos:String} {af:Array Edge} {val:DV} {rd:List Nat}
theorem EK (k:Nat) (e:go n nb 9999 k c=.r ops dr (⟨dst,op,ty,pos,af,none⟩::os) tm ms acc K) (h:Body Tryz.prog tab nb ⟨tm,ms⟩ ⟨dst,op,ty,pos,af,none⟩ val m rd) (kk:CG n nb Q (nx ops dr os tm dst val m ms rd acc K)):CG n nb Q c:=
 go_ok (k:=k) (by rw[e];unfold CG;exact RO h (nx_ok kk))
end
abbrev zX:PL:=[((1,0),1)]
abbrev zY:PL:=[((0,1),1)]
def zPw:Nat->PL×PL
 | 0=>([((0,0),1)],[])
 | j+1=>(q6 (zPw j).1 zX++scl ((-1:Int):Rat) (q6 (zPw j).2 zY),q6 (zPw j).1 zY++scl ((1:Int):Rat) (q6 (zPw j).2 zX))
def zeE (n m:Int):Int:=if qU n 0 8≠0 then qU n 0 8 else qM [qU m (0-n) n,ju (decide (Int.tmod (wr64 (n-m)) 2≠0)) 18]
def zeP (n m:Int):PL:=q6 (radQ n (max m (0-m))) (if m<0 then (zPw (Int.toNat (max m (0-m)))).2 else (zPw (Int.toNat (max m (0-m)))).1)
section
variable {n m:Int} {j:Nat} {d:Int} {α:Type} {l:List α} {A B:PL}
theorem kp_k {k:KI} {h:R64 1}:KP [(k,1)] (ZZ k (Qn.ofZ 1 h) []):=by
 have:=KP.nil.add k (Qn.ofZ 1 h)
 rw[Qn.ofZ_q] at this
 exact this
theorem ze_b0 (h:¬qU n 0 8≠0):0<=n/\n<=8:=wi_0.1 (zi.1 h)
theorem ze_b (h:¬qU n 0 8≠0) (h2:¬qM [qU m (0-n) n,ju (decide (Int.tmod (wr64 (n-m)) 2≠0)) 18]≠0):0<=n/\n<=8/\ -n<=m/\m<=n/\(n-m)%2=0:=by
 have hb:=ze_b0 h
 have h3:=zi.1 h2
 rw[ff_0,ff_0,wi_0,wh_0 ah,zG] at h3
 obtain⟨h3,h4,_⟩:=h3
 have h4:=zi.1 h4
 grind [wr64,Int.tmod_eq_emod_of_nonneg]
theorem ze_n (h:¬qU n 0 8≠0) (h2:¬qM [qU m (0-n) n,ju (decide (Int.tmod (wr64 (n-m)) 2≠0)) 18]≠0):RaN n (max m (0-m)):=by
 have:=ze_b h h2
 unfold RaN
 omega
theorem ze_s1 {h:R64 (-1)}:q6 (zPw j).1 zX++scl (Qn.q (Qn.ofZ (-1) h)) (q6 (zPw j).2 zY)=(zPw (j+1)).1:=by rw[Qn.ofZ_q];rfl
theorem ze_s2 {h:R64 1}:q6 (zPw j).1 zY++scl (Qn.q (Qn.ofZ 1 h)) (q6 (zPw j).2 zX)=(zPw (j+1)).2:=by rw[Qn.ofZ_q];rfl
def ZI (j N s:Nat) (A:PL):Prop:=A.length<=N/\(∀ a∈A.map (·.1),0<=a.1/\0<=a.2/\a.1+a.2=(j:Int))/\∀ p∈A,sz p.2<=s
theorem ZI.pr {N s:Nat} {k:KI} (h:ZI j N s A) (hk:0<=k.1/\0<=k.2/\k.1+k.2=1):ZI (j+1) N (s+1) (q6 A [(k,1)]):=by
 obtain⟨h1,h2,h3⟩:=h
 refine⟨by rw[prods_len];simpa using h1,fun a ha=>?_,fun p hp=>?_⟩
 ·obtain⟨x,hx,y,hy,rfl⟩:=prods_keys.1 ha
  have:=h2 x hx
  grind [kadd]
 grind [q6,rowP,List.mem_singleton]
theorem ZI.ap {N M s u:Nat} {b:Rat} (h:ZI j N s A) (g:ZI j M s B) (hb:sz b<=u):ZI j (N+M) (s+u) (A++scl b B):=by
 obtain⟨h1,h2,h3⟩:=h
 obtain⟨g1,g2,g3⟩:=g
 refine⟨by rw[za];simp only[scl,zI];omega,fun a ha=>?_,fun p hp=>?_⟩
 ·grind [scl_keys]
 rcases zH.1 hp with hp|hp
 ·have:=h3 p hp;omega
 simp only[scl,zE] at hp
 obtain⟨a,ha,rfl⟩:=hp
 have:=g3 a ha
 have:=jy a.2 b
 simp only;omega
theorem sz_m1:sz (((-1:Int):Rat))<=1:=qh (sz_int (-1)) ah
theorem zPw_i:∀ j,ZI j (2 ^ j) (1+2*j) (zPw j).1/\ZI j (2 ^ j) (1+2*j) (zPw j).2
 | 0=>by
  refine⟨⟨zB _,fun a ha=>?_,fun p hp=>?_⟩,⟨zt _,fun a ha=>(by cases ha),fun p hp=>(by cases hp)⟩⟩
  ·simp[zPw] at ha;subst ha;simp
  simp[zPw] at hp;subst hp;exact sz_1
 | j+1=>by
  obtain⟨h1,h2⟩:=zPw_i j
  have a1:=(h1.pr (k:=(1,0)) ah).ap (h2.pr (k:=(0,1)) ah) sz_m1
  have a2:=(h1.pr (k:=(0,1)) ah).ap (h2.pr (k:=(1,0)) ah) (show sz ((1:Int):Rat)<=1 from sz_1)
  rw[Nat.pow_succ,Nat.mul_two]
  exact⟨a1,a2⟩
theorem ZI.S {N s:Nat} (h:ZI j N s A):szP A<=N*(s+1)+1:=szP_le h.1 h.2.2
theorem ZI.KB {N s:Nat} (h:ZI j N s A) (hj:j<=16):KB A:=fun k hk=>by have:=h.2.1 k hk;omega
def ZC (A B:PL):Prop:=KB A/\KB B/\(A.length*B.length+2)*(szP A+szP B+2)<=10000000
theorem ZI.C {k:KI} (h:ZI j 128 15 A) (hj:j<=7) (hk:0<=k.1/\0<=k.2/\k.1+k.2=1):ZC A [(k,1)]:=by
 refine⟨h.KB aa,fun a ha=>by simp at ha;subst ha;omega,?_⟩
 have h1:=h.S
 have h2:=h.1
 have h3:szP [(k,1)]<=3:=by simp only[szP];have:=sz_1;omega
 exact qh (Nat.mul_le_mul (show _<=130 by simp only[qa];omega) (show _<=2100 by omega)) ah
theorem ZI.le {N s N' s':Nat} (h:ZI j N s A) (hN:N<=N') (hs:s<=s'):ZI j N' s' A:=⟨qh h.1 hN,h.2.1,fun p hp=>qh (h.2.2 p hp) hs⟩
theorem zP_8 (hj:j<8):ZI j 128 15 (zPw j).1/\ZI j 128 15 (zPw j).2:=by
 have h:=zPw_i j
 have:2 ^ j<=2 ^ 7:=Nat.pow_le_pow_right ah aa
 exact⟨h.1.le this aa,h.2.le this aa⟩
theorem ze_k (hj:j<8):ZC (zPw j).1 zX/\ZC (zPw j).2 zY/\ZC (zPw j).1 zY/\ZC (zPw j).2 zX:=by
 obtain⟨h1,h2⟩:=zP_8 hj
 exact⟨h1.C aa ah,h2.C aa ah,h1.C aa ah,h2.C aa ah⟩
theorem ze_p0 {b:Rat} (h:ZI (j+1) 128 16 A) (g:ZI (j+1) 128 16 B) (hb:sz b<=64):szP A+(B.length+1)*(szP B+sz b+2)<=10000000:=by
 have h1:=h.S
 have h2:=g.S
 have h3:=g.1
 have:=Nat.mul_le_mul (show B.length+1<=129 by omega) (show szP B+sz b+2<=2300 by omega)
 omega
theorem ze_p (hj:j<8) {h1:R64 (-1)} {h2:R64 1}:szP (q6 (zPw j).1 zX)+((q6 (zPw j).2 zY).length+1)*(szP (q6 (zPw j).2 zY)+sz (Qn.q (Qn.ofZ (-1) h1))+2)<=10000000/\szP (q6 (zPw j).1 zY)+((q6 (zPw j).2 zX).length+1)*(szP (q6 (zPw j).2 zX)+sz (Qn.q (Qn.ofZ 1 h2))+2)<=10000000:=by
 obtain⟨a1,a2⟩:=zP_8 hj
 have b1:sz (Qn.q (Qn.ofZ (-1) h1))<=64:=by rw[Qn.ofZ_q];exact qh sz_m1 ah
 exact⟨ze_p0 (a1.pr ah) (a2.pr ah) b1,ze_p0 (a1.pr ah) (a2.pr ah) (of1_s h2)⟩
theorem rad_i {k:Int} (hn:RaN n k):∀ i,i<=Int.toNat ((n-k) / 2+1)->(radP n k i).length+2 ^ (Int.toNat ((n-k) / 2+1)-i)<=2 ^ Int.toNat ((n-k) / 2+1)/\(∀ a∈(radP n k i).map (·.1),0<=a.1/\0<=a.2/\a.1+a.2<=n-k)/\∀ p∈radP n k i,sz p.2<=205
 | 0,_=>⟨by simp[radP],fun a ha=>by simp[radP] at ha,fun p hp=>by simp[radP] at hp⟩
 | i+1,hi=>by
  obtain⟨h1,h2,h3⟩:=rad_i hn i aa
  have h4:=pw_len (c:=crR n k (i:Int)) (Int.toNat ((n-k) / 2-(i:Int)))
  rw[radP]
  refine⟨?_,fun a ha=>?_,fun p hp=>?_⟩
  ·rw[za]
   simp only[scl,zI]
   rw[h4]
   have e1:Int.toNat ((n-k) / 2+1)-i=(Int.toNat ((n-k) / 2+1)-(i+1))+1:=aa
   grind
  ·rw[qc,zH,scl_keys] at ha
   rcases ha with ha|ha
   ·exact h2 a ha
   have:=pw_key ha;unfold RaN at hn;omega
  rcases zH.1 hp with hp|hp
  ·exact h3 p hp
  simp only[scl,zE] at hp
  obtain⟨a,ha,rfl⟩:=hp
  have:=pw_sz ha
  have:=cr_s (n:=n) (k:=k) (i:=i)
  grind [RaN]
theorem rad_f {k:Int} (hn:RaN n k):(radQ n k).length<=2 ^ Int.toNat ((n-k) / 2+1)/\(∀ a∈(radQ n k).map (·.1),0<=a.1/\0<=a.2/\a.1+a.2<=8)/\szP (radQ n k)<=32*206+1:=by
 obtain⟨h1,h2,h3⟩:=rad_i hn _ (zB _)
 have hl:(radQ n k).length<=2 ^ Int.toNat ((n-k) / 2+1):=qh (Nat.le_add_right _ _) h1
 refine⟨hl,fun a ha=>?_,?_⟩
 ·have:=h2 a ha;unfold RaN at hn;omega
 have:2 ^ Int.toNat ((n-k) / 2+1)<=2 ^ 5:=Nat.pow_le_pow_right ah eg
 exact szP_le aa h3
theorem ze_z (hn:RaN n (max m (0-m))) (hA:ZI j (2 ^ j) (1+2*j) A) (hj:j=Int.toNat (max m (0-m))):(radQ n (max m (0-m))).length*A.length<=512/\szP (radQ n (max m (0-m)))+szP A+2<=13400:=by
 obtain⟨h1,_,h3⟩:=rad_f hn
 have hs:=hA.S
 have hl:=hA.1
 unfold RaN at hn
 have h8:j<=8:=aa
 have:2 ^ j<=2 ^ 8:=Nat.pow_le_pow_right ah h8
 have h4:2 ^ j*(1+2*j+1)<=256*18:=Nat.mul_le_mul this aa
 refine⟨qh (Nat.mul_le_mul h1 hl) ?_,aa⟩
 rw[<-Nat.pow_add]
 exact qh (Nat.pow_le_pow_right ah (show _<=9 by omega)) ah
theorem zP_A (h:A=(zPw j).1\/A=(zPw j).2):ZI j (2 ^ j) (1+2*j) A:=by rcases h with rfl|rfl;exact (zPw_i j).1;exact (zPw_i j).2
theorem ze_f (h:¬qU n 0 8≠0) (h2:¬qM [qU m (0-n) n,ju (decide (Int.tmod (wr64 (n-m)) 2≠0)) 18]≠0) (hj:j=Int.toNat (max m (0-m))) (hA:A=(zPw j).1\/A=(zPw j).2):ZC (radQ n (max m (0-m))) A:=by
 have hn:=ze_n h h2
 have hA:=zP_A hA
 obtain⟨z1,z2⟩:=ze_z hn hA hj
 refine⟨fun k hk=>by have:=(rad_f hn).2.1 k hk;omega,hA.KB eg,?_⟩
 exact qh (Nat.mul_le_mul (show _<=514 by omega) z2) ah
theorem ze_o (h:¬qU n 0 8≠0) (h2:¬qM [qU m (0-n) n,ju (decide (Int.tmod (wr64 (n-m)) 2≠0)) 18]≠0) (hj:j=Int.toNat (max m (0-m))) (hA:A=(zPw j).1\/A=(zPw j).2):OkP (q6 (radQ n (max m (0-m))) A):=by
 have hn:=ze_n h h2
 have hA:=zP_A hA
 obtain⟨z1,z2⟩:=ze_z hn hA hj
 refine⟨fun k hk=>?_,by rw[prods_len];omega,?_⟩
 ·obtain⟨a,ha,b,hb,rfl⟩:=prods_keys.1 hk
  have:=(rad_f hn).2.1 a ha
  have:=hA.2.1 b hb
  grind [RaN,kadd]
 have h1:=prods_sz (radQ n (max m (0-m))) A
 have h3:=Nat.mul_le_mul z1 z2
 omega
theorem ze_1 (h:qU n 0 8≠0):[]=erL (zeE n m) l:=by
 have:zeE n m=qU n 0 8:=by unfold zeE;rw[if_pos h]
 rw[this];exact er_1 h
theorem ze_2 (h:qU n 0 8≠0):qU n 0 8=erE (zeE n m) d:=by
 have:zeE n m=qU n 0 8:=by unfold zeE;rw[if_pos h]
 rw[this];exact er_2 h
theorem ze_e (h:¬qU n 0 8≠0):zeE n m=qM [qU m (0-n) n,ju (decide (Int.tmod (wr64 (n-m)) 2≠0)) 18]:=by unfold zeE;rw[if_neg h]
theorem ze_3 (h:¬qU n 0 8≠0) (h2:qM [qU m (0-n) n,ju (decide (Int.tmod (wr64 (n-m)) 2≠0)) 18]≠0):[]=erL (zeE n m) l:=by rw[ze_e h];exact er_1 h2
theorem ze_4 (h:¬qU n 0 8≠0) (h2:qM [qU m (0-n) n,ju (decide (Int.tmod (wr64 (n-m)) 2≠0)) 18]≠0):qM [qU m (0-n) n,ju (decide (Int.tmod (wr64 (n-m)) 2≠0)) 18]=erE (zeE n m) d:=by rw[ze_e h];exact er_2 h2
theorem ze_q (hj:j=Int.toNat (max m (0-m))) (hA:(m<0/\A=(zPw j).2)\/(¬m<0/\A=(zPw j).1)):q6 (radQ n (max m (0-m))) A=zeP n m:=by
 subst hj
 unfold zeP
 grind
theorem ze_5 (h:¬qU n 0 8≠0) (h2:¬qM [qU m (0-n) n,ju (decide (Int.tmod (wr64 (n-m)) 2≠0)) 18]≠0) (hj:j=Int.toNat (max m (0-m))) (hA:(m<0/\A=(zPw j).2)\/(¬m<0/\A=(zPw j).1)):polT (q6 (radQ n (max m (0-m))) A)=erL (zeE n m) (polT (zeP n m)):=by rw[ze_q hj hA,ze_e h];exact er_3 h2
theorem ze_6 (h:¬qU n 0 8≠0) (h2:¬qM [qU m (0-n) n,ju (decide (Int.tmod (wr64 (n-m)) 2≠0)) 18]≠0) (hj:j=Int.toNat (max m (0-m))) (hA:(m<0/\A=(zPw j).2)\/(¬m<0/\A=(zPw j).1)):polE (q6 (radQ n (max m (0-m))) A)=erE (zeE n m) (polE (zeP n m)):=by rw[ze_q hj hA,ze_e h];exact er_4 h2
end
theorem un106:tab.underlying 106=some (.array 2 105):=ae
theorem w16 (hp:qW) (hf:jq) (n m:Int):CKa 16 [vI n,vI m] (.tup [vL eY (erL (zeE n m) (polT (zeP n m))),vI (erE (zeE n m) (polE (zeP n m)))]):=by
 refine cL 10 [] qf16 Z (nB Z) Z Z (kc (E Z (B.ZH (enc:=eY) Z) (C Z (w97 n 0 8) Z Z Z (Cp Z Z (fun h1=>?_) (fun h1=>?_)))))
 ·exact E Z (B.ZH (enc:=eY) Z) (Rt Z (lL Z fg))
 refine E Z (B.neg Z ep) (C Z (w97 m (0-n) n) Z Z Z (E Z (B.subW Z Z) (E Z (B.rem Z Z aa) (C Z (w99 (decide ((Int.tmod (wr64 (n-m)) 2)≠0)) 18) Z Z Z (E Z (B.runZ (val:=.pv (.slice (List.map eI [(qU m (0-n) n),(ju (decide ((Int.tmod (wr64 (n-m)) 2)≠0)) 18)]))) (m0:=[(39,.arr 0 1 26 [[pI (qU m (0-n) n)],[pI (ju (decide ((Int.tmod (wr64 (n-m)) 2)≠0)) 18)]])]) (rd:=[]) ae (fun l=>Frz.arr l _ _ _ _ _) Z) (C Z (w98 [(qU m (0-n) n),(ju (decide ((Int.tmod (wr64 (n-m)) 2)≠0)) 18)] (nB Z)) Z Z Z (Cp Z Z (fun h2=>?_) (fun h2=>?_))))))))
 ·exact E Z (B.ZH (enc:=eY) Z) (Rt Z (lL Z fg))
 refine E Z (B.neg Z ep) (E Z (B.max Z Z) (E Z (B.newK (enc:=eP) Z Z) (E Z (B.run (val:=.pv (.agg [pI 1,pI 0])) (m:=[]) (rd:=[]) ae) (C Z (w100 1 bg) Z Z Z (E Z (B.insK (l:=[]) (k:=(1,0)) (v:=(Qn.ofZ (1) bg)) kty Z Z Z Z) (E Z (B.newK (enc:=eP) Z Z) (E Z (B.run (val:=.pv (.agg [pI 0,pI 1])) (m:=[]) (rd:=[]) ae) (C Z (w100 1 bg) Z Z Z (E Z (B.insK (l:=[]) (k:=(0,1)) (v:=(Qn.ofZ (1) bg)) kty Z Z Z Z) (Dr Z ae ?_))))))))))
 refine tk 9 Z ?_
 refine TK.shutK (h:=48) (R':=fun kv=>∃ m,KP zX m/\kv=kvO eP m) Z (fun kv e=>⟨_,kp_k,e⟩) ?_
 refine TK.shutK (h:=52) (R':=fun kv=>∃ m,KP zY m/\kv=kvO eP m) Z (fun kv e=>⟨_,kp_k,e⟩) ?_
 refine kc (E Z (B.newK (enc:=eP) Z Z) (E Z (B.run (val:=.pv (.agg [pI 0,pI 0])) (m:=[]) (rd:=[]) ae) (C Z (w100 1 bg) Z Z Z (E Z (B.insK (l:=[]) (k:=(0,0)) (v:=(Qn.ofZ (1) bg)) kty Z Z Z Z) (E Z (B.newK (enc:=eP) Z Z) (E Z (B.run Z) ?_))))))
 refine tk 10 Z ?_
 refine TK.shutK (h:=56) (R':=fun kv=>∃ m,KP (zPw 0).1 m/\kv=kvO eP m) Z (fun kv e=>⟨_,kp_k,e⟩) ?_
 refine TK.shutK (h:=60) (R':=fun kv=>∃ m,KP (zPw 0).2 m/\kv=kvO eP m) Z (fun kv e=>⟨_,KP.nil,e⟩) ?_
 refine kc (l2 (fun (j:Nat) (b:Bool)=>[(0,vI n),(1,vI m),(8,vI (max m (0-m))),(9,.mref 48),(10,.mref 52),(11,.bref 21 0),(52,vI (max m (0-m))),(53,vI (j:Int))]) (fun j b=>[(21,.box 106 [.mref (bif b then 56 else 74),.mref (bif b then 60 else 84)]),(48,(kR zX)),(52,(kR zY)),((bif b then 56 else 74),(kR (zPw j).1)),((bif b then 60 else 84),(kR (zPw j).2))]) (fun j _=>j<=Int.toNat (max m (0-m))) (fun j _=>Int.toNat (max m (0-m))-j) 0 true Z ?_ (sb Z Z Z) ?_)
 · exact zt _
 intro j b hI0
 have hb0:=ze_b ab ab
 cases b
 ·refine Cp Z Z (fun h3=>?_) (fun h3=>?_)
  ·refine E Z (B.idxB un106 Z Z Z Z ah Z ah) ?_
   first|refine EK 0 Z (B.ki Z Z Z Z Z) ?_|refine EK 1 Z (B.ki Z Z Z Z Z) ?_|refine EK 2 Z (B.ki Z Z Z Z Z) ?_
   refine E Z (B.jd (w101e (zPw j).1 zX (q6 (zPw j).1 zX) 74 48 68 ah ah ah (ze_k aa).1.1 (ze_k (j:=j) aa).1.2.1 (ze_k aa).1.2.2 Z) Z Z ⟨rfl,rfl,trivial⟩ rfl rfl) (E Z (B.idxB un106 Z Z Z Z ah Z ah) ?_)
   first|refine EK 0 Z (B.ki Z Z Z Z Z) ?_|refine EK 1 Z (B.ki Z Z Z Z Z) ?_|refine EK 2 Z (B.ki Z Z Z Z Z) ?_
   refine E Z (B.jd (w101e (zPw j).2 zY (q6 (zPw j).2 zY) 84 52 72 ah ah ah (ze_k aa).2.1.1 (ze_k (j:=j) aa).2.1.2.1 (ze_k aa).2.1.2.2 Z) Z Z ⟨rfl,rfl,trivial⟩ rfl rfl) (C Z (w100 (-1) bg) Z Z Z (E Z (B.jd (w102e (q6 (zPw j).1 zX) (q6 (zPw j).2 zY) (zPw (j+1)).1 (Qn.ofZ ((-1)) bg) 68 72 56 ah ah ah (ze_p (h1:=by unfold R64;omega) (h2:=by unfold R64;omega) aa).1 ze_s1) Z Z ⟨rfl,rfl,trivial⟩ rfl rfl) (E Z (B.idxB un106 Z Z Z Z ah Z ah) ?_)))
   first|refine EK 0 Z (B.ki Z Z Z Z Z) ?_|refine EK 1 Z (B.ki Z Z Z Z Z) ?_|refine EK 2 Z (B.ki Z Z Z Z Z) ?_
   refine E Z (B.jd (w101e (zPw j).1 zY (q6 (zPw j).1 zY) 74 52 78 ah ah ah (ze_k aa).2.2.1.1 (ze_k (j:=j) aa).2.2.1.2.1 (ze_k aa).2.2.1.2.2 Z) Z Z ⟨rfl,rfl,trivial⟩ rfl rfl) (E Z (B.idxB un106 Z Z Z Z ah Z ah) ?_)
   first|refine EK 0 Z (B.ki Z Z Z Z Z) ?_|refine EK 1 Z (B.ki Z Z Z Z Z) ?_|refine EK 2 Z (B.ki Z Z Z Z Z) ?_
   refine E Z (B.jd (w101e (zPw j).2 zX (q6 (zPw j).2 zX) 84 48 82 ah ah ah (ze_k aa).2.2.2.1 (ze_k (j:=j) aa).2.2.2.2.1 (ze_k aa).2.2.2.2.2 Z) Z Z ⟨rfl,rfl,trivial⟩ rfl rfl) (C Z (w100 1 bg) Z Z Z (E Z (B.jd (w102e (q6 (zPw j).1 zY) (q6 (zPw j).2 zX) (zPw (j+1)).2 (Qn.ofZ (1) bg) 78 82 60 ah ah ah (ze_p (h1:=by unfold R64;omega) (h2:=by unfold R64;omega) aa).2 ze_s2) Z Z ⟨rfl,rfl,trivial⟩ rfl rfl) (E Z (B.run Z) (Dr Z ae (E Z (B.add Z Z ep) (pk Z (L2 (j+1) true ?_ ?_ (sb Z Z Z))))))))
   · omega
   · omega
  refine E Z (B.idxB un106 Z Z Z Z ah Z ah) ?_
  first|refine EK 0 Z (B.ki Z Z Z Z Z) ?_|refine EK 1 Z (B.ki Z Z Z Z Z) ?_|refine EK 2 Z (B.ki Z Z Z Z Z) ?_
  refine Cp Z Z (fun h4=>?_) (fun h4=>?_)
  ·refine E Z (B.idxB un106 Z Z Z Z ah Z ah) ?_
   first|refine EK 0 Z (B.ki Z Z Z Z Z) ?_|refine EK 1 Z (B.ki Z Z Z Z Z) ?_|refine EK 2 Z (B.ki Z Z Z Z Z) ?_
   exact E Z (B.jd (w103 hf n (max m (0-m)) 95 (ze_n ab ab)) Z Z trivial Z Z) (E Z (B.jd (w101e (radQ n (max m (0-m))) (zPw j).2 (q6 (radQ n (max m (0-m))) (zPw j).2) 95 84 97 ah ah ah (ze_f (j:=j) ab ab aa eu).1 (ze_f (j:=j) ab ab aa eu).2.1 (ze_f (j:=j) ab ab aa eu).2.2 Z) Z Z ⟨rfl,rfl,trivial⟩ rfl rfl) (E Z (B.jd (w104k hp (q6 (radQ n (max m (0-m))) (zPw j).2) 97 (ze_o (j:=j) ab ab aa eu)) Z Z ⟨rfl,trivial⟩ rfl rfl) (Rt Z (lL Z fg))))
  exact E Z (B.jd (w103 hf n (max m (0-m)) 95 (ze_n ab ab)) Z Z trivial Z Z) (E Z (B.jd (w101e (radQ n (max m (0-m))) (zPw j).1 (q6 (radQ n (max m (0-m))) (zPw j).1) 95 74 97 ah ah ah (ze_f (j:=j) ab ab aa eu).1 (ze_f (j:=j) ab ab aa eu).2.1 (ze_f (j:=j) ab ab aa eu).2.2 Z) Z Z ⟨rfl,rfl,trivial⟩ rfl rfl) (E Z (B.jd (w104k hp (q6 (radQ n (max m (0-m))) (zPw j).1) 97 (ze_o (j:=j) ab ab aa eu)) Z Z ⟨rfl,trivial⟩ rfl rfl) (Rt Z (lL Z fg))))
 refine Cp Z Z (fun h5=>?_) (fun h5=>?_)
 ·refine E Z (B.idxB un106 Z Z Z Z ah Z ah) ?_
  first|refine EK 0 Z (B.ki Z Z Z Z Z) ?_|refine EK 1 Z (B.ki Z Z Z Z Z) ?_|refine EK 2 Z (B.ki Z Z Z Z Z) ?_
  refine E Z (B.jd (w101e (zPw j).1 zX (q6 (zPw j).1 zX) 56 48 68 ah ah ah (ze_k aa).1.1 (ze_k (j:=j) aa).1.2.1 (ze_k aa).1.2.2 Z) Z Z ⟨rfl,rfl,trivial⟩ rfl rfl) (E Z (B.idxB un106 Z Z Z Z ah Z ah) ?_)
  first|refine EK 0 Z (B.ki Z Z Z Z Z) ?_|refine EK 1 Z (B.ki Z Z Z Z Z) ?_|refine EK 2 Z (B.ki Z Z Z Z Z) ?_
  refine E Z (B.jd (w101e (zPw j).2 zY (q6 (zPw j).2 zY) 60 52 72 ah ah ah (ze_k aa).2.1.1 (ze_k (j:=j) aa).2.1.2.1 (ze_k aa).2.1.2.2 Z) Z Z ⟨rfl,rfl,trivial⟩ rfl rfl) (C Z (w100 (-1) bg) Z Z Z (E Z (B.jd (w102e (q6 (zPw j).1 zX) (q6 (zPw j).2 zY) (zPw (j+1)).1 (Qn.ofZ ((-1)) bg) 68 72 74 ah ah ah (ze_p (h1:=by unfold R64;omega) (h2:=by unfold R64;omega) aa).1 ze_s1) Z Z ⟨rfl,rfl,trivial⟩ rfl rfl) (E Z (B.idxB un106 Z Z Z Z ah Z ah) ?_)))
  first|refine EK 0 Z (B.ki Z Z Z Z Z) ?_|refine EK 1 Z (B.ki Z Z Z Z Z) ?_|refine EK 2 Z (B.ki Z Z Z Z Z) ?_
  refine E Z (B.jd (w101e (zPw j).1 zY (q6 (zPw j).1 zY) 56 52 78 ah ah ah (ze_k aa).2.2.1.1 (ze_k (j:=j) aa).2.2.1.2.1 (ze_k aa).2.2.1.2.2 Z) Z Z ⟨rfl,rfl,trivial⟩ rfl rfl) (E Z (B.idxB un106 Z Z Z Z ah Z ah) ?_)
  first|refine EK 0 Z (B.ki Z Z Z Z Z) ?_|refine EK 1 Z (B.ki Z Z Z Z Z) ?_|refine EK 2 Z (B.ki Z Z Z Z Z) ?_
  refine E Z (B.jd (w101e (zPw j).2 zX (q6 (zPw j).2 zX) 60 48 82 ah ah ah (ze_k aa).2.2.2.1 (ze_k (j:=j) aa).2.2.2.2.1 (ze_k aa).2.2.2.2.2 Z) Z Z ⟨rfl,rfl,trivial⟩ rfl rfl) (C Z (w100 1 bg) Z Z Z (E Z (B.jd (w102e (q6 (zPw j).1 zY) (q6 (zPw j).2 zX) (zPw (j+1)).2 (Qn.ofZ (1) bg) 78 82 84 ah ah ah (ze_p (h1:=by unfold R64;omega) (h2:=by unfold R64;omega) aa).2 ze_s2) Z Z ⟨rfl,rfl,trivial⟩ rfl rfl) (E Z (B.run Z) (Dr Z ae (E Z (B.add Z Z ep) (pk Z (L2 (j+1) false ?_ ?_ (sb Z Z Z))))))))
  · omega
  · omega
 refine E Z (B.idxB un106 Z Z Z Z ah Z ah) ?_
 first|refine EK 0 Z (B.ki Z Z Z Z Z) ?_|refine EK 1 Z (B.ki Z Z Z Z Z) ?_|refine EK 2 Z (B.ki Z Z Z Z Z) ?_
 refine Cp Z Z (fun h6=>?_) (fun h6=>?_)
 ·refine E Z (B.idxB un106 Z Z Z Z ah Z ah) ?_
  first|refine EK 0 Z (B.ki Z Z Z Z Z) ?_|refine EK 1 Z (B.ki Z Z Z Z Z) ?_|refine EK 2 Z (B.ki Z Z Z Z Z) ?_
  exact E Z (B.jd (w103 hf n (max m (0-m)) 95 (ze_n ab ab)) Z Z trivial Z Z) (E Z (B.jd (w101e (radQ n (max m (0-m))) (zPw j).2 (q6 (radQ n (max m (0-m))) (zPw j).2) 95 60 97 ah ah ah (ze_f (j:=j) ab ab aa eu).1 (ze_f (j:=j) ab ab aa eu).2.1 (ze_f (j:=j) ab ab aa eu).2.2 Z) Z Z ⟨rfl,rfl,trivial⟩ rfl rfl) (E Z (B.jd (w104k hp (q6 (radQ n (max m (0-m))) (zPw j).2) 97 (ze_o (j:=j) ab ab aa eu)) Z Z ⟨rfl,trivial⟩ rfl rfl) (Rt Z (lL Z fg))))
 exact E Z (B.jd (w103 hf n (max m (0-m)) 95 (ze_n ab ab)) Z Z trivial Z Z) (E Z (B.jd (w101e (radQ n (max m (0-m))) (zPw j).1 (q6 (radQ n (max m (0-m))) (zPw j).1) 95 56 97 ah ah ah (ze_f (j:=j) ab ab aa eu).1 (ze_f (j:=j) ab ab aa eu).2.1 (ze_f (j:=j) ab ab aa eu).2.2 Z) Z Z ⟨rfl,rfl,trivial⟩ rfl rfl) (E Z (B.jd (w104k hp (q6 (radQ n (max m (0-m))) (zPw j).1) 97 (ze_o (j:=j) ab ab aa eu)) Z Z ⟨rfl,trivial⟩ rfl rfl) (Rt Z (lL Z fg))))
instance:DecidableEq Trm:=fun x y=>decidable_of_iff (Trm.c x=Trm.c y/\Trm.i x=Trm.i y/\Trm.j x=Trm.j y) (by
 constructor
 ·rintro⟨h1,h2,h3⟩
  obtain⟨c,i,j⟩:=x
  obtain⟨c',i',j'⟩:=y
  simp only at h1 h2 h3
  subst h1 h2 h3
  rfl
 rintro rfl;exact⟨rfl,rfl,rfl⟩)
section
variable {α:Type} [DecidableEq α] {a b:List α} {z:α} {k:Nat} {x y:Trm}
theorem sr_1 (h:a.length≠b.length):false=decide (a=b):=(zk fun e=>h (by rw[e])).symm
theorem sr_2 (h:List.getD a k z≠List.getD b k z):false=decide (a=b):=(zk fun e=>h (by rw[e])).symm
theorem sr_3 (hl:a.length=b.length) (hI:∀ i,i<k->List.getD a i z=List.getD b i z) (hk:a.length<=k):true=decide (a=b):=by
 refine (zl ?_).symm
 refine List.ext_getElem hl fun i h1 h2=>?_
 have:=hI i aa
 simpa [ze,zm h1,zm h2] using this
theorem sr_n (hI:∀ i,i<k->List.getD a i z=List.getD b i z) (h:List.getD a k z=List.getD b k z):∀ i,i<k+1->List.getD a i z=List.getD b i z:=fun i hi=>by
 by_cases e:i=k
 ·rw[e];exact h
 exact hI i aa
theorem sr_t (h:(!(decide (Trm.c x=Trm.c y)&&(decide (Trm.i x=Trm.i y)&&decide (Trm.j x=Trm.j y))))=false):x=y:=by
 simp only[Bool.not_eq_false',zj,zf] at h
 obtain⟨h1,h2,h3⟩:=h
 obtain⟨c,i,j⟩:=x
 obtain⟨c',i',j'⟩:=y
 simp only at h1 h2 h3
 subst h1 h2 h3
 rfl
theorem sr_f (h:(!(decide (Trm.c x=Trm.c y)&&(decide (Trm.i x=Trm.i y)&&decide (Trm.j x=Trm.j y))))=true):x≠y:=by
 intro e
 subst e
 simp at h
end
theorem in64:tab.info? 64=some ty64.info:=ae
theorem w57 (a b:List Nb) (hla:a.length<=1000000) (hlb:b.length<=1000000):CKa 12 [vL eN a,vL eN b] (vB (decide (a=b))):=by
 refine cG qf12 Z (nB Z) Z (E Z (B.jp Z un22) (E Z (B.jp Z un22) (Cp Z Z (fun h1=>?_) (fun h1=>?_))))
 ·exact Rt Z (lF Z (lb fh))
 refine l1 (fun (k:Nat)=>[(0,vL eN a),(1,vL eN b),(5,vI (k:Int))]) (fun _=>[]) (fun k=>k<=a.length/\a.length=b.length/\∀ i,i<k->List.getD a i []=List.getD b i []) (fun k=>a.length-k) 0 Z ?_ (sb Z Z Z) ?_
 · exact⟨zt _,aa,fun i hi=>aa⟩
 intro k hI0
 refine E Z (B.jp Z un22) (Cp Z Z (fun h2=>?_) (fun h2=>?_))
 ·refine E Z (B.idx (z:=[]) Z Z un22 sz25 (fun _=>rfl) Z aa) (E Z (B.idx (z:=[]) Z Z un22 sz25 (fun _=>rfl) Z aa) (E Z (B.sneB Z Z) (Dr Z ae (Cp Z Z (fun h3=>?_) (fun h3=>?_)))))
  ·exact Rt Z (lF Z (lb fh))
  refine E Z (B.add Z Z bg) (pk Z (L1 (k+1) ?_ ?_ (sb Z Z Z)))
  · exact⟨aa,hI0.2.1,sr_n hI0.2.2 (by first|exact zi.1 ab|exact sr_t ab)⟩
  · omega
 exact Rt Z (lF Z (lb fh))
theorem w70t (i:Nat) (h:i<=100):CKa 39 [vI (i:Int)] (vS (bsO (txt ((i:Nat):Rat)))):=by
 have:=w70 (i:Int) bg
 rwa [itoa_txt] at this
abbrev eQt (q:Rat):List PV:=[pS (bsO (txt q))]
def lgF (e:Int) (l:List Rat):Int:=l.foldl (fun b q=>if b=0 then lgE q else b) e
section
variable {o l:List Rat} {k:Nat} {e b:Int}
theorem lgf_s (hk:k<l.length):lgF e (l.take (k+1))=if lgF e (l.take k)=0 then lgE (l.getD k 0) else lgF e (l.take k):=by
 unfold lgF
 rw[List.take_succ_eq_append_getElem hk,List.foldl_append,ze,zm hk];rfl
theorem lgf_1 (h:b=lgF e (l.take k)) (hk:k<l.length) (h0:b=0):lgE (l.getD k 0)=lgF e (l.take (k+1)):=by rw[lgf_s hk,<-h,if_pos h0]
theorem lgf_2 (h:b=lgF e (l.take k)) (hk:k<l.length) (h0:¬b=0):b=lgF e (l.take (k+1)):=by rw[lgf_s hk,<-h,if_neg h0]
end
theorem lgF_0:∀ {l:List Rat} {b:Int},lgF b l=if b=0 then (bif l.any jl then 4 else 0) else b
 | [],b=>by unfold lgF;simp only[List.foldl_nil,List.any_nil,cond_false];split<;>simp_all
 | a::l,b=>by
  have ih:= @lgF_0 l
  have e:lgF b (a::l)=lgF (if b=0 then lgE a else b) l:=rfl
  rw[e,ih,List.any_cons]
  unfold lgE
  by_cases h:b=0
  ·rw[if_pos h,if_pos h]
   cases jl a
   ·simp
   simp
  rw[if_neg h,if_neg h,if_neg h]
theorem w44 (e:Int) (l:List Rat) (hl:l.length<=1000000) (hl2:∀ q∈l,(txt q).length<=900000):CKa 11 [vI e,vL eQt l] (vI (lgF e l)):=by
 refine cL 10 [] qf11 Z (nB Z) Z Z (kc (E Z (B.jp Z un22) (l2 (fun (k:Nat) (b:Int)=>[(0,vI b),(7,vL eQt l),(8,vI (l.length:Int)),(9,vI (k:Int))]) (fun _ _=>[]) (fun k b=>k<=l.length/\b=lgF e (List.take k l)) (fun k _=>l.length-k) 0 e Z ?_ (sb Z Z Z) ?_)))
 · exact⟨zt _,rfl⟩
 intro k b hI0
 refine Cp Z Z (fun h1=>?_) (fun h1=>?_)
 ·refine E Z (B.idx (z:=0) Z Z un22 sz25 (fun _=>rfl) Z aa) (Cp Z Z (fun h2=>?_) (fun h2=>?_))
  ·refine C Z (w141 (l.getD k 0) (hl2 _ (kj aa))) Z Z Z (E Z (B.add Z Z bg) (pk Z (L2 (k+1) (lgE (l.getD k 0)) ?_ ?_ (sb Z Z Z))))
   · first|exact⟨aa,lgf_1 hI0.2 aa ab⟩|exact⟨aa,lgf_2 hI0.2 aa ab⟩
   · omega
  refine E Z (B.add Z Z bg) (pk Z (L2 (k+1) b ?_ ?_ (sb Z Z Z)))
  · first|exact⟨aa,lgf_1 hI0.2 aa ab⟩|exact⟨aa,lgf_2 hI0.2 aa ab⟩
  · omega
 exact Rt Z (lL Z (by exact li (by rw[hI0.2,zz aa])))
end Go.Lens.Tb
end
section
namespace Go.Lens.Tb
open Go.Proofs Go.Lens.Un
variable [Lz] [Dn]
attribute [local irreducible] TK PK T RG EfR Body CG
open Un.R
def dgB (s:Nb):Bool:=s.all fun c=>decide (48<=c.toNat)&&decide (c.toNat<=57)
section
variable {s D:Nb} {i:Nat} {b:Bool} {C0:Int}
theorem dgb_iff:dgB s=true↔Dgs s:=by
 unfold dgB Dgs
 grind
theorem dgb_s (hi:i<s.length):dgB (List.drop i s)=(decide (48<=byteAt (bsO s) i)&&decide (byteAt (bsO s) i<=57)&&dgB (List.drop (i+1) s)):=by grind [List.drop_eq_getElem_cons,by_at,dgB]
theorem dgb_n (e:dgB s=dgB (List.drop i s)) (hi:i<s.length) (h:(bif decide (byteAt (bsO s) i<48) then true else decide (57<byteAt (bsO s) i))=false):dgB s=dgB (List.drop (i+1) s):=by grind [dgb_s,decide_eq_true]
theorem dgb_f (e:dgB s=dgB (List.drop i s)) (hi:i<s.length) (h:(bif decide (byteAt (bsO s) i<48) then true else decide (57<byteAt (bsO s) i))=true):false=dgB s:=by
 rw[e,dgb_s hi]
 grind
theorem dgb_e (e:dgB s=dgB (List.drop i s)) (hi:s.length<=i):true=dgB s:=by rw[e,zV hi];rfl
theorem cano_d:kA s=(decide (s≠[])&&dgB s&&(decide (s.head?≠some 48)||decide (s=[48]))):=by
 unfold kA
 rw[show decide (Lib.trimS s Zl=[])=dgB s from zL.2 (by rw[zf,trim_nil,dgb_iff])]
theorem df_1 (h:(bif decide (((s.length:Nat):Int)=0) then true else bif decide (1<(s.length:Int)) then decide (byteAt (bsO s) 0=48) else false)=true):false=kA s:=by
 symm
 cases hc:kA s with
 | false=>rfl
 | true=>
  have hc:=canoB_iff.1 hc
  cases s with
  | nil=>exact absurd Z hc.2.1
  | cons c l=>
   have e1:decide ((((c::l).length:Nat):Int)=0)=false:=zk dc
   rw[e1,cond_false] at h
   obtain⟨h1,h2⟩:=qk_two h
   have h1:=of_decide_eq_true h1
   have h2:=of_decide_eq_true h2
   rw[by_at (show 0<(c::l).length by simp)] at h2
   have e:c=48:=UInt8.toNat_inj.1 (show c.toNat=48 by simp only[List.getElem_cons_zero] at h2;omega)
   have:=hc.2.2 (by rw[e];rfl)
   omega
theorem df_2 (h:(bif decide (((s.length:Nat):Int)=0) then true else bif decide (1<(s.length:Int)) then decide (byteAt (bsO s) 0=48) else false)=false):dgB s=kA s:=by
 rw[cano_d]
 cases s with
 | nil=>cases h
 | cons c l=>
  have e1:decide ((((c::l).length:Nat):Int)=0)=false:=zk dc
  rw[e1,cond_false] at h
  have e2:(decide ((c::l).head?≠some 48)||decide (c::l=[48]))=true:=by
   by_cases hc:c=48
   ·cases l with
    | nil=>rw[hc];rfl
    | cons d l=>
     rw[hc,by_at (show 0<((48:UInt8)::d::l).length by simp),zl (show (1:Int)<_ by simp only[zb];omega)] at h
     simp only[List.getElem_cons_zero] at h
     cases h
   grind
  grind
theorem dgs_t (h:Dgs s):qI s [45]=s:=by unfold qI;rw[hp_dg h];rfl
theorem w217d (s:Nb) (h:Dgs s) (hl:s.length<=900000):CKa 177 [vS (bsO s)] (.pv (.agg [pB (decide ((((jw s):Nat):Int)<0)),pL eI (iL (dig K9 (Int.natAbs (((jw s):Nat):Int))))])):=by
 have g:=w217 s (by rw[dgs_t h];exact h) hl
 have e:rdZ s=((jw s:Nat):Int):=by unfold rdZ;rw[dgs_t h,hp_dg h];rfl
 rwa [e] at g
theorem cut_sl (D:Nb):q8 D=(D.take (slN D),D.drop (slN D+1),decide (slN D<D.length)):=by
 by_cases h:(47:UInt8)∈D
 ·obtain⟨a,t,e,ha⟩:=List.eq_append_cons_of_mem h
  have ha:∀ x∈a,x≠47:=fun x hx e=>ha (e▸hx)
  rw[e,cut_at ha,sl_at ha,List.take_left,<-List.drop_drop,List.drop_left,zl ao];rfl
 grind [cut_no,sl_no,List.take_length,List.drop_eq_nil_of_le,decide_eq_false]
end
section
variable {s D X:Nb} {i n:Nat} {b:Bool} {C0:Int}
theorem gk_t (hD:D=qI s [45]) (h:(bif decide (0<(s.length:Int)) then decide (byteAt (bsO s) 0=45) else false)=true):List.drop 1 s=D:=(pr_t h).symm.trans hD.symm
theorem gk_f (hD:D=qI s [45]) (h:(bif decide (0<(s.length:Int)) then decide (byteAt (bsO s) 0=45) else false)=false):s=D:=(pr_f h).symm.trans hD.symm
theorem gk_0 (h:kA (D.take (slN D))=true):0<D.length:=by
 have:=(canoB_iff.1 h).2.1
 grind
theorem gk_xt (h:(bif decide (0<(s.length:Int)) then decide (byteAt (bsO s) 0=45) else false)=true):kA (D.take (slN D))=true->decide (byteAt (bsO s) 0=45)=true:=fun _=>(qk_two h).2
theorem gk_xf (hD:D=qI s [45]) (h:(bif decide (0<(s.length:Int)) then decide (byteAt (bsO s) 0=45) else false)=false):kA (D.take (slN D))=true->decide (byteAt (bsO D) 0=45)=false:=fun hc=>by
 have:=gk_0 hc
 rw[gk_f hD h,zl (show (0:Int)<_ by omega)] at h
 exact h
theorem gk_F1 (hx:kA (D.take (slN D))=true->decide (byteAt (bsO X) 0=45)=b) (h:(bif !kA (D.take (slN D)) then true else bif decide (byteAt (bsO X) 0=45) then decide (D.take (slN D)=[48]) else false)=false):Dgs (D.take (slN D))/\kA (D.take (slN D))=true/\(!b||decide (D.take (slN D)≠[48]))=true:=by
 cases hc:kA (D.take (slN D)) with
 | false=>rw[hc] at h;cases h
 | true=>
  rw[hc,hx hc] at h
  refine⟨(canoB_iff.1 hc).1,rfl,?_⟩
  grind
theorem gk_F2 (h:(bif decide (((slN D:Nat):Int)<(D.length:Int)) then bif bif !kA (D.drop (slN D+1)) then true else decide (D.drop (slN D+1)=[48]) then true else decide (D.drop (slN D+1)=[49]) else false)=false) (hl:slN D<D.length):Dgs (D.drop (slN D+1))/\kA (D.drop (slN D+1))=true/\D.drop (slN D+1)≠[48]/\D.drop (slN D+1)≠[49]:=by
 rw[zl (show ((slN D:Nat):Int)<(D.length:Int) by omega)] at h
 cases hc:kA (D.drop (slN D+1)) with
 | false=>rw[hc] at h;cases h
 | true=>
  rw[hc] at h
  have h:=dc_no h
  exact⟨(canoB_iff.1 hc).1,rfl,h.1,h.2⟩
theorem gk_ff (hD:D=qI s [45]) (hb:ko s [45]=b):ke s=((kA (D.take (slN D))&&(!b||decide (D.take (slN D)≠[48])))&&(!decide (slN D<D.length)||(kA (D.drop (slN D+1))&&decide (D.drop (slN D+1)≠[48])&&decide (D.drop (slN D+1)≠[49])))):=by
 unfold ke
 rw[<-hD,cut_sl,hb]
theorem gk_ft (hD:D=qI s [45]) (hb:ko s [45]=b) (F1:Dgs (D.take (slN D))/\kA (D.take (slN D))=true/\(!b||decide (D.take (slN D)≠[48]))=true) (F2:slN D<D.length->Dgs (D.drop (slN D+1))/\kA (D.drop (slN D+1))=true/\D.drop (slN D+1)≠[48]/\D.drop (slN D+1)≠[49]):ke s=true:=by
 rw[gk_ff hD hb,F1.2.1,F1.2.2]
 grind
theorem jF (hD:D=qI s [45]) (hsl:slN D<=D.length) (B:Bool) (h:(bif decide (600<((slN D:Nat):Int)) then true else decide (600<(D.length:Int)-((slN D:Nat):Int)-1))=B):ZQ s=B:=by grind [ZQ,cut_sl,bif_or2,List.length_take,List.length_drop]
theorem ch_1 (hE:C0=jA s) (h:ke s=false):1=C0:=by rw[hE,jA,if_pos h]
theorem gk_A (hE:C0=jA s) (hD:D=qI s [45]) (hb:ko s [45]=b) (hx:kA (D.take (slN D))=true->decide (byteAt (bsO X) 0=45)=b) (h:(bif !kA (D.take (slN D)) then true else bif decide (byteAt (bsO X) 0=45) then decide (D.take (slN D)=[48]) else false)=true):1=C0:=by
 refine ch_1 hE ?_
 rw[gk_ff hD hb]
 grind
theorem gk_B (hE:C0=jA s) (hD:D=qI s [45]) (hb:ko s [45]=b) (h:(bif decide (((slN D:Nat):Int)<(D.length:Int)) then bif bif !kA (D.drop (slN D+1)) then true else decide (D.drop (slN D+1)=[48]) then true else decide (D.drop (slN D+1)=[49]) else false)=true):1=C0:=by
 refine ch_1 hE ?_
 obtain⟨h1,h2⟩:=qk_two h
 have h1:=of_decide_eq_true h1
 rw[gk_ff hD hb,zl (show slN D<D.length by omega)]
 grind
theorem gk_C (hE:C0=jA s) (hf:ke s=true) (hl:ZQ s=true):4=C0:=by rw[hE,jA,if_neg (by rw[hf];decide),if_pos hl]
theorem ch_3 (hE:C0=jA s) (hD:D=qI s [45]) (hf:ke s=true) (hl:ZQ s=false):C0=if (decide (slN D<D.length)&&decide (Nat.gcd (jw (D.take (slN D))) (jw (D.drop (slN D+1)))≠1))=true then 1 else 0:=by rw[hE,jA,if_neg (by rw[hf];decide),if_neg (by rw[hl];decide),<-hD,cut_sl]
theorem gk_1 (h1:(iL (dig K9 n)).length=1) (h2:(iL (dig K9 n)).getD 0 0=1):n=1:=by
 have e:=qR (show 2<=K9 by decide) n
 unfold iL at h1 h2
 generalize dig K9 n=l at*
 match l,h1,h2,e with
 | [x],_,h2,e=>
  have:x=1:=Int.ofNat.inj h2
  rw[<-e,this];rfl
theorem gk_D (hE:C0=jA s) (hD:D=qI s [45]) (hf:ke s=true) (hl:ZQ s=false) (h5:((slN D:Nat):Int)<(D.length:Int)) (h:(bif decide ((((iL (dig K9 (Nat.gcd (jw (D.take (slN D))) (jw (D.drop (slN D+1)))))).length:Nat):Int)≠1) then true else decide ((iL (dig K9 (Nat.gcd (jw (D.take (slN D))) (jw (D.drop (slN D+1)))))).getD 0 0≠1))=true):1=C0:=by
 rw[ch_3 hE hD hf hl,if_pos]
 rw[zl (show slN D<D.length by omega),Bool.true_and]
 refine zl fun e=>?_
 rw[e] at h
 rw[j9 ah ah ah] at h
 exact absurd h ah
theorem gk_E (hE:C0=jA s) (hD:D=qI s [45]) (hf:ke s=true) (hl:ZQ s=false) (h:(bif decide ((((iL (dig K9 (Nat.gcd (jw (D.take (slN D))) (jw (D.drop (slN D+1)))))).length:Nat):Int)≠1) then true else decide ((iL (dig K9 (Nat.gcd (jw (D.take (slN D))) (jw (D.drop (slN D+1)))))).getD 0 0≠1))=false):0=C0:=by
 obtain⟨h1,h2⟩:=dc_no h
 have g:=gk_1 aa (zi.1 h2)
 rw[ch_3 hE hD hf hl,if_neg]
 grind
theorem gk_G (hE:C0=jA s) (hD:D=qI s [45]) (hf:ke s=true) (hl:ZQ s=false) (h5:¬((slN D:Nat):Int)<(D.length:Int)):0=C0:=by rw[ch_3 hE hD hf hl,zk (show ¬slN D<D.length by omega),if_neg ao]
theorem gk_l {t:Nb} (h:Dgs t) (hl:t.length<=10000):(dig K9 (Int.natAbs ((jw t:Nat):Int))).length<=100000:=by
 have h1:=kK h
 have h2:10 ^ t.length<=K9 ^ t.length:=Nat.pow_le_pow_left ah _
 have:=ji (show 2<=K9 by decide) (Nat.lt_of_lt_of_le h1 h2)
 rw[Int.natAbs_natCast];omega
theorem gk_g (h:(decide ((((iL (dig K9 n)).length:Nat):Int)≠1)==false)=true):0<(iL (dig K9 n)).length:=by grind
theorem gk_n (h:((!kA (D.take (slN D)))==false)=true):0<D.length:=gk_0 (by revert h;cases kA (D.take (slN D))<;>decide)
end
theorem w249 (s:Nb) (hl:s.length<=1000000000):CKa 217 [vS (bsO s)] (vB (dgB s)):=by
 refine cG qf217 Z (nB Z) Z (l1 (fun (i:Nat)=>[(0,vS (bsO s)),(3,vI (i:Int))]) (fun _=>[]) (fun i=>i<=s.length/\dgB s=dgB (List.drop i s)) (fun i=>s.length-i) 0 Z ?_ (sb Z Z Z) ?_)
 · exact⟨zt _,rfl⟩
 intro i hI0
 refine E Z (B.ZU Z un9) (Cp Z Z (fun h1=>?_) (fun h1=>?_))
 ·refine E Z (B.sidx Z Z un9 Z (show i<List.length s from aa)) ?_
  refine Em Z Z Z Z ?_
  refine Em Z Z Z Z ?_
  refine Eg Z Z (fun hc=>B.sidx (qz Z hc) (qz Z hc) un9 Z (show i<List.length s from aa)) Z (Eg Z Z (fun hc=>B.gtr (qz Z hc) Z) Z (E Z (B.pO Z Z Z Z Z) (Cb Z Z (fun h2=>?_) (fun h2=>?_))))
  ·exact Rt Z (lF Z ez)
  refine E Z (B.add Z Z bg) (pk Z (L1 (i+1) ?_ ?_ (sb Z Z Z)))
  · exact⟨aa,dgb_n hI0.2 aa ab⟩
  · omega
 exact Rt Z (lF Z ez)
theorem w194 (s:Nb) (hl:s.length<=1000000000):CKa 173 [vS (bsO s)] (vB (kA s)):=by
 refine cG qf173 Z (nB Z) Z (E Z (B.ZU Z un9) ?_)
 refine Em Z Z Z Z ?_
 refine Eg Z Z (fun hc=>B.ZU (qz Z hc) un9) Z (Eg Z Z (fun hc=>B.gtr (qz Z hc) Z) Z (Eg Z Z (fun hc=>B.move (qz Z hc)) Z ?_))
 refine Em Z Z Z Z ?_
 refine Eg Z Z (fun hc=>B.sidx (qz Z hc) Z un9 Z (show 0<List.length s from (by have hc2:=hc;simp at hc2;omega))) Z (Eg Z Z (fun hc=>B.eql (qz Z hc) Z) Z (Eg Z Z (fun hc=>B.pick (qz Z hc) Z Z (gdB Z) Z (pick_and2 hc)) Z (E Z (B.pO Z Z Z Z Z) (Cb Z Z (fun h1=>?_) (fun h1=>?_)))))
 ·exact Rt Z (lF Z e8)
 exact C Z (w249 s hl) Z Z Z (Rt Z (lF Z e8))
theorem w158g (D:Nb) (hd1:Dgs (List.take (slN D) D)) (hd2:Dgs (List.drop (slN D+1) D)) (hs:slN D<D.length) (hl:D.length<=10000):CKa 130 [vS (bsO D)] (.tup [.pv (.agg [pB (decide (((jw (List.take (slN D) D):Nat):Int)<0)),pL eI (iL (dig K9 (Int.natAbs ((jw (List.take (slN D) D):Nat):Int))))]),.pv (.agg [pB (decide (((jw (List.drop (slN D+1) D):Nat):Int)<0)),pL eI (iL (dig K9 (Int.natAbs ((jw (List.drop (slN D+1) D):Nat):Int))))])]):=by
 refine cG qf130 Z (nB Z) Z (E Z (B.bN Z Z) (E Z (B.bN Z Z) (C Z (w193 D aa) Z Z Z (E Z (B.ZU Z un9) (Cp Z Z (fun h1=>?_) (fun h1=>?_))))))
 ·exact absurd h1 aa
 exact E Z (B.slHB Z Z un9 Z aa) (C Z (w217d (List.take (slN D) D) hd1 cZ) Z Z Z (E Z (B.add Z Z bg) (E Z (B.slLB (i:=((slN D)+1)) Z Z un9 aa aa) (C Z (w217d (List.drop ((slN D)+1) D) hd2 dg) Z Z Z (Dr Z ae (Rt Z (lF Z (by first|rfl|rw[hE]))))))))
theorem w120 (s:Nb) (hl:s.length<=10000):CKa 127 [vS (bsO s)] (vI (jA s)):=by
 refine cG qf127 Z (nB Z) Z ?_
 refine tk 2 Z ?_
 refine tn ⟨[(0,vS (bsO s)),(3,vS (bsO s))],[]⟩ rfl rfl Z ?_
 obtain⟨C0,hE⟩:∃ C0,C0=jA s:=⟨_,rfl⟩
 rw[<-hE]
 obtain⟨D,hD⟩:∃ D,D=qI s [45]:=⟨_,rfl⟩
 have hsl:=slN_le D
 have hDl:D.length<=s.length:=by rw[hD];exact trimP_len s [45]
 refine kc (E Z (B.ZU Z un9) ?_)
 refine Em Z Z Z Z ?_
 refine Eg Z Z (fun hc=>B.sidx (qz Z hc) Z un9 Z (show 0<List.length s from eA)) Z (Eg Z Z (fun hc=>B.eql (qz Z hc) Z) Z (E Z (B.pA Z Z Z Z Z) (Cb Z Z (fun h1=>?_) (fun h1=>?_))))
 ·refine E Z (B.slLB Z Z un9 Z eA) ?_
  refine tk 4 Z ?_
  refine tn ⟨[(0,vS (bsO s)),(3,vS (bsO (List.drop 1 s)))],[]⟩ rfl rfl Z ?_
  have hb:ko s [45]=true:=pr_h.symm.trans h1
  have hx:=gk_xt (D:=D) h1
  have h0:=pr_g h1
  rw[gk_t hD h1]
  refine kc (C Z (w193 D aa) Z Z Z (E Z (B.slHB Z Z un9 Z eA) (C Z (w194 (List.take (slN D) D) cZ) Z Z Z ?_)))
  refine Em Z Z Z Z ?_
  refine Eg Z Z (fun hc=>B.sidx (qz Z hc) Z un25 Z (show 0<List.length s from eA)) Z (Eg Z Z (fun hc=>B.eql (qz Z hc) Z) Z (Eg Z Z (fun hc=>B.move (qz Z hc)) Z ?_))
  refine Em Z Z Z Z ?_
  refine Em Z Z Z Z ?_
  refine Eg Z Z (fun hc=>B.slHB (qz Z hc) (qz Z hc) un9 Z eA) Z (Eg Z Z (fun hc=>B.seqB (qz Z hc) Z) Z (Eg Z Z (fun hc=>B.pick (qz Z hc) Z Z (gdB Z) Z (pick_and2 hc)) Z (E Z (B.pO Z Z Z Z Z) (Cb Z Z (fun h2=>?_) (fun h2=>?_)))))
  ·exact Rt Z (lF Z eC)
  have F1:=gk_F1 hx ab
  refine E Z (B.ZU Z un9) ?_
  refine Em Z Z Z Z ?_
  refine Em Z Z Z Z ?_
  refine Eg Z Z (fun hc=>B.add (qz Z hc) Z bg) Z (Eg Z Z (fun hc=>B.slLB (i:=((slN D)+1)) (qz Z hc) (qz Z hc) un9 aa eA) Z (Eg Z Z (fun hc=>B.call (w194 (List.drop ((slN D)+1) D) dg) Z (ds1 (qz Z hc)) Z) Z (Eg Z Z (fun hc=>B.not (qz Z hc)) Z (Eg Z Z (fun hc=>B.move (qz Z hc)) Z ?_))))
  refine Em Z Z Z Z ?_
  refine Em Z Z Z Z ?_
  refine Eg Z Z (fun hc=>B.add (qz Z hc) Z bg) Z (Eg Z Z (fun hc=>B.slLB (i:=((slN D)+1)) (qz Z hc) (qz Z hc) un9 aa eA) Z (Eg Z Z (fun hc=>B.seqB (qz Z hc) Z) Z (Eg Z Z (fun hc=>B.pick (qz Z hc) Z Z Z (gdB Z) (pick_or2 hc)) Z (Eg Z Z (fun hc=>B.move (qz Z hc)) Z ?_))))
  refine Em Z Z Z Z ?_
  refine Em Z Z Z Z ?_
  refine Eg Z Z (fun hc=>B.add (qz Z hc) Z bg) Z (Eg Z Z (fun hc=>B.slLB (i:=((slN D)+1)) (qz Z hc) (qz Z hc) un9 aa eA) Z (Eg Z Z (fun hc=>B.seqB (qz Z hc) Z) Z (Eg Z Z (fun hc=>B.pick (qz Z hc) Z Z Z (gdB Z) (pick_or2 hc)) Z (E Z (B.pA Z Z Z Z Z) (Cb Z Z (fun h3=>?_) (fun h3=>?_))))))
  ·exact Rt Z (lF Z eC)
  have F2:=gk_F2 ab
  have hf:=gk_ft hD hb F1 F2
  refine Em Z Z Z Z ?_
  refine Eg Z Z (fun hc=>B.ZU (qz Z hc) un9) Z ?_
  refine Em Z Z Z Z ?_
  refine Eg Z Z (fun hc=>B.sub (qz Z hc) (qz Z hc) bg) Z (Eg Z Z (fun hc=>B.sub (qz Z hc) Z bg) Z (Eg Z Z (fun hc=>B.gtr (qz Z hc) Z) Z (E Z (B.pO Z Z Z Z Z) (Cb Z Z (fun h4=>?_) (fun h4=>?_)))))
  ·exact Rt Z (lF Z eC)
  refine E Z (B.ZU Z un9) (Cp Z Z (fun h5=>?_) (fun h5=>?_))
  ·refine C Z (w158g D F1.1 (F2 aa).1 aa aa) Z Z Z (E Z (B.bN Z Z) (E Z (B.bN Z Z) (C Z (w195 (Int.natAbs ((jw (List.take (slN D) D):Nat):Int)) (Int.natAbs ((jw (List.drop (slN D+1) D):Nat):Int)) (gk_l F1.1 cZ) (gk_l (F2 aa).1 dg)) Z Z Z (E Z (B.jp Z qY) ?_))))
   refine Em Z Z Z Z ?_
   refine Eg Z Z (fun hc=>B.idx (z:=0) (qz Z hc) Z qY sz3 (fun _=>rfl) Z eA) Z (Eg Z Z (fun hc=>B.loadP (qz Z hc) ag3 sz3) Z (Eg Z Z (fun hc=>B.neq (qz Z hc) Z) Z (E Z (B.pO Z Z Z Z Z) (Cb Z Z (fun h6=>?_) (fun h6=>?_)))))
   ·exact Rt Z (lF Z eC)
   exact Rt Z (lF Z eC)
  exact Rt Z (lF Z eC)
 refine tk 4 Z ?_
 refine tn ⟨[(0,vS (bsO s)),(3,vS (bsO s))],[]⟩ rfl rfl Z ?_
 have hb:ko s [45]=false:=pr_h.symm.trans h1
 have hx:=gk_xf hD h1
 rw[gk_f hD h1]
 refine kc (C Z (w193 D aa) Z Z Z (E Z (B.slHB Z Z un9 Z eA) (C Z (w194 (List.take (slN D) D) cZ) Z Z Z ?_)))
 refine Em Z Z Z Z ?_
 refine Eg Z Z (fun hc=>B.sidx (qz Z hc) Z un25 Z (show 0<List.length D from eA)) Z (Eg Z Z (fun hc=>B.eql (qz Z hc) Z) Z (Eg Z Z (fun hc=>B.move (qz Z hc)) Z ?_))
 refine Em Z Z Z Z ?_
 refine Em Z Z Z Z ?_
 refine Eg Z Z (fun hc=>B.slHB (qz Z hc) (qz Z hc) un9 Z eA) Z (Eg Z Z (fun hc=>B.seqB (qz Z hc) Z) Z (Eg Z Z (fun hc=>B.pick (qz Z hc) Z Z (gdB Z) Z (pick_and2 hc)) Z (E Z (B.pO Z Z Z Z Z) (Cb Z Z (fun h7=>?_) (fun h7=>?_)))))
 ·exact Rt Z (lF Z eC)
 have F1:=gk_F1 hx ab
 refine E Z (B.ZU Z un9) ?_
 refine Em Z Z Z Z ?_
 refine Em Z Z Z Z ?_
 refine Eg Z Z (fun hc=>B.add (qz Z hc) Z bg) Z (Eg Z Z (fun hc=>B.slLB (i:=((slN D)+1)) (qz Z hc) (qz Z hc) un9 aa eA) Z (Eg Z Z (fun hc=>B.call (w194 (List.drop ((slN D)+1) D) dg) Z (ds1 (qz Z hc)) Z) Z (Eg Z Z (fun hc=>B.not (qz Z hc)) Z (Eg Z Z (fun hc=>B.move (qz Z hc)) Z ?_))))
 refine Em Z Z Z Z ?_
 refine Em Z Z Z Z ?_
 refine Eg Z Z (fun hc=>B.add (qz Z hc) Z bg) Z (Eg Z Z (fun hc=>B.slLB (i:=((slN D)+1)) (qz Z hc) (qz Z hc) un9 aa eA) Z (Eg Z Z (fun hc=>B.seqB (qz Z hc) Z) Z (Eg Z Z (fun hc=>B.pick (qz Z hc) Z Z Z (gdB Z) (pick_or2 hc)) Z (Eg Z Z (fun hc=>B.move (qz Z hc)) Z ?_))))
 refine Em Z Z Z Z ?_
 refine Em Z Z Z Z ?_
 refine Eg Z Z (fun hc=>B.add (qz Z hc) Z bg) Z (Eg Z Z (fun hc=>B.slLB (i:=((slN D)+1)) (qz Z hc) (qz Z hc) un9 aa eA) Z (Eg Z Z (fun hc=>B.seqB (qz Z hc) Z) Z (Eg Z Z (fun hc=>B.pick (qz Z hc) Z Z Z (gdB Z) (pick_or2 hc)) Z (E Z (B.pA Z Z Z Z Z) (Cb Z Z (fun h8=>?_) (fun h8=>?_))))))
 ·exact Rt Z (lF Z eC)
 have F2:=gk_F2 ab
 have hf:=gk_ft hD hb F1 F2
 refine Em Z Z Z Z ?_
 refine Eg Z Z (fun hc=>B.ZU (qz Z hc) un9) Z ?_
 refine Em Z Z Z Z ?_
 refine Eg Z Z (fun hc=>B.sub (qz Z hc) (qz Z hc) bg) Z (Eg Z Z (fun hc=>B.sub (qz Z hc) Z bg) Z (Eg Z Z (fun hc=>B.gtr (qz Z hc) Z) Z (E Z (B.pO Z Z Z Z Z) (Cb Z Z (fun h9=>?_) (fun h9=>?_)))))
 ·exact Rt Z (lF Z eC)
 refine E Z (B.ZU Z un9) (Cp Z Z (fun h10=>?_) (fun h10=>?_))
 ·refine C Z (w158g D F1.1 (F2 aa).1 aa aa) Z Z Z (E Z (B.bN Z Z) (E Z (B.bN Z Z) (C Z (w195 (Int.natAbs ((jw (List.take (slN D) D):Nat):Int)) (Int.natAbs ((jw (List.drop (slN D+1) D):Nat):Int)) (gk_l F1.1 cZ) (gk_l (F2 aa).1 dg)) Z Z Z (E Z (B.jp Z qY) ?_))))
  refine Em Z Z Z Z ?_
  refine Eg Z Z (fun hc=>B.idx (z:=0) (qz Z hc) Z qY sz3 (fun _=>rfl) Z eA) Z (Eg Z Z (fun hc=>B.loadP (qz Z hc) ag3 sz3) Z (Eg Z Z (fun hc=>B.neq (qz Z hc) Z) Z (E Z (B.pO Z Z Z Z Z) (Cb Z Z (fun h11=>?_) (fun h11=>?_)))))
  ·exact Rt Z (lF Z eC)
  exact Rt Z (lF Z eC)
 exact Rt Z (lF Z eC)
end Go.Lens.Tb
end
section
namespace Go.Lens.Tb
open Go.Proofs Go.Lens.Un
variable [Lz] [Dn]
attribute [local irreducible] TK PK T RG EfR Body CG
theorem w61 (l:List Nb) (hl:l.length<=1000000) (hs:∀ s∈l,s.length<=10000):CKa 84 [vL eN l] (vI (eachE jA l)):=by
 refine cG qf84 Z (nB Z) Z (l1 (fun (k:Nat)=>[(0,vL eN l),(3,vI (k:Int))]) (fun _=>[]) (fun k=>k<=l.length/\eachE jA l=eachE jA (List.drop k l)) (fun k=>l.length-k) 0 Z ?_ (sb Z Z Z) ?_)
 · exact⟨zt _,rfl⟩
 intro k hI0
 refine E Z (B.jp Z un22) (Cp Z Z (fun h1=>?_) (fun h1=>?_))
 ·refine E Z (B.idx (z:=[]) Z Z un22 sz25 (fun _=>rfl) Z aa) (C Z (w120 (l.getD k []) (hs _ (kj aa))) Z Z Z (Cp Z Z (fun h2=>?_) (fun h2=>?_)))
  ·exact Rt Z (lF Z eD)
  refine E Z (B.add Z Z bg) (pk Z (L1 (k+1) ?_ ?_ (sb Z Z Z)))
  · (exact⟨aa,by rw[hI0.2];exact ea_step aa ab⟩)
  · omega
 exact Rt Z (lF Z eD)
def shA (l:List Nb):Bool:=l.all fun s=>decide (s.length<=40)
def shV (l:List Nb) (n:Int):Bool:=!(decide (n<(l.length:Int))&&decide (((l.length:Nat):Int)≠257))&&shA l
section
variable {l:List Nb} {n:Int} {k:Nat}
theorem cv_1 (h:256<(l.length:Int)):5=chkV l:=by unfold chkV;rw[zl h];rfl
theorem cv_2 (h:¬256<(l.length:Int)):eachE jA l=chkV l:=by grind [chkV,decide_eq_false,qM,ju]
theorem chp_1 (h:(bif decide (chkV l=0) then decide (((l.length:Nat):Int)=0) else false)=true):12=ZT l:=by
 obtain⟨h1,h2⟩:=qk_two h
 unfold ZT;rw[of_decide_eq_true h1,h2];rfl
theorem chp_2 (h:(bif decide (chkV l=0) then decide (((l.length:Nat):Int)=0) else false)=false):chkV l=ZT l:=by
 unfold ZT
 by_cases h1:chkV l=0
 ·rw[h1] at h ⊢
  rw[show decide (((l.length:Nat):Int)=0)=false from h];rfl
 simp[qM,h1]
theorem sh_n (h:(bif decide (n<(l.length:Int)) then decide (((l.length:Nat):Int)≠257) else false)=true):false=shV l n:=by grind [shV]
theorem sh_0 (h:(bif decide (n<(l.length:Int)) then decide (((l.length:Nat):Int)≠257) else false)=false):shV l n=shA (List.drop 0 l):=by grind [shV]
theorem sh_s (hk:k<l.length) (h:¬40<(((l.getD k []).length:Nat):Int)):shA (l.drop k)=shA (l.drop (k+1)):=by rw[drop_at l k [] hk,shA,List.all_cons,zl aa];rfl
theorem sh_f (e:shV l n=shA (l.drop k)) (hk:k<l.length) (h:40<(((l.getD k []).length:Nat):Int)):false=shV l n:=by rw[e,drop_at l k [] hk,shA,List.all_cons,zk aa];rfl
theorem sh_e (e:shV l n=shA (l.drop k)) (hk:¬(k:Int)<(l.length:Int)):true=shV l n:=by rw[e,zV aa];rfl
end
theorem w93 (l:List Nb) (hl:l.length<=1000000) (hs:∀ s∈l,s.length<=10000):CKa 36 [vL eN l] (vI (chkV l)):=by
 refine cG qf36 Z (nB Z) Z (E Z (B.jp Z un22) (Cp Z Z (fun h1=>?_) (fun h1=>?_)))
 ·exact Rt Z (lF Z eE)
 exact C Z (w61 l hl hs) Z Z Z (Rt Z (lF Z eE))
theorem w54 (l:List Nb) (hl:l.length<=1000000) (hs:∀ s∈l,s.length<=10000):CKa 8 [vL eN l] (vI (ZT l)):=by
 refine cG qf8 Z (nB Z) Z (C Z (w93 l hl hs) Z Z Z ?_)
 refine Em Z Z Z Z ?_
 refine Eg Z Z (fun hc=>B.jp (qz Z hc) un22) Z (Eg Z Z (fun hc=>B.eql (qz Z hc) Z) Z (E Z (B.pA Z Z Z Z Z) (Cb Z Z (fun h1=>?_) (fun h1=>?_))))
 ·exact Rt Z (lF Z eH)
 exact Rt Z (lF Z eH)
theorem w51 (l:List Nb) (n:Int) (hl:l.length<=4611686018427387904):CKa 4 [vL eN l,vI n] (vB (shV l n)):=by
 refine cG qf4 Z (nB Z) Z (E Z (B.jp Z un22) ?_)
 refine Em Z Z Z Z ?_
 refine Eg Z Z (fun hc=>B.jp (qz Z hc) un22) Z (Eg Z Z (fun hc=>B.neq (qz Z hc) Z) Z (E Z (B.pA Z Z Z Z Z) (Cb Z Z (fun h1=>?_) (fun h1=>?_))))
 ·exact Rt Z (lF Z eJ)
 refine l1 (fun (k:Nat)=>[(0,vL eN l),(5,vI (k:Int))]) (fun _=>[]) (fun k=>k<=l.length/\shV l n=shA (List.drop k l)) (fun k=>l.length-k) 0 Z ?_ (sb Z Z Z) ?_
 · exact⟨zt _,sh_0 ab⟩
 intro k hI0
 refine E Z (B.jp Z un22) (Cp Z Z (fun h2=>?_) (fun h2=>?_))
 ·refine E Z (B.idx (z:=[]) Z Z un22 sz25 (fun _=>rfl) Z aa) (E Z (B.ZU Z un25) (Cp Z Z (fun h3=>?_) (fun h3=>?_)))
  ·exact Rt Z (lF Z eJ)
  refine E Z (B.add Z Z bg) (pk Z (L1 (k+1) ?_ ?_ (sb Z Z Z)))
  · (exact⟨aa,by rw[hI0.2];exact sh_s aa ab⟩)
  · omega
 exact Rt Z (lF Z eJ)
def dotL (a b:List Rat):Nat->Rat
 | 0=>0
 | k+1=>dotL a b k+a.getD k 0*b.getD k 0
def sumL (l:List Rat):Rat:=l.foldl (· +·) 0
section
variable {l:List Rat} {k:Nat} {s q r:Rat}
theorem su_z (hs:sz q+sz r<=1000000):sz q+sz (-r)<=1000000:=by rw[sz_neg];exact hs
theorem sum_s (h:s=sumL (l.take k)) (hk:k<l.length):s+l.getD k 0=sumL (l.take (k+1)):=by
 rw[h,sumL,sumL,List.take_succ_eq_append_getElem hk,List.foldl_append,ze,zm hk];rfl
theorem sum_e (h:s=sumL (l.take k)) (hk:l.length<=k):s=sumL l:=by rw[h,zz hk]
end
theorem w72 (q r:Rat) (hl:(txt r).length<=900000) (hs:sz q+sz r<=1000000):CKa 40 [vS (bsO (txt q)),vS (bsO (txt r))] (vS (bsO (txt (q-r)))):=by
 exact cG qf40 Z (nB Z) Z (C Z (w87 r hl) Z Z Z (C Z (w67 q (-r) (by first|exact su_z hs|exact hz _ aa)) Z Z Z (Rt Z (lF Z (by exact congrArg (fun a=>vS (bsO (txt a))) (Rat.sub_eq_add_neg ..).symm)))))
theorem w151 (l:List Rat) (hl:l.length<=1000000) (hz:∀ k,k<l.length->sz (sumL (List.take k l))+sz (l.getD k 0)<=1000000):CKa 38 [vL eQt l] (vS (bsO (txt (sumL l)))):=by
 refine cG qf38 Z (nB Z) Z (l2 (fun (k:Nat) (s:Rat)=>[(0,vL eQt l),(3,vS (bsO (txt s))),(4,vI (k:Int))]) (fun _ _=>[]) (fun k s=>k<=l.length/\s=sumL (List.take k l)) (fun k _=>l.length-k) 0 0 Z ?_ (sb ae Z Z) ?_)
 · exact⟨zt _,rfl⟩
 intro k s hI0
 refine E Z (B.jp Z un22) (Cp Z Z (fun h1=>?_) (fun h1=>?_))
 ·refine E Z (B.idx (z:=0) Z Z un22 sz25 (fun _=>rfl) Z aa) (C Z (w67 s (l.getD k 0) (by rw[hI0.2];exact hz k aa)) Z Z Z (E Z (B.add Z Z bg) (pk Z (L2 (k+1) (s+(l.getD k 0)) ?_ ?_ (sb Z Z Z)))))
  · exact⟨aa,sum_s hI0.2 aa⟩
  · omega
 exact Rt Z (lF Z (by exact congrArg (fun a=>vS (bsO (txt a))) (sum_e hI0.2 aa)))
theorem w147 (a b:List Rat) (ha:a.length<=1000000) (hb:b.length=a.length) (hm:∀ k,k<a.length->sz (a.getD k 0)+sz (b.getD k 0)<=1000000) (hz:∀ k,k<a.length->sz (dotL a b k)+sz (a.getD k 0*List.getD b k 0)<=1000000):CKa 41 [vL eQt a,vL eQt b] (vS (bsO (txt (dotL a b (a.length))))):=by
 refine cG qf41 Z (nB Z) Z (l2 (fun (k:Nat) (s:Rat)=>[(0,vL eQt a),(1,vL eQt b),(5,vS (bsO (txt s))),(6,vI (k:Int))]) (fun _ _=>[]) (fun k s=>k<=a.length/\s=dotL a b k) (fun k _=>a.length-k) 0 0 Z ?_ (sb ae Z Z) ?_)
 · exact⟨zt _,rfl⟩
 intro k s hI0
 refine E Z (B.jp Z un22) (Cp Z Z (fun h1=>?_) (fun h1=>?_))
 ·refine E Z (B.idx (z:=0) Z Z un22 sz25 (fun _=>rfl) Z aa) (E Z (B.idx (z:=0) Z Z un22 sz25 (fun _=>rfl) Z aa) (C Z (w69 (a.getD k 0) (b.getD k 0) (hm k aa)) Z Z Z (C Z (w67 s ((a.getD k 0)*(b.getD k 0)) (by rw[hI0.2];exact hz k aa)) Z Z Z (Dr Z ae (E Z (B.add Z Z bg) (pk Z (L2 (k+1) (s+((a.getD k 0)*(b.getD k 0))) ?_ ?_ (sb Z Z Z))))))))
  · (exact⟨aa,by rw[hI0.2];rfl⟩)
  · omega
 exact Rt Z (lF Z (by exact congrArg (fun a=>vS (bsO (txt a))) (hI0.2.trans (by rw[show k=List.length a by omega]))))
def kN (l:List Rat):Rat:=sumL l / ((l.length:Nat):Rat)
def kE (l:List Rat):List Rat:=l.map (fun q=>q-kN l)
def varL (l:List Rat):Rat:=dotL (kE l) (kE l) (kE l).length / (((kE l).length:Nat):Rat)
theorem flt_l (l:List Rat):(kE l).length=l.length:=zI ..
section
variable {l o:List Rat} {k:Nat} {m:Rat}
theorem fml_0 (h:0<l.length):((l.length:Nat):Rat)≠0:=fun e=>by
 have:=Rat.natCast_inj.1 (e.trans (show (0:Rat)=((0:Nat):Rat) from rfl))
 omega
theorem flt_s (h:o=(l.take k).map (fun q=>q-m)) (hk:k<l.length):o++[l.getD k 0-m]=(l.take (k+1)).map (fun q=>q-m):=by
 rw[h,List.take_succ_eq_append_getElem hk,qc,ze,zm hk];rfl
end
theorem w55 (l:List Rat) (hn:0<l.length) (hl:l.length<=100) (hz:∀ k,k<l.length->sz (sumL (List.take k l))+sz (l.getD k 0)<=1000000) (hd:sz (sumL l)+sz ((l.length:Nat):Rat)<=1000000) (ht:(txt (kN l)).length<=900000) (hs:∀ k,k<l.length->sz (l.getD k 0)+sz (kN l)<=1000000):CKa 9 [vL eQt l] (.tup [vL eQt (kE l),vS (bsO (txt (kN l)))]):=by
 refine cL 10 [] qf9 Z (nB Z) Z Z (kc (E Z (B.ZH (enc:=eQt) Z) (C Z (w151 l aa hz) Z Z Z (E Z (B.jp Z un22) (C Z (w70t (l.length) aa) Z Z Z (C Z (w106 (sumL l) ((l.length:Nat):Rat) (fml_0 hn) hd) Z Z Z (E Z (B.adopt 15 1 25 Z Z) (l2 (fun (k:Nat) (o:List Rat)=>[(0,vL eQt l),(4,vS (bsO (txt (kN l)))),(5,.aref 15 k),(6,vI (k:Int))]) (fun k o=>[(15,.arr k 1 25 (List.map eQt o))]) (fun k o=>k<=l.length/\o=List.map (fun q=>q-kN l) (List.take k l)) (fun k _=>l.length-k) 0 [] Z ?_ (sb Z Z Z) ?_))))))))
 · exact⟨zt _,rfl⟩
 intro k o hI0
 have hol:o.length=k:=by rw[hI0.2,zI,zn];omega
 refine E Z (B.jp Z un22) (Cp Z Z (fun h1=>?_) (fun h1=>?_))
 ·refine E Z (B.idx (z:=0) Z Z un22 sz25 (fun _=>rfl) Z cg) (C Z (w72 (l.getD k 0) (kN l) ht (hs k aa)) Z Z Z (E Z (B.runZ (val:=.pv (.slice (List.map eQt [((l.getD k 0)-kN l)]))) (m0:=[(36,.arr 0 1 25 [[pS (bsO (txt ((l.getD k 0)-kN l)))]])]) (rd:=[]) ae (fun l=>Frz.arr l _ _ _ _ _) Z) (E Z (B.append Z Z Z un22 in25 Z (fun _=>rfl) by25 cg) (E Z (B.add Z Z bg) (pk Z (L2 (k+1) (o++[((l.getD k 0)-kN l)]) ?_ ?_ (sb Z Z Z)))))))
  · exact⟨aa,flt_s hI0.2 aa⟩
  · omega
 exact Fz 7 5 Z Z Z (Rt Z (lL Z (by exact Zf (lsl (by rw[hI0.2,zz aa];rfl)) Z)))
theorem w56 (l:List Rat) (hn:0<l.length) (hl:l.length<=100) (hz:∀ k,k<l.length->sz (sumL (List.take k l))+sz (l.getD k 0)<=1000000) (hd:sz (sumL l)+sz ((l.length:Nat):Rat)<=1000000) (ht:(txt (kN l)).length<=900000) (hs:∀ k,k<l.length->sz (l.getD k 0)+sz (kN l)<=1000000) (hm:∀ k,k<(kE l).length->sz (List.getD (kE l) k 0)+sz (List.getD (kE l) k 0)<=1000000) (hq:∀ k,k<(kE l).length->sz (dotL (kE l) (kE l) k)+sz (List.getD (kE l) k 0*List.getD (kE l) k 0)<=1000000) (hv:sz (dotL (kE l) (kE l) ((kE l).length))+sz (((kE l).length:Nat):Rat)<=1000000):CKa 10 [vL eQt l] (vS (bsO (txt (varL l)))):=by
 exact cG qf10 Z (nB Z) Z (C Z (w55 l hn hl hz hd ht hs) Z Z Z (C Z (w147 (kE l) (kE l) (by rw[flt_l];omega) Z hm hq) Z Z Z (E Z (B.jp Z un22) (C Z (w70t ((kE l).length) (by rw[flt_l];omega)) Z Z Z (C Z (w106 (dotL (kE l) (kE l) ((kE l).length)) (((kE l).length:Nat):Rat) (fml_0 (by rw[flt_l];exact hn)) hv) Z Z Z (Rt Z (leaf Z Z)))))))
def qs (l:List Nb):List Rat:=l.map (fun s=>(jc s).q)
theorem qs_map:∀ (l:List Nb),(∀ s∈l,jA s=0)->(qs l).map eQt=l.map eN
 | [],_=>rfl
 | s::l,h=>by
  have e:=qs_map l (fun t ht=>h t (zN _ ht))
  have g:=txt_val (h s (ql ..))
  unfold qs at e ⊢
  rw[zy,zy,zy,e]
  congr 1
  show [pS (bsO (txt (jc s).q))]=[pS (bsO s)]
  rw[g]
def numB (a:Nb) (e b:Int) (q:Rat):Bool:=bif decide (e=lgF b [q]) then decide (a=if lgF b [q]≠0 then [] else txt q) else false
section
variable {a:Nb} {e b:Int} {q:Rat}
theorem num_l (hl:(txt q).length<=900000):∀ r∈[q],(txt r).length<=900000:=fun r h=>by
 rw[zg.1 h];exact hl
theorem num_y (h:lgF b [q]≠0):(bif decide (e=lgF b [q]) then decide (a=[]) else false)=numB a e b q:=by
 unfold numB;rw[if_pos h]
theorem num_n (h:¬lgF b [q]≠0):(bif decide (e=lgF b [q]) then decide (a=txt q) else false)=numB a e b q:=by
 unfold numB;rw[if_neg h]
end
theorem w32 (a:Nb) (e b:Int) (q:Rat) (hl:(txt q).length<=900000):CKa 13 [vS (bsO a),vI e,vI b,vS (bsO (txt q))] (vB (numB a e b q)):=by
 refine cG qf13 Z (nB Z) Z (E Z (B.zA (es:=List.map eQt [q]) Z) (C Z (w44 b [q] (show 1<=1000000 by decide) (num_l hl)) Z Z Z (Cp Z Z (fun h1=>?_) (fun h1=>?_))))
 ·refine Em Z Z Z Z ?_
  refine Em Z Z Z Z ?_
  exact Eg Z Z (fun hc=>B.seqB (qz Z hc) (qz Z hc)) Z (E Z (B.pA Z Z Z Z Z) (Rt Z (lF Z eL)))
 refine Em Z Z Z Z ?_
 refine Em Z Z Z Z ?_
 exact Eg Z Z (fun hc=>B.seqB (qz Z hc) (qz Z hc)) Z (E Z (B.pA Z Z Z Z Z) (Rt Z (lF Z eL)))
end Go.Lens.Tb
end
section
namespace Go.Lens.Tb
open Go.Proofs Go.Lens.Un
variable [Lz] [Dn]
open Un Un.R
theorem sumQ_q:∀ (l:List Qn) (s:Qn),(sumQ l s).q=(l.map Qn.q).foldl (· +·) s.q
 | [],_=>rfl
 | a::l,s=>by
  show (sumQ l (Qn.add s a)).q=(l.map Qn.q).foldl (· +·) (s.q+a.q)
  rw[sumQ_q l,Qn.add_q]
theorem frZ_q:frZ.q=0:=Qn.ofZ_q _
theorem sumQ_v (l:List Qn):(sumQ l frZ).q=sumL (l.map Qn.q):=by rw[sumQ_q,frZ_q];rfl
theorem pisQ_q (l:List Qn) (h:l.length<=1000000):(pisQ l).q=kN (l.map Qn.q):=by
 unfold pisQ kN
 rw[Qn.dv_q,sumQ_v,ofN_q h,zI]
theorem flatQ_q (l:List Qn) (h:l.length<=1000000):(jG l).map Qn.q=kE (l.map Qn.q):=by
 unfold jG kE
 rw[List.map_map,List.map_map]
 refine List.map_congr_left fun a _=>?_
 show (Qn.sub a (pisQ l)).q=a.q-_
 rw[Qn.sub_q,pisQ_q l h]
theorem qs_q (l:List Nb):(l.map jc).map Qn.q=qs l:=List.map_map ..
theorem blen_dec (n:Nat):jb n<=4*(Lib.decDigits n).length:=by
 refine jS ?_
 have h:=kK (j2 n)
 rw[kC] at h
 refine Nat.lt_of_lt_of_le h ?_
 rw[Nat.pow_mul]
 exact Nat.pow_le_pow_left ah _
theorem sz_txt (q:Rat):sz q<=4*(txt q).length+1:=by
 have h1:=blen_dec q.num.natAbs
 have h2:=blen_dec q.den
 have e:=dq_len (q:=q)
 have hl:(Dq q).length<=(txt q).length:=by
  rw[qk_x]
  split
  ·rw[zb];omega
  omega
 unfold sz
 by_cases hd:q.den=1
 ·have h3:jb q.den<=1:=by rw[hd];decide
  rw[if_pos hd] at e;omega
 rw[if_neg hd] at e;omega
theorem sz_short {s:Nb} (h:jA s=0) (hs:s.length<=40):sz (jc s).q<=161:=by
 have:=sz_txt (jc s).q
 rw[txt_val h] at this;omega
theorem sz_fold:∀ (l:List Rat) (s:Rat) (B:Nat),(∀ q∈l,sz q<=B)->sz (l.foldl (· +·) s)<=sz s+l.length*(B+1)
 | [],s,B,_=>by simp
 | a::l,s,B,h=>by
  have h1:=sz_fold l (s+a) B (fun q hq=>h q (zN _ hq))
  have h2:=sz_add s a
  have h3:=h a (ql ..)
  rw[List.foldl_cons,zb,Nat.add_mul]
  omega
structure ShQ (l:List Rat):Prop where
 n:0<l.length
 m:l.length<=20
 z:∀ q∈l,sz q<=161
section
variable {l:List Rat} {k:Nat}
theorem ShQ.d (h:ShQ l) (hk:k<l.length):sz (l.getD k 0)<=161:=h.z _ (kj hk)
theorem ShQ.s (h:ShQ l):sz (sumL (l.take k))<=3241:=by
 have h1:=sz_fold (l.take k) 0 161 (fun q hq=>h.z q (zu hq))
 have h2:(l.take k).length<=20:=by rw[zn];have:=h.m;omega
 have h3:=sz_0
 unfold sumL
 have:(l.take k).length*162<=20*162:=Nat.mul_le_mul_right _ h2
 omega
theorem ShQ.c (h:ShQ l):sz ((l.length:Nat):Rat)<=5:=by
 have e:=sz_int (l.length:Int)
 have hb:jb (((l.length:Nat):Int)).natAbs<=5:=by
  rw[Int.natAbs_natCast]
  exact jS (Nat.lt_of_le_of_lt h.m ah)
 have:((l.length:Nat):Rat)=(((l.length:Nat):Int):Rat):=rfl
 rw[this];omega
theorem ShQ.a (h:ShQ l):sz (sumL l)<=3241:=by
 have:=h.s (k:=l.length)
 rwa [zz (zB _)] at this
theorem ShQ.e (h:ShQ l):sz (kN l)<=3246:=by
 have:=sz_div (sumL l) ((l.length:Nat):Rat)
 have:=h.a
 have:=h.c
 unfold kN;omega
theorem ShQ.f (h:ShQ l):∀ q∈kE l,sz q<=3408:=fun q hq=>by
 obtain⟨a,ha,e⟩:=zE.1 hq
 have:=sz_sub a (kN l)
 have:=h.z a ha
 have:=h.e
 rw[<-e];omega
theorem ShQ.g (h:ShQ l) (hk:k<(kE l).length):sz ((kE l).getD k 0)<=3408:=h.f _ (kj hk)
theorem ShQ.t (h:ShQ l):∀ k,k<=(kE l).length->sz (dotL (kE l) (kE l) k)<=1+k*6817
 | 0,_=>sz_0
 | k+1,hk=>by
  have h1:=h.t k aa
  have h2:=sz_add (dotL (kE l) (kE l) k) ((kE l).getD k 0*(kE l).getD k 0)
  have h3:=jy ((kE l).getD k 0) ((kE l).getD k 0)
  have h4:=h.g (k:=k) aa
  unfold dotL;omega
end
theorem w55s (l:List Rat) (h:ShQ l):CKa 9 [vL eQt l] (.tup [vL eQt (kE l),vS (bsO (txt (kN l)))]):=by
 have h1:=h.m
 have h2:=h.a
 have h3:=h.c
 have h4:=h.e
 exact w55 l h.n aa (fun k hk=>by have:=h.s (k:=k);have:=h.d hk;omega) aa (ar_t aa) (fun k hk=>by have:=h.d hk;omega)
theorem ShQ.v {l:List Rat} (h:ShQ l):sz (dotL (kE l) (kE l) (kE l).length)+sz (((kE l).length:Nat):Rat)<=200000:=by
 have h1:=h.t _ (zB _)
 have h2:=h.c
 have h3:=h.m
 rw[flt_l] at h1 ⊢;omega
theorem w56s (l:List Rat) (h:ShQ l):CKa 10 [vL eQt l] (vS (bsO (txt (varL l)))):=by
 have h1:=h.m
 have h2:=h.a
 have h3:=h.c
 have h4:=h.e
 refine w56 l h.n aa (fun k hk=>by have:=h.s (k:=k);have:=h.d hk;omega) aa (ar_t aa) (fun k hk=>by have:=h.d hk;omega) (fun k hk=>by have:=h.g hk;omega) (fun k hk=>?_) (qh h.v ah)
 have g1:=h.t k aa
 have g2:=h.g hk
 have g3:=jy ((kE l).getD k 0) ((kE l).getD k 0)
 rw[flt_l] at hk;omega
theorem qd_q (x:List Qn) (k:Nat):(x.getD k frZ).q=(x.map Qn.q).getD k 0:=by
 rw[ze,ze,qe]
 cases x[k]? with
 | none=>exact frZ_q
 | some=>rfl
theorem dotQ_v {x y:List Qn} (hl:x.length=y.length):∀ k,k<=x.length->(dotQ (x.take k) (y.take k) frZ).q=dotL (x.map Qn.q) (y.map Qn.q) k
 | 0,_=>frZ_q
 | k+1,hk=>by
  rw[<-do_st hl (show k<x.length by omega) Z,Qn.add_q,Qn.mul_q,dotQ_v hl k aa,qd_q,qd_q];rfl
theorem vaQ_q (v:List Qn) (h:v.length<=1000000):(vaQ v).q=varL (v.map Qn.q):=by
 have e:=dotQ_v (x:=jG v) (y:=jG v) Z _ (zB _)
 rw[zz (zB _),flatQ_q v h] at e
 unfold vaQ varL
 rw[Qn.dv_q,e,ofN_q (by rw[fq_len];exact h),fq_len,flt_l,zI]
theorem flatOk_s {v:List Qn} (h:ShQ (v.map Qn.q)):FlatOk v:=fun k _=>by
 have h1:=h.s (k:=k)
 have e:=sumQ_v (v.take k)
 rw[List.map_take] at e
 rw[e]
 refine⟨aa,?_⟩
 rw[qd_q]
 rcases Nat.lt_or_ge k (v.map Qn.q).length with hk|hk
 ·have:=h.d hk;omega
 have:=sz_0
 rw[ze,qg hk]
 exact qh this ah
theorem dotOk_s {v:List Qn} (h:ShQ (v.map Qn.q)):DotOk (jG v) (jG v) frZ/\sz (Qn.q (dotQ (jG v) (jG v) frZ))<=9000000:=by
 have hm:=h.m
 rw[zI] at hm
 have fe:=flatQ_q v aa
 have ht:∀ k,k<=(jG v).length->sz (dotQ ((jG v).take k) ((jG v).take k) frZ).q<=200000:=fun k hk=>by
  have g:=h.t k eM
  rw[dotQ_v rfl k hk,fe]
  rw[fq_len] at hk
  have:k*6817<=20*6817:=Nat.mul_le_mul_right _ aa
  omega
 refine⟨fun k hk=>⟨qh (ht k aa) ah,?_⟩,?_⟩
 ·rw[qd_q,fe]
  have:=h.g (k:=k) eM
  omega
 have:=ht _ (zB _)
 rw[zz (zB _)] at this
 omega
section
variable {l:List Nb}
theorem sh_P (h:shV l 20=true) (hc:ZT l=0):ShQ (qs l)/\∀ s∈l,jA s=0:=by
 obtain⟨h1,h2,h3⟩:=chkP_0 hc
 unfold shV at h
 rw[zj,Bool.not_eq_true',Bool.and_eq_false_iff] at h
 obtain⟨g1,g2⟩:=h
 have g2:∀ s∈l,s.length<=40:=fun s hs=>of_decide_eq_true (zr.1 g2 s hs)
 have hn:l.length<=20:=by
  rcases g1 with g|g
  ·have:=of_decide_eq_false g;omega
  have:=of_decide_eq_false g;omega
 refine⟨⟨by unfold qs;rw[zI];exact h1,by unfold qs;rw[zI];exact hn,fun q hq=>?_⟩,h3⟩
 obtain⟨s,hs,e⟩:=zE.1 hq
 rw[<-e]
 exact sz_short (h3 s hs) (g2 s hs)
theorem sh_l (h:shV l 20=true):l.length<=257/\∀ s∈l,s.length<=40:=by
 unfold shV at h
 rw[zj,Bool.not_eq_true',Bool.and_eq_false_iff] at h
 obtain⟨g1,g2⟩:=h
 refine⟨?_,fun s hs=>of_decide_eq_true (zr.1 g2 s hs)⟩
 rcases g1 with g|g
 ·have:=of_decide_eq_false g;omega
 have:=of_decide_eq_false g;omega
theorem lgF_4 (l:List Rat):l.foldl (fun b q=>if b=0 then lgE q else b) (4:Int)=4:=by
 induction l with
 | nil=>rfl
 | cons a l ih=>exact ih
theorem lgF_any (l:List Rat):lgF 0 l=bif l.any jl then 4 else 0:=by
 unfold lgF
 induction l with
 | nil=>rfl
 | cons a l ih=>
  rw[List.foldl_cons,List.any_cons,if_pos rfl]
  unfold lgE
  cases jl a with
  | false=>exact ih
  | true=>exact lgF_4 l
theorem flW_q (hl:l.length<=1000000):(flW l).map Qn.q=kE (qs l)++[kN (qs l)]:=by
 unfold flW
 rw[qc,flatQ_q _ eO,qs_q,List.map_singleton,pisQ_q _ eO,qs_q]
theorem flW_any (l:List Qn):l.any (fun a=>jl (Qn.q a))=(l.map Qn.q).any jl:=by
 rw[List.any_map];rfl
theorem fl_e (hl:l.length<=1000000) (hc:ZT l=0):flE l=lgF (lgF 0 (kE (qs l))) [kN (qs l)]:=by
 rw[fl_b (fun h=>h hc),resEs,flW_any,flW_q hl,<-lgF_any]
 unfold lgF;rw[List.foldl_append]
theorem fl_t (hl:l.length<=1000000) (hc:ZT l=0) (h:flE l=0):(flT l)=(kE (qs l)).map txt/\flP l=txt (kN (qs l)):=by
 have hb:=fl_b (l:=l) (fun h=>h hc)
 have hr:¬resEs (flW l)≠0:=by rw[<-hb,h];exact fun g=>g rfl
 have e1:=fl_t3 (fun h=>h hc) hr
 have e2:=fl_p3 (fun h=>h hc) hr
 have hn:resTs (flW l)=(kE (qs l)++[kN (qs l)]).map txt:=by
  unfold resTs resEs at*
  cases g:(flW l).any (fun a=>jl (Qn.q a)) with
  | true=>rw[g] at hr;exact absurd (show (4:Int)≠0 by decide) hr
  | false=>
   rw[cond_false,<-flW_q hl,List.map_map];rfl
 have hk:(jG (l.map jc)).length=(kE (qs l)).length:=by rw[fq_len,flt_l];simp[qs]
 rw[<-e1,<-e2,hn,hk,qc,List.map_singleton]
 refine⟨?_,?_⟩
 ·rw[<-zI (f:=txt),List.take_left]
 rw[ze,show (kE (qs l)).length=((kE (qs l)).map txt).length by rw[zI],z8 (zB _),Nat.sub_self];rfl
theorem va_v (hl:l.length<=1000000) (hc:ZT l=0):numB (vaT l) (vaE l) 0 (varL (qs l))=true:=by
 have e:(vaQ (l.map jc)).q=varL (qs l):=by rw[vaQ_q _ eO,qs_q]
 rw[va_e2 (fun h=>h hc),<-va_t2 (fun h=>h hc),e]
 unfold numB resE resT
 rw[lgF_any,List.any_cons,List.any_nil,Bool.or_false]
 cases jl (varL (qs l)) with
 | false=>simp
 | true=>simp
end
end Go.Lens.Tb
end
section
namespace Go.Lens
variable [Lz]
section
variable [Fc] {P:Program} {Y:Tab} [qL P Y] {nb n:Nat} {Q:Exit->St->Prop} {K:List Fr} {ops:Array Oper} {B:List Oper}
def CutW (P:Program) (Y:Tab) (nb n:Nat) (Q:Exit->St->Prop) (K:List Fr) (ops:Array Oper) (B:List Oper) (s:St):Prop:=∃ s2,Wk nb s s2/\RG P Y nb ops false B s2 [] (PK P n nb Q K .normal)
theorem CutW.mk {s s2:St} (h:Wk nb s s2) (k:RG P Y nb ops false B s2 [] (PK P n nb Q K .normal)):CutW P Y nb n Q K ops B s:=⟨s2,h,k⟩
end
section
variable {P:Program} {Y:Tab} [qL P Y] {nb:Nat} {s:St} {dst:Option Tmp} {ty:TypeId} {pos:String} {af:Array Edge} {gd:Option (Nat×Bool)} {t:TypeId} {x y:Operand}
theorem B.arrP {e:TypeId} {c0 c1:PV} (ht:Y.underlying t=some (.array 2 e)) (hx:ev1 s x=.pv (.slice [[c0],[c1]])) :
  Body P Y nb s ⟨dst,.sliceToArrayPointer t x,ty,pos,af,gd⟩ (.pv (.box [c0,c1])) [] []:=by
 refine .inr (kH.of fun σ G a w hv _ I=>?_)
 have hX:=hv x aS
 rw[hx] at hX
 simp only[qy,qN] at hX
 obtain⟨p,cap,hX,hl,H⟩:=hX
 rcases H with H|⟨b,off,esz,rfl,H⟩
 ·cases H
 simp only[qS,q0,zb,zd] at H
 obtain⟨rfl,⟨h0,_⟩,_,⟨h1,_⟩,_⟩:=H
 have hrun:(Instr.arrayAt t (.slice (some ⟨b,off,none⟩) 2 cap)).run P w=.ok (.pointer (some ⟨b,off,none⟩)) w:=by simp only[Instr.arrayAt,qu,qJ ht,qt,Nat.lt_irrefl,qr,qw]
 refine⟨.pointer (some ⟨b,off,none⟩),w,G,.inl ?_,qH I.ctxS ?_ (fun k hk=>by simp[DV.refs] at hk)⟩
 ·grind [execOp,Sem.run_bind,List.length_cons,List.length_nil,Result.andThen_ok,Sem.run_pure]
 grind [qy,qN,q0]
theorem run_eqA2 {it:TypeId} {a0 a1 b0 b1:Value} {r0 r1:Bool} (hk:Y.underlying t=some (.array 2 it)) (ha:aggT Y it=some false) (hz:szT Y it=some 1) (h0:∀ n w,(Op.equalIn (n+1) it a0 b0).run P w=.ok r0 w) (h1:∀ n w,(Op.equalIn (n+1) it a1 b1).run P w=.ok r1 w) (w:World) :
  (Op.equalIn 10000 t (.agg #[a0,a1]) (.agg #[b0,b1])).run P w=.ok (r0&&r1) w:=by
 have p0:∀ (a b:Value) (w:World),(part it #[a,b] 0).run P w=.ok a w:=fun a b w=>by simp[part,qu,kD ha]
 have p1:∀ (a b:Value) (w:World),(part it #[a,b] 1).run P w=.ok b w:=fun a b w=>by simp[part,qu,kD ha]
 have key:∀ n:Nat,(Op.equalIn (n+1+1) t (.agg #[a0,a1]) (.agg #[b0,b1])).run P w=.ok (r0&&r1) w:=fun n=>by
  rw[Op.equalIn]
  simp only[qu,qJ hk,qt,qZ hz]
  cases r0<;>cases r1<;>simp[Std.Legacy.Range.forIn_eq_forIn_range',Std.Legacy.Range.size,List.range',p0,p1,h0,h1]
 exact key 9998
theorem B.eqA2 {it u:TypeId} {a0 a1 b0 b1:Value} {r0 r1:Bool} (hb:Y.eqBad t=false) (hk:Y.underlying t=some (.array 2 it)) (ha:aggT Y it=some false) (hz:szT Y it=some 1) (h0:∀ n w,(Op.equalIn (n+1) it a0 b0).run P w=.ok r0 w) (h1:∀ n w,(Op.equalIn (n+1) it a1 b1).run P w=.ok r1 w)
  (hx:ev1 s x=.pv (.agg [.lit a0,.lit a1])) (hy:ev1 s y=.pv (.agg [.lit b0,.lit b1])) (op:BinOp) (ho:op=.eql\/op=.neq) :
  Body P Y nb s ⟨dst,.binOp op t x y u,ty,pos,af,gd⟩ (lit (.bool (if op=.eql then r0&&r1 else !(r0&&r1)))) [] []:=by
 refine .inr (kH.of fun σ G a w hv _ I=>?_)
 have hX:=hv x aS
 have hY:=hv y aS
 rw[hx] at hX;rw[hy] at hY
 simp only[qy,qN,qA] at hX hY
 obtain⟨vx,hX,_,v1,l1,e1,⟨rfl,_⟩,v2,l2,e2,⟨rfl,_⟩,e3⟩:=hX
 obtain⟨vy,hY,_,u1,m1,f1,⟨rfl,_⟩,u2,m2,f2,⟨rfl,_⟩,f3⟩:=hY
 subst e3;subst e2;subst f3;subst f2
 have ex:vx= #[v1,v2]:=by grind
 have ey:vy= #[u1,u2]:=by grind
 subst ex;subst ey
 have hst:=qL.eqs P hb
 simp only[qb] at hst
 have key:=run_eqA2 (P:=P) hk ha hz h0 h1 w
 refine⟨.bool (if op=.eql then r0&&r1 else !(r0&&r1)),w,G,.inl ?_,qH I.ctxS (qK Z) (fun k hk=>by simp[lit,DV.refs] at hk)⟩
 rcases ho with rfl|rfl
 ·simp only[execOp,hX,hY,qu,run_eqGuard_agg w _ t x y _ _ hst.2,qt,run_eql_struct,key,qq]
  rfl
 simp only[execOp,hX,hY,qu,run_eqGuard_agg w _ t x y _ _ hst.2,qt,run_neq_struct,key]
 rfl
theorem eqI_run {it:TypeId} (hi:Y.underlying it=some (.int .i64)) (a b:Int) (n:Nat) (w:World):(Op.equalIn (n+1) it (.int .i64 a) (.int .i64 b)).run P w=.ok (a==b) w:=by rw[Op.equalIn];simp[qJ hi]
theorem eqS_run {it:TypeId} (hi:Y.underlying it=some .string) (a b:ByteArray) (n:Nat) (w:World):(Op.equalIn (n+1) it (.string a) (.string b)).run P w=.ok (a==b) w:=by rw[Op.equalIn];simp[qJ hi]
end
abbrev YOrc:=Nat->Array Tmp->Code->Code->List DV->List DV->Na->Option (DV×Na)
def YOrcOk (P:Program) (U:YOrc):Prop:=∀ h ps asg bd ds xs l val ms,U h ps asg bd ds xs l=some (val,ms)->YldOk P h ps asg bd ds xs (qx l) val ms
abbrev XOp:=Nat->St->Oper->Option (DV×Na×List Nat)
def XOpOk (P:Program) (Y:Tab) (X:XOp):Prop:=∀ nb s o val m rd,X nb s o=some (val,m,rd)->Body P Y nb s o val m rd
theorem SubL.sel {ms:Na}:∀ {ns:List Nat},SubL ms (sel ms ns)
 | []=>trivial
 | h::ns=>by
  simp only[Go.Lens.sel]
  split
  ·rename_i o ho;exact⟨ho,SubL.sel⟩
  exact SubL.sel
noncomputable def fitE (ms l:Na) (r:Option (DV×Na)):Option (DV×Na×List Nat):=match r with
 | some (val,out)=>bif q9 l&&out.all (fun p=>jI l p.1||!jI ms p.1) then some (val,out,l.map (·.1)) else none
 | none=>none
theorem fitE_ok {ms l:Na} {r:Option (DV×Na)} {val:DV} {m:Na} {rd:List Nat} (h:fitE ms l r=some (val,m,rd)):r=some (val,m)/\rd=l.map (·.1)/\q9 l=true/\m.all (fun p=>jI l p.1||!jI ms p.1)=true:=by
 unfold fitE at h
 split at h
 ·rename_i v o
  cases hb:(q9 l&&o.all (fun p=>jI l p.1||!jI ms p.1)) with
  | false=>rw[hb] at h;cases h
  | true=>
   rw[hb] at h
   simp only[cond_true,zh,zx] at h
   obtain⟨rfl,rfl,rfl⟩:=h
   simp only[zj] at hb
   exact⟨rfl,rfl,hb.1,hb.2⟩
 cases h
noncomputable def yOp (O:Orc) (U:YOrc) (X:XOp) (Y:Tab) (nb:Nat) (s:St) (o:Oper):Option (DV×Na×List Nat):=
 match o.op with
 | .call ⟨.value f,args,_⟩=>match ev1 s f with
  | .yld h ps asg bd ds=>
   hfVs false false (args.toList.map (ev1 s)) fun xs=>
   hfSp (sel s.ms (jY s.ms 10000 (h::(DV.qO ds++DV.qO xs)) [])) fun l=>
   fitE s.ms l (U h ps asg bd ds xs l)
  | d=>match tgtX d with
   | some (fid,first,caps)=>
    hfVs false false (first++args.toList.map (ev1 s)++caps) fun ds=>
    hfSp (sel s.ms (jY s.ms 10000 (DV.qO ds) [])) fun l=>
    hfN (maxN s.ms nb) fun lo=>fitE s.ms l (O fid lo ds l)
   | none=>none
 | _=>match X nb s o with
  | some r=>some r
  | none=>bodyX Y nb s o
section
variable {P:Program} {Y:Tab} [qL P Y] {O:Orc} {U:YOrc} {X:XOp} {fr:Oper->Bool} {nb n:Nat}
theorem yOp_ok (hO:Zm P O) (hZ:YOrcOk P U) (hX:XOpOk P Y X) {s:St} {o:Oper} {val:DV} {m:Na} {rd:List Nat} (h:yOp O U X Y nb s o=some (val,m,rd)):Body P Y nb s o val m rd:=by
 obtain⟨dst,op,ty,pos,af,gd⟩:=o
 unfold yOp at h
 simp only[hfVs_eq,hfSp_eq,kQ] at h
 split at h
 ·split at h
  ·rename_i hf
   obtain⟨h1,rfl,h3,h4⟩:=fitE_ok h
   exact B.yieldS (hZ _ _ _ _ _ _ _ _ _ h1) hf Z SubL.sel h3 h4
  split at h
  ·rename_i ht
   obtain⟨h1,rfl,h3,h4⟩:=fitE_ok h
   exact B.jd (hO _ _ _ _ _ _ h1) ht Z SubL.sel h3 h4
  cases h
 split at h
 ·rename_i hr;cases h;exact hX _ _ _ _ _ _ hr
 exact B.run h
noncomputable def yRg (O:Orc) (U:YOrc) (X:XOp) (Y:Tab) (nb:Nat) (ops:Array Oper) (dr:Bool) (os:List Oper):St->List Ef->Option St:=
 List.rec (motive:=fun _=>St->List Ef->Option St) (fun s acc=>bif !dr||Zt ops 0 acc then some s else none)
  (fun o _ ih s acc=>match gcond ops s o.guard with
   | some true=>match yOp O U X Y nb s o with
    | some (v,m,rd)=>hfE s o.dst v m rd fun s e=>ih s (acc++[e])
    | none=>none
   | some false=>hfE s o.dst (.gd false (lit (.bool false))) [] [] fun s e=>ih s (acc++[e])
   | none=>none) os
theorem yRg_ok (hO:Zm P O) (hZ:YOrcOk P U) (hX:XOpOk P Y X) {ops:Array Oper} {dr:Bool} {Q:St->Prop}:∀ (os:List Oper) {s s':St} {acc:List Ef},yRg O U X Y nb ops dr os s acc=some s'->Q s'->RG P Y nb ops dr os s acc Q
 | [],s,s',acc,h,q=>by
  replace h:(bif !dr||Zt ops 0 acc then some s else none)=some s':=h
  cases hb:(!dr||Zt ops 0 acc) with
  | false=>rw[hb] at h;cases h
  | true=>
   rw[hb] at h
   cases h
   exact RG.nil (fun hd=>by rw[hd] at hb;simpa using hb) q
 | o::os,s,s',acc,h,q=>by
  replace h:(match gcond ops s o.guard with
   | some true=>match yOp O U X Y nb s o with
    | some (v,m,rd)=>hfE s o.dst v m rd fun s e=>yRg O U X Y nb ops dr os s (acc++[e])
    | none=>none
   | some false=>hfE s o.dst (.gd false (lit (.bool false))) [] [] fun s e=>yRg O U X Y nb ops dr os s (acc++[e])
   | none=>none)=some s':=h
  simp only[hfE_eq] at h
  split at h
  ·rename_i hg
   split at h
   ·rename_i hy;exact RG.cons (EfR.on hg (yOp_ok hO hZ hX hy)) (yRg_ok hO hZ hX os h q)
   cases h
  ·rename_i hg;exact RG.cons (EfR.off hg) (yRg_ok hO hZ hX os h q)
  cases h
noncomputable def frz1 (s:St) (t:Nat):St:=match jJ s.tm t with
 | .aref h v=>match qx s.ms h with
  | some (.arr v' _ _ es)=>bif Nat.beq v v' then ⟨(t,.pv (.slice es))::s.tm,(h,.farr v es)::s.ms⟩ else s
  | _=>s
 | _=>s
theorem Wk.refl {nb:Nat} {s:St}:Wk nb s s:=fun I=>⟨_,I,Since.refl _ _ _ _⟩
theorem Wk.tr {nb:Nat} {s s1 s2:St} (h:Wk nb s s1) (k:Wk nb s1 s2):Wk nb s s2:=fun I=>by
 obtain⟨G1,I1,S1⟩:=h I
 obtain⟨G2,I2,S2⟩:=k I1
 exact⟨G2,I2,S1.trans S2⟩
theorem Wk.frz1 {nb:Nat} {s:St} {t:Nat}:Wk nb s (frz1 s t):=by
 unfold Go.Lens.frz1
 split
 ·rename_i h v ht
  split
  ·rename_i v' sz T es hm
   cases hb:Nat.beq v v' with
   | false=>exact Wk.refl
   | true=>
    have:=zD hb
    subst this
    simp only[cond_true]
    exact @wk_frz _ nb s t h _ (.farr v es) (.slice es) ht ao aR (by simp[pvOf,qF])
  exact Wk.refl
 exact Wk.refl
noncomputable def frzR (fr:Oper->Bool) (ops:Array Oper) (s:St):St:=bif ops.toList.any fr then (s.tm.map (·.1)).foldl frz1 s else s
theorem Wk.frzR {fr:Oper->Bool} {nb:Nat} {ops:Array Oper} {s:St}:Wk nb s (frzR fr ops s):=by
 unfold Go.Lens.frzR
 cases ops.toList.any fr with
 | false=>exact Wk.refl
 | true=>
  have key:∀ (l:List Nat) (s:St),Wk nb s (l.foldl Go.Lens.frz1 s):=by
   intro l
   induction l with
   | nil=>intro s;exact Wk.refl
   | cons t l ih=>intro s;exact Wk.frz1.tr (ih _)
  simp only[cond_true]
  exact @key _ _
def nodB:List Nat->Bool
 | []=>true
 | a::l=>!(l.any (Nat.beq a))&&nodB l
theorem nodB_ok:∀ {l:List Nat},nodB l=true->l.Nodup
 | [],_=>List.nodup_nil
 | a::l,h=>by
  simp only[nodB,zj,Bool.not_eq_true',List.any_eq_false] at h
  refine List.nodup_cons.2 ⟨fun hm=>?_,nodB_ok h.2⟩
  exact h.1 a hm (Nat.beq_refl a)
noncomputable def rgEnd (h:Nat) (s:St) (r:Option (DV×Na)):Option (Exit×St):=match r with
 | some (_,out)=>bif !nodB (out.map (·.1)) then none else match qx out h with
  | some (.lrec .ready false)=>hfSt ⟨s.tm,(h,.gone)::(out.filter (fun p=>!Nat.beq p.1 h)++s.ms)⟩ fun s=>some (.normal,s)
  | some (.lrec .done true)=>hfSt ⟨s.tm,(h,.gone)::(out.filter (fun p=>!Nat.beq p.1 h)++s.ms)⟩ fun s=>some (.ret,s)
  | _=>none
 | none=>none
noncomputable def gcF (nb:Nat) (s:St):Option St:=match gcX nb s with
 | some s=>hfSt s some
 | none=>none
theorem gcF_eq:gcF nb=gcX nb:=funext fun s=>by
 unfold gcF
 split
 ·rename_i h;rw[hfSt_eq,h]
 rename_i h;rw[h]
variable (O U X fr Y n nb) in
noncomputable def yCode (en:FuncId->Bool) (rg:Bool) (kp:Nat) (c:Code) (s:St):Option (Exit×St):=
 Code.rec (motive:=fun _=>St->Option (Exit×St))
  (fun s=>some (.normal,s))
  (fun _ ops dr s=>match yRg O U X Y nb ops dr ops.toList (frzR fr ops s) [] with
   | some s'=>hfSp (keepF kp s'.tm) fun tm=>some (.normal,⟨tm,s'.ms⟩)
   | none=>none)
  (fun _ _ ix iy s=>match ix s with
   | some (.normal,s')=>iy s'
   | r=>r)
  (fun c _ _ ix iy s=>match evS s c with
   | .pv (.lit (.bool true))=>ix s
   | .pv (.lit (.bool false))=>iy s
   | _=>none)
  (fun id _ ic s=>match ic s with
   | some (.exit i,s')=>bif Nat.beq i id then some (.normal,s') else some (.exit i,s')
   | r=>r)
  (fun _ ic s=>iterX (gcF nb) ic 100000 s)
  (fun g ps asg bd _ _ s=>match tgtX (ev1 s g) with
   | some (f,first,caps)=>
    bif !(rg&&en f) then none else hfN (maxN s.ms nb+1) fun h=>hfVs false false (first++[.yld h ps asg bd ((List.range n).map (jJ s.tm))]++caps) fun xs=>rgEnd h s (O f h xs ((h,.lrec .ready false)::s.ms))
   | none=>none)
  (fun id s=>some (.exit id,s))
  (fun _ ic s=>bif rg then (match ic s with
   | some (.goto _,_)=>none
   | r=>r) else none)
  (fun _ s=>some (.normal,s))
  (fun _ _=>none)
  (fun s=>some (.ret,s))
  (fun _ _=>none) c s
theorem T.wkPost [Fc] {c:Code} {s sA sB:St} {e0:Exit} (h:T P n nb c s fun e s1=>e=e0/\s1=sA) (hw:Wk nb sA sB):T P n nb c s fun e s1=>e=e0/\s1=sB:=by
 intro G a w R I hn hK
 refine h G a w R I hn ?_
 rintro e s1 G1 a1 w1 ⟨rfl,rfl⟩ I1 Sn1 hn1 hd1
 obtain⟨G2,I2,Sn2⟩:=hw I1
 exact hK _ _ _ _ _ ⟨rfl,rfl⟩ I2 (Sn1.trans Sn2) hn1 (Mks.next Sn1 hd1 Sn2 (Mks.of Z))
theorem maxN_no {ms:Na} {nb:Nat}:qx ms (maxN ms nb+1)=none:=by
 cases h:qx ms (maxN ms nb+1) with
 | none=>rfl
 | some o=>
  have:=(maxN_le ms nb).2 _ (jr h)
  simp only at this
  omega
theorem getD_rg {tm:List (Nat×DV)} {i:Nat} (h:i<n):((List.range n).map (jJ tm)).getD i .dead=jJ tm i:=by
 simp[ze,h]
theorem nbeq {a b:Nat} (h:a≠b):Nat.beq a b=false:=by
 cases hb:Nat.beq a b with
 | false=>rfl
 | true=>exact absurd (zD hb) h
theorem filt_perm {h:Nat} {m:MO}:∀ {l:Na},(l.map (·.1)).Nodup->qx l h=some m->((h,m)::l.filter (fun p=>!Nat.beq p.1 h)).Perm l
 | [],_,e=>by cases e
 | (k,o)::l,hd,e=>by
  rw[qF] at e
  simp only[zy,List.nodup_cons] at hd
  split at e
  ·rename_i hk
   subst hk
   cases e
   have:l.filter (fun p=>!Nat.beq p.1 k)=l:=by
    rw[List.filter_eq_self]
    intro p hp
    have hne:p.1≠k:=fun e=>hd.1 (by rw[<-e];exact zE.2 ⟨p,hp,rfl⟩)
    simp[nbeq hne]
   rw[List.filter_cons_of_neg ao,this]
  rename_i hk
  have ih:=filt_perm hd.2 e
  rw[List.filter_cons_of_pos (by simp[nbeq hk])]
  exact (List.Perm.swap _ _ _).trans (ih.cons _)
theorem rgEnd_ok {g:Operand} {ps:Array Tmp} {asg bd:Code} {s s':St} {e:Exit} {f:FuncId} {first caps:List DV} (hO:Zm P O) (he:∀ args w,(callFunc f args).run P w=.ok (.enter f args) w) (hg:tgtX (ev1 s g)=some (f,first,caps))
  (h:rgEnd (maxN s.ms nb+1) s (O f (maxN s.ms nb+1) (first++[.yld (maxN s.ms nb+1) ps asg bd ((List.range n).map (jJ s.tm))]++caps) ((maxN s.ms nb+1,.lrec .ready false)::s.ms))=some (e,s')) :
  T P n nb (.rangeFunc g ps asg bd) s fun e2 s2=>e2=e/\s2=s':=by
 unfold rgEnd at h
 simp only[hfSt_eq] at h
 split at h
 ·rename_i val out ho
  have hc:=hO _ _ _ _ _ _ ho
  cases hb:nodB (out.map (·.1)) with
  | false=>rw[hb] at h;cases h
  | true=>
  rw[hb] at h
  simp only[Bool.not_true,cond_false] at h
  have hd:=nodB_ok hb
  have key:∀ (st:LoopState) (pe:Bool),qx out (maxN s.ms nb+1)=some (.lrec st pe)->st≠.busy->T P n nb (.rangeFunc g ps asg bd) s fun e2 s2=>e2=(bif pe then .ret else .normal)/\s2=⟨s.tm,(maxN s.ms nb+1,.gone)::(out.filter (fun p=>!Nat.beq p.1 (maxN s.ms nb+1))++s.ms)⟩:=by
   intro st pe hl hst
   refine T.range (hl:=maxN s.ms nb+1) (ds:=(List.range n).map (jJ s.tm)) (val:=val) (out:=out.filter (fun p=>!Nat.beq p.1 (maxN s.ms nb+1))) (st:=st) pe he hg maxN_no ao (fun i hi=>.inl (getD_rg hi)) ?_ hst ?_ ?_
   ·exact⟨hc.refs,fun G w vs M hv=>(hc.call G w vs M hv).mono fun r w' ⟨G',S⟩=>⟨G',S.perm (filt_perm hd hl)⟩⟩
   ·intro p hp
    have:=(List.mem_filter.1 hp).2
    intro e
    rw[e] at this
    simp at this
   exact⟨rfl,rfl⟩
  split at h
  ·rename_i hl
   cases h
   exact key _ _ hl ao
  ·rename_i hl
   cases h
   exact key _ _ hl ao
  cases h
 cases h
theorem yCode_ok [fc:Fc] (hm:P.follows .mixedOrders=true) (hO:Zm P O) (hZ:YOrcOk P U) (hX:XOpOk P Y X) {en:FuncId->Bool} (he:∀ f,en f=true->∀ args w,(callFunc f args).run P w=.ok (.enter f args) w) {rg:Bool} (hr:rg=true->fc=fc0) {kp:Nat} :
  ∀ (c:Code),jo n c=true->∀ {s s':St} {e:Exit},yCode Y O U X fr nb n en rg kp c s=some (e,s')->T P n nb c s fun e2 s2=>e2=e/\s2=s':=by
 intro c
 induction c with
 | skip=>intro hda s s' e h;cases h;exact T.skip ⟨rfl,rfl⟩
 | exit id=>intro hda s s' e h;cases h;exact T.exit ⟨rfl,rfl⟩
 | ret=>intro hda s s' e h;cases h;exact T.ret ⟨rfl,rfl⟩
 | label l=>intro hda s s' e h;cases h;exact TK.label (K:=[]) (l:=l) (show PK P n nb _ [] .normal s from ⟨rfl,rfl⟩)
 | seq x y ihx ihy=>
  intro hda s s' e h
  replace h:(match yCode Y O U X fr nb n en rg kp x s with
   | some (.normal,s')=>yCode Y O U X fr nb n en rg kp y s'
   | r=>r)=some (e,s'):=h
  simp only[jo,zj] at hda
  split at h
  ·rename_i s1 h1
   refine T.seq (ihx hda.1 h1) (fun s2 hs=>?_) (fun e2 s2 hne hs=>absurd hs.1 hne)
   rw[hs.2];exact ihy hda.2 h
  rename_i hne
  refine T.seq (ihx hda.1 h) (fun s2 hs=>?_) (fun e2 s2 _ hs=>hs)
  have:=hs.1
  subst this
  exact absurd h (hne s')
 | cond c x y ihx ihy=>
  intro hda s s' e h
  replace h:(match evS s c with
   | .pv (.lit (.bool true))=>yCode Y O U X fr nb n en rg kp x s
   | .pv (.lit (.bool false))=>yCode Y O U X fr nb n en rg kp y s
   | _=>none)=some (e,s'):=h
  simp only[jo,zj] at hda
  split at h
  ·rename_i hc;exact T.cond hc (fun _=>ihx hda.1 h) (fun e=>by cases e)
  ·rename_i hc;exact T.cond hc (fun e=>by cases e) (fun _=>ihy hda.2 h)
  cases h
 | block id c ih=>
  intro hda s s' e h
  replace h:(match yCode Y O U X fr nb n en rg kp c s with
   | some (.exit i,s')=>bif Nat.beq i id then some (.normal,s') else some (.exit i,s')
   | r=>r)=some (e,s'):=h
  split at h
  ·rename_i i s1 h1
   refine T.block (T.mono (ih eQ h1) ?_)
   rintro e2 s2 ⟨rfl,rfl⟩
   simp only
   cases hb:Nat.beq i id with
   | true=>
    rw[hb] at h
    have:=zD hb
    subst this
    cases h
    rw[if_pos rfl];exact⟨rfl,rfl⟩
   | false=>
    rw[hb] at h
    cases h
    rw[if_neg (fun e=>by subst e;rw[Nat.beq_refl] at hb;cases hb)];exact⟨rfl,rfl⟩
  rename_i hne
  refine T.block (T.mono (ih eQ h) ?_)
  rintro e2 s2 ⟨rfl,rfl⟩
  cases e2 with
  | exit i=>exact absurd h (hne i s2)
  | _=>exact⟨rfl,rfl⟩
 | loop c ih=>
  intro hda s s' e h
  replace h:iterX (gcF nb) (yCode Y O U X fr nb n en rg kp c) 100000 s=some (e,s'):=h
  rw[gcF_eq] at h
  refine T.loop (fun k s=>iterX (gcX nb) (yCode Y O U X fr nb n en rg kp c) k s=some (e,s')) ?_ h
  intro k s hk
  cases k with
  | zero=>cases hk
  | succ k=>
   rw[iterX_succ] at hk
   split at hk
   ·rename_i s1 h1
    split at hk
    ·rename_i s2 h2
     refine T.mono (T.wkPost (ih eQ h1) (fun I=>I.gcX h2)) ?_
     rintro e2 s3 ⟨rfl,rfl⟩
     exact⟨k,Nat.lt_succ_self k,hk⟩
    cases hk
   rename_i hne
   refine T.mono (ih eQ hk) ?_
   rintro e2 s3 ⟨rfl,rfl⟩
   cases e2 with
   | normal=>exact absurd hk (hne s3)
   | _=>exact⟨rfl,rfl⟩
 | region id ops dr=>
  intro hda s s' e h
  replace h:(match yRg O U X Y nb ops dr ops.toList (frzR fr ops s) [] with
   | some s'=>hfSp (Go.Lens.keepF kp s'.tm) fun tm=>some (.normal,⟨tm,s'.ms⟩)
   | none=>none)=some (e,s'):=h
  simp only[hfSp_eq] at h
  split at h
  ·rename_i s1 h1
   cases h
   exact T.wkPost (sA:=s1) (T.weak Wk.frzR (T.rg (Y:=Y) hm hda (yRg_ok hO hZ hX _ h1 ⟨rfl,rfl⟩))) (fun I=>I.keepF nb kp)
  cases h
 | rangeFunc g ps asg bd _ _=>
  intro hda s s' e h
  replace h:(match tgtX (ev1 s g) with
   | some (f,first,caps)=>
    bif !(rg&&en f) then none else hfN (maxN s.ms nb+1) fun h=>hfVs false false (first++[.yld h ps asg bd ((List.range n).map (jJ s.tm))]++caps) fun xs=>rgEnd h s (O f h xs ((h,.lrec .ready false)::s.ms))
   | none=>none)=some (e,s'):=h
  split at h
  ·rename_i hg
   simp only[kQ,hfVs_eq] at h
   cases hb:(rg&&en _) with
   | false=>rw[hb] at h;cases h
   | true=>
    rw[hb] at h
    simp only[zj] at hb
    have:=hr hb.1
    subst this
    exact rgEnd_ok hO (he _ hb.2) hg h
  cases h
 | scope c ih=>
  intro hda s s' e h
  replace h:(bif rg then (match yCode Y O U X fr nb n en rg kp c s with
   | some (.goto _,_)=>none
   | r=>r) else none)=some (e,s'):=h
  cases rg with
  | false=>cases h
  | true=>
   simp only[cond_true] at h
   have:=hr rfl
   subst this
   split at h
   ·cases h
   rename_i hne
   refine TK.scope (K:=[]) (Q:=fun e2 s2=>e2=e/\s2=s') (fun l s2 hq=>?_) (ih eQ h)
   rw[<-hq.1] at h
   exact hne l s' h
 | _=>intro hda s s' e h;cases h
end
theorem AgM.sel {ms:Na}:∀ {ns:List Nat},AgM ms (sel ms ns)
 | []=>trivial
 | h::ns=>by
  simp only[Go.Lens.sel]
  split
  ·rename_i o ho;exact⟨ho,AgM.sel⟩
  exact AgM.sel
theorem look_sel {ms:Na}:∀ {ns:List Nat} {h:Nat} {o:MO},(h,o)∈sel ms ns->qx (sel ms ns) h=some o
 | [],h,o,hm=>by cases hm
 | k::ns,h,o,hm=>by
  have hl:=sel_mem hm
  simp only[Go.Lens.sel] at hm ⊢
  split at hm
  ·rename_i o' ho'
   rw[qF]
   split
   ·rename_i e;rw[<-e,ho'] at hl;exact hl
   rename_i e
   rcases zF.1 hm with e2|e2
   ·cases e2;exact absurd Z e
   exact look_sel e2
  exact look_sel hm
noncomputable def yFin (h nb:Nat) (l:Na) (b:Bool) (s:St):Option (DV×Na):=match qx s.ms h with
 | some (.lrec .busy false)=>
  let out:=sel s.ms ((jY s.ms 20000 (l.map (·.1)) []).filter fun k=>!Nat.beq k h)
  bif l.all (fun p=>jI ((h,.gone)::out) p.1)&&q9 ((h,.gone)::out)&&(q9 ((h,.lrec .busy false)::out)&&s.ms.all (fun p=>Nat.ble nb p.1||jI ((h,.lrec .busy false)::out) p.1)) then some (lit (.bool b),(h,.lrec (bif b then .ready else .done) (!b))::out) else none
 | _=>none
noncomputable def yYld (O:Orc) (U:YOrc) (X:XOp) (fr:Oper->Bool) (Y:Tab) (en:FuncId->Bool):YOrc:=fun h ps asg bd ds xs l=>
 match qx l h with
 | some (.lrec .ready false)=>
  bif Nat.beq ps.toList.length xs.length&&ps.toList.all (fun t=>Nat.blt t ds.length)&&(DV.qO (xs++ds)).all (jI l)&&(jo ds.length asg&&jo ds.length bd) then
   hfN (maxN l 0+1) fun nb=>hfN ds.length fun n=>hfSp (zipP ps.toList xs (zipT 0 ds)) fun tm=>match yCode Y O U X fr nb n en false (2 ^ n-1) asg ⟨tm,l⟩ with
   | some (.normal,s1)=>match qx s1.ms h with
    | some (.lrec .ready false)=>match yCode Y O U X fr nb n en false (2 ^ n-1) bd ⟨s1.tm,(h,.lrec .busy false)::s1.ms⟩ with
     | some (.normal,s2)=>yFin h nb l true s2
     | some (.ret,s2)=>yFin h nb l false s2
     | _=>none
    | _=>none
   | _=>none
  else none
 | _=>none
noncomputable def yFun (O:Orc) (U:YOrc) (X:XOp) (fr:Oper->Bool) (Y:Tab) (en:FuncId->Bool) (F:FnI) (lo:Nat) (ds:List DV) (l:Na):Option (DV×Na):=
 hfN (maxN l lo+1) fun nb=>match F.body with
 | some c=>bif Nat.ble ds.length F.n&&(DV.qO ds).all (jI l) then
   hfSp (zipT 0 ds) fun tm=>match yCode Y O U X fr nb F.n en true F.kp c ⟨tm,l⟩ with
   | some (.normal,s)=>ZK Y F nb l s
   | some (.ret,s)=>ZK Y F nb l s
   | _=>none
  else none
 | none=>none
section
variable {P:Program} {Y:Tab} [qL P Y] {O:Orc} {U:YOrc} {X:XOp} {fr:Oper->Bool} {en:FuncId->Bool}
theorem maxN_all (l:Na) (lo:Nat):l.all (fun p=>Nat.blt p.1 (maxN l lo+1))=true:=zr.2 fun p hp=>by
 have:=(maxN_le l lo).2 p hp
 simp only[Nat.blt_eq];omega
theorem yYld_ok (hm:P.follows .mixedOrders=true) (hO:Zm P O) (hZ:YOrcOk P U) (hX:XOpOk P Y X) (he:∀ f,en f=true->∀ args w,(callFunc f args).run P w=.ok (.enter f args) w):YOrcOk P (yYld O U X fr Y en):=by
 intro h ps asg bd ds xs l val ms hy
 unfold yYld at hy
 split at hy
 ·rename_i h0
  cases hq:(Nat.beq ps.toList.length xs.length&&ps.toList.all (fun t=>Nat.blt t ds.length)&&(DV.qO (xs++ds)).all (jI l)&&(jo ds.length asg&&jo ds.length bd)) with
  | false=>rw[hq] at hy;cases hy
  | true=>
   rw[hq] at hy
   simp only[cond_true,kQ,hfSp_eq] at hy
   simp only[zj] at hq
   obtain⟨⟨⟨q1,q2⟩,q3⟩,q4,q5⟩:=hq
   split at hy
   ·rename_i s1 hc1
    split at hy
    ·rename_i h1
     have fin:∀ (b:Bool) (s2:St),yCode Y O U X fr (maxN l 0+1) ds.length en false (2 ^ ds.length-1) bd ⟨s1.tm,(h,.lrec .busy false)::s1.ms⟩=some (bif b then .normal else .ret,s2)->yFin h (maxN l 0+1) l b s2=some (val,ms)->YldOk P h ps asg bd ds xs (qx l) val ms:=by
      intro b s2 hc2 hf
      unfold yFin at hf
      split at hf
      ·rename_i hb
       simp only at hf
       generalize hout:sel s2.ms ((jY s2.ms 20000 (l.map (·.1)) []).filter fun k=>!Nat.beq k h)=out at hf
       cases hq2:(l.all (fun p=>jI ((h,.gone)::out) p.1)&&q9 ((h,.gone)::out)&&(q9 ((h,.lrec .busy false)::out)&&s2.ms.all (fun p=>Nat.ble (maxN l 0+1) p.1||jI ((h,.lrec .busy false)::out) p.1))) with
       | false=>rw[hq2] at hf;cases hf
       | true=>
        rw[hq2] at hf
        cases hf
        simp only[zj] at hq2
        obtain⟨⟨r1,r2⟩,r3,r4⟩:=hq2
        refine YldOk.of (nb:=maxN l 0+1) (n:=ds.length) (l1:=s1.ms) (tm1:=s1.tm) (out:=out) b Z (zD q1) (fun t ht=>by simpa using zr.1 q2 t ht) (fun k o e=>by have:=zr.1 (maxN_all l 0) _ (jr e);simpa using this) h0 q3 (fun r=>?_) h1 (fun r=>?_) ?_ ?_ r1 r2
        ·refine @T.mono _ _ _ _ _ _ _ ⟨some r⟩ _ (@yCode_ok _ _ _ _ _ _ _ _ _ _ ⟨some r⟩ hm hO hZ hX _ he _ (fun e=>by cases e) _ asg q4 _ _ _ hc1) ?_
         rintro e s3 ⟨rfl,rfl⟩
         exact⟨rfl,Wk.refl⟩
        ·refine @T.mono _ _ _ _ _ _ _ ⟨some r⟩ _ (@yCode_ok _ _ _ _ _ _ _ _ _ _ ⟨some r⟩ hm hO hZ hX _ he _ (fun e=>by cases e) _ bd q5 _ _ _ hc2) ?_
         rintro e s3 ⟨rfl,rfl⟩
         have hs:Sub (maxN l 0+1) s3 ⟨[],(h,.lrec .busy false)::out⟩:={ tm:=trivial,ms:=⟨hb,by rw[<-hout];exact AgM.sel⟩,shut:=?_ }
         ·exact⟨rfl,hs.wk⟩
         simp only[List.all_nil,Bool.and_true,zj]
         exact⟨r3,r4⟩
        ·intro p hp e
         rw[<-hout] at hp
         have hmem:∀ {ns:List Nat} {p:Nat×MO},p∈sel s2.ms ns->p.1∈ns:=by
          intro ns
          induction ns with
          | nil=>intro p hp;cases hp
          | cons k ns ih=>
           intro p hp
           simp only[Go.Lens.sel] at hp
           split at hp
           ·rcases zF.1 hp with e|e
            ·rw[e];exact ql
            exact zN _ (ih e)
           exact zN _ (ih hp)
         have:=(List.mem_filter.1 (hmem hp)).2
         rw[e] at this
         simp at this
        intro k o hk
        rw[<-hout] at hk ⊢
        exact look_sel hk
      cases hf
     split at hy
     ·rename_i s2 hc2;exact fin true s2 hc2 hy
     ·rename_i s2 hc2;exact fin false s2 hc2 hy
     cases hy
    cases hy
   cases hy
 cases hy
end
section
variable {P:Program} {Y:Tab} [qL P Y] {O:Orc} {U:YOrc} {X:XOp} {fr:Oper->Bool} {en:FuncId->Bool}
theorem yFun_ok (hm:P.follows .mixedOrders=true) (hO:Zm P O) (hZ:YOrcOk P U) (hX:XOpOk P Y X) (hen:∀ f,en f=true->∀ args w,(callFunc f args).run P w=.ok (.enter f args) w) {F:FnI} {f:FuncId} {fn:Func} (hf:P.funcs[f]? =some fn) (hb:fn.body=F.body) (hn:fn.ntmps=F.n) (hr:fn.results=F.res)
  (hda:∀ c,F.body=some c->jo F.n c=true) (he:∀ args w,(callFunc f args).run P w=.ok (.enter f args) w) {lo:Nat} {ds:List DV} {l:Na} {val:DV} {ms:Na} (h:yFun O U X fr Y en F lo ds l=some (val,ms)):qD P f ds (qx l) val ms:=by
 unfold yFun at h
 simp only[kQ,hfSp_eq] at h
 split at h
 ·rename_i c hc
  cases hq:(Nat.ble ds.length F.n&&(DV.qO ds).all (jI l)) with
  | false=>rw[hq] at h;cases h
  | true=>
   rw[hq] at h
   simp only[cond_true] at h
   simp only[zj,Nat.ble_eq] at hq
   have key:∀ (e:Exit) (s:St),(e=.normal\/e=.ret)->yCode Y O U X fr (maxN l lo+1) F.n en true F.kp c ⟨zipT 0 ds,l⟩=some (e,s)->ZK Y F (maxN l lo+1) l s=some (val,ms)->qD P f ds (qx l) val ms:=by
    intro e s hex hy hx
    refine callOk_ofL (Y:=Y) (F:=F) (maxN l lo+1) l hf (hb.trans hc) hn hr he hq.1 hq.2 (maxN_all l lo) ?_
    refine T.mono (yCode_ok hm hO hZ hX hen (fun _=>rfl) c (hda c hc) hy) ?_
    rintro e2 s2 ⟨rfl,rfl⟩
    exact⟨hex,hx⟩
   split at h
   ·rename_i s hy;exact key _ s (.inl Z) hy h
   ·rename_i s hy;exact key _ s (.inr Z) hy h
   cases h
 cases h
noncomputable def yBoth (SP:Orc) (FT:Tr FnI) (X:XOp) (fr:Oper->Bool) (Y:Tab):Nat->Orc×YOrc
 | 0=>(fun _ _ _ _=>none,fun _ _ _ _ _ _ _=>none)
 | k+1=>(fun f lo ds l=>match SP f lo ds l with
   | some r=>some r
   | none=>match FT.get f with
    | some F=>yFun (yBoth SP FT X fr Y k).1 (yBoth SP FT X fr Y k).2 X fr Y (fun f=>(FT.get f).isSome) F lo ds l
    | none=>none,yYld (yBoth SP FT X fr Y k).1 (yBoth SP FT X fr Y k).2 X fr Y (fun f=>(FT.get f).isSome))
theorem yBoth_ok (hm:P.follows .mixedOrders=true) (hX:XOpOk P Y X) {SP:Orc} {FT:Tr FnI} (hS:Zm P SP) (hF:FtOk P FT):∀ k,Zm P (yBoth SP FT X fr Y k).1/\YOrcOk P (yBoth SP FT X fr Y k).2
 | 0=>by
  constructor
  ·intro f lo ds l val ms h;cases h
  intro h ps avs bd ds xs l val ms h;cases h
 | k+1=>by
  obtain⟨h1,h2⟩:=yBoth_ok hm hX hS hF k
  have hen:∀ f,(FT.get f).isSome=true->∀ args w,(callFunc f args).run P w=.ok (.enter f args) w:=fun f hf=>by
   obtain⟨F,hF'⟩:=Option.isSome_iff_exists.1 hf
   obtain⟨fn,_,_,_,_,_,h6⟩:=hF _ (Tr.get_mem hF')
   exact h6
  refine⟨fun f lo ds l val ms h=>?_,yYld_ok hm h1 h2 hX hen⟩
  simp only[yBoth] at h
  split at h
  ·rename_i r hr
   cases h
   exact hS _ _ _ _ _ _ hr
  split at h
  ·rename_i F hF'
   obtain⟨fn,g1,g2,g3,g4,g5,g6⟩:=hF _ (Tr.get_mem hF')
   exact yFun_ok hm h1 h2 hX hen g1 g2 g3 g4 g5 g6 h
  cases h
end
end Go.Lens
end
