/- A part of the proof of PupilDiscCardSaid, without conditions. -/
import Derived.Test.YthmgaldefkaglaaGreatDoorP4
import Derived.Shelf.SlGeneric
import Derived.Shelf.SlMaps.Clone
import Derived.Ground.SlmcProg
import Derived.Test.YthmgaldefkaglaaGreatDoorProg
set_option linter.unusedVariables false
set_option linter.unusedSimpArgs false
set_option linter.unusedSectionVars false
set_option maxHeartbeats 4000000
section
namespace Go.Lens.Tb
open Go.Proofs Go.Lens.Un
variable [Lz] [Dn]
set_option maxRecDepth 100000
attribute [local irreducible] TK PK T RG EfR Body CG
def zq (x:Qn):Bool:=decide (jz x.q.num=0)
def pK (m:List (KI×Qn)) (k:KI):Bool:=match kj k m with|some x=>zq x|none=>true
def idxK (p:KI->Bool):List KI->Int->Int
 | [],_=> -1
 | a::l,i=>bif p a then i else idxK p l (i+1)
def kpK (m:List (KI×Qn)) (l:List KI):List KI:=l.filter fun k=>!pK m k
section
variable {m:List (KI×Qn)} {k:KI} {x:Qn} {l o:List KI} {p:KI->Bool} {i j q:Nat}
theorem pk_v (h:kj k m=some x):decide (jz x.q.num=0)=pK m k:=by unfold pK;rw[h];rfl
theorem get_mem (h:k∈m.map (·.1)):∃ x,kj k m=some x:=by
 cases hg:kj k m with
 | some x=>exact⟨x,rfl⟩
 | none=>
  exfalso
  induction m with
  | nil=>cases h
  | cons a m ih=>
   obtain⟨a,y⟩:=a
   simp only[kj] at hg
   split at hg
   ·cases hg
   rename_i hne
   simp only[zA,zG] at h
   rcases h with e|e
   ·exact hne e
   exact ih e hg
theorem ik_step {j:Nat} (hk:j<l.length) (h:p (l.getD j (0,0))=false):idxK p (l.drop j) j=idxK p (l.drop (j+1)) ((j+1:Nat):Int):=by
 rw[drop_at l j (0,0) hk,idxK,h];rfl
theorem ik_end {i:Int} {j:Nat} (h:i=idxK p (l.drop j) j) (hk:¬((j:Nat):Int)<((l.length:Nat):Int)): -1=i:=by
 rw[h,zW aa];rfl
theorem ik_at {i:Int} {j:Nat} (h:i=idxK p (l.drop j) j) (hk:j<l.length) (hp:p (l.getD j (0,0))=true):((j:Nat):Int)=i:=by
 rw[h,drop_at l j (0,0) hk,idxK,hp];rfl
theorem ik_all {i:Int} (h:∀ k∈l,p k=false):idxK p l i= -1:=by
 induction l generalizing i with
 | nil=>rfl
 | cons a l ih=>rw[idxK,h a ao];exact ih fun k hk=>h k (by simp[hk])
theorem ik_no (h:∀ k∈l,pK m k=false):idxK (pK m) l 0= -1:=ik_all h
theorem ik_find (i:Nat):(∀ k∈l,p k=false)\/∃ q,q<l.length/\idxK p l i=((i+q:Nat):Int)/\(∀ k∈l.take q,p k=false)/\p (l.getD q (0,0))=true:=by
 induction l generalizing i with
 | nil=>exact .inl fun k hk=>by cases hk
 | cons a l ih=>
  cases ha:p a with
  | true=>exact .inr ⟨0,by simp,by rw[idxK,ha];rfl,by simp,by simpa using ha⟩
  | false=>
   rcases ih (i+1) with h|⟨q,h1,h2,h3,h4⟩
   ·exact .inl fun k hk=>by
     rcases zG.1 hk with rfl|hk
     ·exact ha
     exact h k hk
   refine .inr ⟨q+1,by simpa using h1,?_,fun k hk=>?_,by simpa using h4⟩
   ·rw[idxK,ha]
    show idxK p l ((i:Int)+1)=_
    rw[show ((i:Int)+1)=((i+1:Nat):Int) from rfl,h2]
    omega
   rw[List.take_succ_cons] at hk
   rcases zG.1 hk with rfl|hk
   ·exact ha
   exact h3 k hk
theorem ik_q (h:idxK (pK m) l 0=q) (hl:q<l.length):(∀ k∈l.take q,pK m k=false)/\pK m (l.getD q (0,0))=true:=by
 rcases ik_find (l:=l) (p:=pK m) 0 with e|⟨q',h1,h2,h3,h4⟩
 ·rw[ik_all e] at h;omega
 rw[show ((0:Nat):Int)=0 from rfl] at h2
 rw[h2] at h
 have:q=q':=aa
 rw[this];exact⟨h3,h4⟩
def DeI (m:List (KI×Qn)) (l:List KI) (j i:Nat) (o:List KI):Prop:=j<=l.length/\i<j/\i=(kpK m (l.take j)).length/\o=kpK m (l.take j)++l.drop i
theorem de_0 (h:idxK (pK m) l 0=q) (hl:q<l.length):DeI m l (q+1) q l:=by
 obtain⟨h1,h2⟩:=ik_q h hl
 have e:kpK m (l.take (q+1))=l.take q:=by
  unfold kpK
  rw[List.take_succ_eq_append_getElem hl,List.filter_append,List.filter_eq_self.2 fun k hk=>by rw[h1 k hk];rfl]
  rw[ze,zm hl] at h2
  simp only[zQ] at h2
  simp[h2]
 exact⟨aa,aa,by rw[e,zn];omega,by rw[e,List.take_append_drop]⟩
theorem de_ol (h:DeI m l j i o):o.length=l.length:=by
 obtain⟨h1,h2,h3,rfl⟩:=h
 rw[za,<-h3,zo];omega
theorem de_get (h:DeI m l j i o) (hj:j<l.length):o.getD j (0,0)=l.getD j (0,0):=by
 obtain⟨h1,h2,h3,rfl⟩:=h
 rw[ze,qa aa,<-h3,List.getElem?_drop,show i+(j-i)=j by omega,<-ze]
theorem gd_mem2 (h:DeI m l j i o) (hj:j<l.length):o.getD j (0,0)∈l:=by rw[de_get h hj];exact jf hj
theorem kp_snoc (hj:j<l.length):kpK m (l.take (j+1))=kpK m (l.take j)++(bif pK m (l.getD j (0,0)) then [] else [l.getD j (0,0)]):=by
 unfold kpK
 rw[List.take_succ_eq_append_getElem hj,List.filter_append,ze,zm hj]
 simp only[zQ]
 cases h:pK m l[j]<;>simp[h]
theorem de_k (h:DeI m l j i o) (hj:j<l.length) (hp:(!pK m (o.getD j (0,0)))=true):DeI m l (j+1) (i+1) (o.set i (o.getD j (0,0))):=by
 rw[de_get h hj] at hp ⊢
 obtain⟨h1,h2,h3,rfl⟩:=h
 have hp':pK m (l.getD j (0,0))=false:=by cases e:pK m (l.getD j (0,0))<;>simp_all
 have e:=kp_snoc (m:=m) hj
 rw[hp',cond_false] at e
 refine⟨aa,aa,by rw[e,za,<-h3];rfl,?_⟩
 rw[e,List.set_append_right _ _ aa,<-h3,Nat.sub_self,drop_at l i (0,0) aa,List.set_cons_zero,z8];rfl
theorem de_d (h:DeI m l j i o) (hj:j<l.length) (hp:(!pK m (o.getD j (0,0)))=false):DeI m l (j+1) i o:=by
 rw[de_get h hj] at hp
 obtain⟨h1,h2,h3,rfl⟩:=h
 have hp':pK m (l.getD j (0,0))=true:=by cases e:pK m (l.getD j (0,0))<;>simp_all
 have e:=kp_snoc (m:=m) hj
 rw[hp',cond_true,zS] at e
 exact⟨aa,aa,by rw[e];exact h3,by rw[e]⟩
theorem de_len (h:DeI m l j i o) (hj:l.length<=j):i=(kpK m l).length:=by
 obtain⟨h1,h2,h3,_⟩:=h
 rw[h3,zB hj]
theorem de_end (h:DeI m l j i o) (hj:l.length<=j):o.take i++List.replicate (o.length-i) ((0,0):KI)=kpK m l++List.replicate (l.length-(kpK m l).length) (0,0):=by
 have h1:=de_ol h
 have h2:=de_len h hj
 obtain⟨_,_,h3,h4⟩:=h
 rw[h1,h2]
 congr 1
 rw[h4,zB hj,List.take_left']
 rfl
end
theorem in151:tab.info? 151=some ty151.info:=ae
theorem un243:tab.underlying 243=some (.slice 151):=ae
theorem un275:tab.underlying 275=some (.int (.u64)):=ae
theorem w274:CKa 274 [.pv (.lit (.int .u64 ((0:Nat):Int)))] (vI ((jk 0:Nat):Int)):=by
 exact cG qf274 Z (nB Z) Z (CF Z Z (C Z (w309 0 ah) Z Z Z (Rt Z (leaf Z Z))))
theorem w300:CKa 300 [vL eK [],vI 0,vI 0,.pv (.fn (.func 170) [] [])] (.tup []):=by
 refine cG qf300 Z (nB Z) Z (E Z (B.add Z Z bj) (l1 (fun (u:Nat)=>[(0,vL eK []),(1,vI 0),(2,vI 0),(3,.pv (.fn (.func 170) [] [])),(8,vI (0+1))]) (fun _=>[]) (fun u=>u=u) (fun u=>u) 0 Z ?_ (sb Z Z Z) ?_))
 · rfl
 intro u hI0
 exact CF Z Z (Rn Z (leafE Z Z))
theorem w273 (n:Int):CKa 273 [vL eK [],vI 0,vI 0,vI n,.pv (.fn (.func 170) [] [])] (.tup []):=by
 refine cG qf273 Z (nB Z) Z (l1 (fun (u:Nat)=>[(0,vL eK []),(1,vI 0),(2,vI 0),(3,vI n),(4,.pv (.fn (.func 170) [] [])),(10,vB true),(11,vB true)]) (fun _=>[]) (fun u=>u=u) (fun u=>u) 0 Z ?_ (sb Z Z Z) ?_)
 · rfl
 intro u hI0
 exact E Z (B.sub Z Z bj) (CT Z Z (C Z (w300) Z Z Z (Rt Z (leaf Z Z))))
theorem w235':CKa 235 [.nils,.pv (.fn (.func 170) [] [])] (.tup []):=by
 exact cG qf235 Z (nB Z) Z (E Z (B.run Z) (E Z (B.run Z) (E Z (B.run Z) (E Z (B.toUN (n:=0) Z un3 un275 Z Z) (C Z (w274) Z Z Z (E Z (B.call (qD.nz (ds:=[.nils,vI 0,vI 0,vI ((jk 0:Nat):Int),.pv (.fn (.func 170) [] [])]) (w273 ((jk 0:Nat):Int)) Z) Z Z Z) (Rn Z (leafE Z Z))))))))
theorem w234' (m:List (KI×Qn)) (k:KI) (x:Qn) (hg:kj k m=some x) (hz:sz (Qn.q x)<=62):qD Tryz.prog 234 [.pv (.agg [pI (Prod.fst k),pI (Prod.snd k)]),.bref 11 0] (qw [(1,(kO eP m)),(11,.box 159 [.mref 1])]) (vB (pK m k)) [(11,.box 159 [.mref 1]),(1,(kO eP m))]:=by
 refine cL 12 [(1,(kO eP m)),(11,.box 159 [.mref 1])] qf234 Z (nB Z) Z Z (kc (E Z (B.getK0 (enc:=eP) (l:=m) (k:=k) (v:=x) kty Z Z Z in156 Z zP_ok hg) (C Z (w145 x hz) Z Z Z ?_)))
 refine Rt Z ?_
 exact q5 (val0:=vB (decide ((jz (Rat.num (Qn.q x)))=0))) (out0:=[(11,.box 159 [.mref 1]),(1,(kO eP m))]) (.inr Z) ae (by exact lb (pk_v hg)) bi
theorem w234 (m:List (KI×Qn)) (k:KI) (hk:k∈m.map (·.1)) (hz:∀ k x,kj k m=some x->sz (Qn.q x)<=62):qD Tryz.prog 234 [.pv (kkP k),.bref 11 0] (qw [(1,kO eP m),(11,.box 159 [.mref 1])]) (vB (pK m k)) [(11,.box 159 [.mref 1]),(1,kO eP m)]:=by
 obtain⟨x,hx⟩:=get_mem hk
 exact w234' m k x hx (hz k x hx)
theorem w272 (m:List (KI×Qn)) (l:List KI) (v:Nat) (hl:List.length l<=1000000) (hk:∀ k∈l,k∈m.map (·.1)) (hz:∀ k x,kj k m=some x->sz (Qn.q x)<=62):qD Tryz.prog 272 [.aref 901 v,.clos (.func 234) [] [.bref 11 0]] (qw [(1,(kO eP m)),(11,.box 159 [.mref 1]),(901,.arr v 2 151 (List.map eK l))]) (vI (idxK (pK m) l 0)) [(901,.arr v 2 151 (List.map eK l)),(11,.box 159 [.mref 1]),(1,(kO eP m))]:=by
 refine cL 902 [(1,(kO eP m)),(11,.box 159 [.mref 1]),(901,.arr v 2 151 (List.map eK l))] qf272 Z (nB Z) Z Z (kc (E Z (B.lenA Z Z un243) (l1 (fun (k:Nat)=>[(0,.aref 901 v),(1,.clos (.func 234) [] [.bref 11 0]),(7,vI ((l.length:Nat):Int)),(8,vI ((k:Nat):Int))]) (fun _=>[(1,(kO eP m)),(11,.box 159 [.mref 1]),(901,.arr v 2 151 (List.map eK l))]) (fun k=>k<=List.length l/\idxK (pK m) l 0=idxK (pK m) (List.drop k l) k) (fun k=>List.length l-k) 0 Z ?_ (sb Z Z Z) ?_)))
 · exact⟨zw _,rfl⟩
 intro k hI0
 refine Cp Z Z (fun h1=>?_) (fun h1=>?_)
 ·refine E Z (B.idxE (n:=k) Z Z Z un243 sz151 Z aa) (E Z (B.loadEA (enc:=eK) (l:=l) (n:=k) (z0:=(0,0)) Z Z ag151 sz151 aa Z) (E Z (B.q6 (l:=[(1,(kO eP m)),(11,.box 159 [.mref 1])]) (w234 m (l.getD k (0,0)) (hk _ (jf aa)) hz) Z Z ⟨rfl,rfl,trivial⟩ rfl rfl) (Cb Z Z (fun h2=>?_) (fun h2=>?_))))
  ·refine Rt Z ?_
   exact q5 (val0:=vI ((k:Nat):Int)) (out0:=[(901,.arr v 2 151 (List.map eK l)),(11,.box 159 [.mref 1]),(1,(kO eP m))]) (.inr Z) ae ch bi
  refine E Z (B.add Z Z bj) (pk Z (L1 (k+1) ?_ ?_ (sb Z Z Z)))
  · (exact⟨aa,by rw[hI0.2];exact ik_step aa ab⟩)
  · omega
 refine Rt Z ?_
 exact q5 (val0:=vI (-1)) (out0:=[(901,.arr v 2 151 (List.map eK l)),(11,.box 159 [.mref 1]),(1,(kO eP m))]) (.inr Z) ae ch bi
theorem w233a (m:List (KI×Qn)) (l:List KI) (v:Nat) (hl:List.length l<=1000000) (hk:∀ k∈l,k∈m.map (·.1)) (hz:∀ k x,kj k m=some x->sz (Qn.q x)<=62) (hn:∀ k∈l,pK m k=false):qD Tryz.prog 233 [.aref 901 v,.clos (.func 234) [] [.bref 11 0]] (qw [(1,(kO eP m)),(11,.box 159 [.mref 1]),(901,.arr v 2 151 (List.map eK l))]) (.aref 901 v) [(11,.box 159 [.mref 1]),(1,(kO eP m)),(901,.arr v 2 151 (List.map eK l))]:=by
 refine cL 902 [(1,(kO eP m)),(11,.box 159 [.mref 1]),(901,.arr v 2 151 (List.map eK l))] qf233 Z (nB Z) Z Z (kc (E Z (B.kg (enc:=eK) Z) (E Z (B.q6 (l:=[(1,(kO eP m)),(11,.box 159 [.mref 1]),(901,.arr v 2 151 (List.map eK l))]) (w272 m l v hl hk hz) Z Z ⟨rfl,rfl,rfl,trivial⟩ rfl rfl) (Cp Z Z (fun h1=>?_) (fun h1=>?_)))))
 ·refine Rt Z ?_
  exact q5 (val0:=.aref 901 v) (out0:=[(11,.box 159 [.mref 1]),(1,(kO eP m)),(901,.arr v 2 151 (List.map eK l))]) (.inr Z) ae bi bi
 exact absurd (ik_no hn) h1
theorem w233b (m:List (KI×Qn)) (l:List KI) (v:Nat) (q:Nat) (hl:List.length l<=1000000) (hk:∀ k∈l,k∈m.map (·.1)) (hz:∀ k x,kj k m=some x->sz (Qn.q x)<=62) (hq:idxK (pK m) l 0=q) (hql:q<List.length l):qD Tryz.prog 233 [.aref 901 v,.clos (.func 234) [] [.bref 11 0]] (qw [(1,(kO eP m)),(11,.box 159 [.mref 1]),(901,.arr v 2 151 (List.map eK l))]) (.atrunc 901 v (List.length (kpK m l))) [(11,.box 159 [.mref 1]),(1,(kO eP m)),(901,.arr v 2 151 (List.map eK (kpK m l++List.replicate (l.length-List.length (kpK m l)) (0,0))))]:=by
 refine cL 902 [(1,(kO eP m)),(11,.box 159 [.mref 1]),(901,.arr v 2 151 (List.map eK l))] qf233 Z (nB Z) Z Z (kc (E Z (B.kg (enc:=eK) Z) (E Z (B.q6 (l:=[(1,(kO eP m)),(11,.box 159 [.mref 1]),(901,.arr v 2 151 (List.map eK l))]) (w272 m l v hl hk hz) Z Z ⟨rfl,rfl,rfl,trivial⟩ rfl rfl) (Cp Z Z (fun h1=>?_) (fun h1=>?_)))))
 ·exact absurd h1 aa
 refine tk 4 Z ?_
 refine tn ⟨[(0,.aref 901 v),(1,.clos (.func 234) [] [.bref 11 0]),(5,vI (idxK (pK m) l 0))],[(1,(kO eP m)),(11,.box 159 [.mref 1]),(901,.arr v 2 151 (List.map eK l))]⟩ rfl rfl Z ?_
 rw[hq]
 refine kc (E Z (B.add Z Z bj) (l3 (fun (j:Nat) (i:Nat) (o:List KI)=>[(0,.aref 901 v),(1,.clos (.func 234) [] [.bref 11 0]),(5,vI ((i:Nat):Int)),(6,vI ((j:Nat):Int))]) (fun _ _ o=>[(1,(kO eP m)),(11,.box 159 [.mref 1]),(901,.arr v 2 151 (List.map eK o))]) (fun j i o=>DeI m l j i o) (fun j _ _=>List.length l-j) (q+1) q l Z ?_ (sb Z Z Z) ?_))
 · exact de_0 hq hql
 intro j i o hI0
 have hol:=de_ol hI0
 have hd1:=hI0.1
 have hd2:=hI0.2.1
 refine E Z (B.lenA Z Z un243) (Cp Z Z (fun h2=>?_) (fun h2=>?_))
 ·refine E Z (B.idxE (n:=j) Z Z Z un243 sz151 Z aa) (E Z (B.loadEA (enc:=eK) (l:=o) (n:=j) (z0:=(0,0)) Z Z ag151 sz151 aa Z) (E Z (B.q6 (l:=[(1,(kO eP m)),(11,.box 159 [.mref 1])]) (w234 m (o.getD j (0,0)) (hk _ (gd_mem2 hI0 aa)) hz) Z Z ⟨rfl,rfl,trivial⟩ rfl rfl) (Cb Z Z (fun h3=>?_) (fun h3=>?_))))
  ·refine E Z (B.idxE (n:=i) Z Z Z un243 sz151 Z aa) (E Z (B.setA (z0:=(o.getD j (0,0))) Z Z Z Z sz151 aa (fun _=>rfl)) (E Z (B.add Z Z bj) (E Z (B.add Z Z bj) (pk Z (L3 (j+1) (i+1) (List.set o i (o.getD j (0,0))) ?_ ?_ (sb Z Z Z))))))
   · first|exact de_k hI0 aa ab|exact de_d hI0 aa ab
   · omega
  refine E Z (B.add Z Z bj) (pk Z (L3 (j+1) i o ?_ ?_ (sb Z Z Z)))
  · first|exact de_k hI0 aa ab|exact de_d hI0 aa ab
  · omega
 refine E Z (B.slL (l:=o) (i:=i) Z Z Z un243 sz151 Z aa) (E Z (B.clrK (l:=o) (o:=i) (n:=(o.length-i)) Z Z aa aa un243 in151 Z Z) ?_)
 have hol2:List.length (List.take i o++List.replicate (o.length-i) ((0,0):KI))=List.length o:=by rw[za,zn,qd];omega
 refine E Z (B.slA (n:=i) Z Z Z un243 sz151 Z aa) ?_
 refine Rt Z ?_
 exact q5 (val0:=.atrunc 901 v i) (out0:=[(11,.box 159 [.mref 1]),(1,(kO eP m)),(901,.arr v 2 151 (List.map eK (List.take i o++List.replicate (o.length-i) (0,0))))]) (.inr Z) ae (by rw[de_len hI0 aa]) (by rw[de_end hI0 aa])
end Go.Lens.Tb
end
section
namespace Go.Proofs
open Go.Shelf
def Tryz.lays178_ren:Go.Shelf.Ren:=⟨fun|5=>178|7=>229|n=>n,fun|23=>159|25=>151|3=>156|4=>4|20=>20|n=>n,fun|n=>n⟩
theorem Tryz.lays178:Go.Proofs.SlLaysW.n5 Tryz.prog Tryz.lays178_ren:={
  mixed:=ae
  f5:=⟨Tryz.f178.name,ah,Tryz.func178.trans (congrArg some ae)⟩
  f7:=Tryz.func229.trans (congrArg some ae)
  t4:=Tryz.underlying4
  a4:=Tryz.isAgg4
  z4:=Tryz.sizeOf4
  v4:=Tryz.zeroValue4
  t20:=Tryz.underlying20
  a20:=Tryz.isAgg20
  z20:=Tryz.sizeOf20
  v20:=Tryz.zeroValue20
  t23:=Tryz.underlying159
  a23:=Tryz.isAgg159
  z23:=Tryz.sizeOf159
  v23:=Tryz.zeroValue159 }
end Go.Proofs
end
section
namespace Go.Lens.Un
theorem nd_len {β:Type} [DecidableEq β]:∀ {l r:List β},l.Nodup->(∀ x∈l,x∈r)->l.length<=r.length
 | [],_,_,_=>zw _
 | x::l,r,hn,h=>by
  rw[List.nodup_cons] at hn
  have hx:=h x ao
  have:=nd_len (l:=l) (r:=r.erase x) hn.2 fun y hy=>(List.mem_erase_of_ne (by rintro rfl;exact hn.1 hy)).2 (h y (by simp[hy]))
  rw[List.length_erase_of_mem hx] at this
  have:=List.length_pos_of_mem hx
  rw[zb];omega
def visL {α:Type} (o:List α) (n:Array Nat):List α:=n.toList.filterMap fun i=>o[i]?
structure VI {α:Type} (o:List α) (n:Array Nat):Prop where
 nd:n.toList.Nodup
 lt:∀ i∈n.toList,i<o.length
theorem VI.nil {α:Type} (o:List α):VI o #[]:=⟨List.nodup_nil,fun _ h=>by cases h⟩
theorem visL_nil {α:Type} (o:List α):visL o #[]=[]:=rfl
section
variable {α:Type} {o:List α} {n:Array Nat} {i:Nat} {x:α}
theorem VI.push (h:VI o n) (hi:o[i]? =some x) (hn:i∉n):VI o (n.push i):=by
 refine⟨?_,fun j hj=>?_⟩
 ·rw[Array.toList_push,List.nodup_append]
  refine⟨h.nd,by simp,fun a ha b hb=>?_⟩
  rw[zg.1 hb]
  rintro rfl
  exact hn aR
 rw[Array.toList_push] at hj
 rcases zI.1 hj with e|e
 ·exact h.lt j e
 rw[zg.1 e];exact (List.getElem?_eq_some_iff.1 hi).1
theorem j4 (hi:o[i]? =some x):visL o (n.push i)=visL o n++[x]:=by
 unfold visL
 rw[Array.toList_push,List.filterMap_append]
 simp[hi]
theorem VI.size (h:VI o n):n.size<=o.length:=by
 have:=nd_len h.nd (r:=List.range o.length) fun j hj=>List.mem_range.2 (h.lt j hj)
 simpa using this
theorem VI.size_push (h:VI o n) (hi:o[i]? =some x) (hn:i∉n):n.size<o.length:=by
 have:=(h.push hi hn).size
 rw[Array.size_push] at this;omega
theorem VI.meas (h:VI o n) (hi:o[i]? =some x) (hn:i∉n):o.length-(n.push i).size<o.length-n.size:=by
 have:=h.size_push hi hn
 rw[Array.size_push];omega
theorem vis_range (o:List α):(List.range o.length).filterMap (fun i=>o[i]?)=o:=by
 induction o with
 | nil=>rfl
 | cons a l ih=>
  rw[zb,List.range_succ_eq_map,List.filterMap_cons]
  simp only[List.getElem?_cons_zero,List.filterMap_map]
  have:((fun i=>(a::l)[i]?) ∘ Nat.succ)=fun i=>l[i]? :=by funext i;simp
  rw[this,ih]
theorem VI.all (h:VI o n) (ha:∀ i,i<o.length->i∈n):(visL o n).Perm o:=by
 have hp:n.toList.Perm (List.range o.length):=by
  rw[List.perm_ext_iff_of_nodup h.nd List.nodup_range]
  intro j
  rw[List.mem_range]
  exact⟨h.lt j,fun hj=>by simpa using ha j hj⟩
 have:=hp.filterMap (fun i=>o[i]?)
 rw[vis_range] at this
 exact this
theorem vis_len (o:List α) (n:Array Nat):(visL o n).length<=n.size:=by
 have:=List.length_filterMap_le (fun i=>o[i]?) n.toList
 rw[qj] at this
 exact this
theorem vis_mem (h:x∈visL o n):x∈o:=by
 unfold visL at h
 rw[List.mem_filterMap] at h
 obtain⟨j,_,hj⟩:=h
 exact List.mem_of_getElem? hj
end
def scl (b:Rat) (R:PL):PL:=R.map fun p=>(p.1,p.2*b)
theorem cf_scl (b:Rat) (R:PL) (k:KI):cf (scl b R) k=cf R k*b:=by
 induction R with
 | nil=>simp[scl,cf_nil,Rat.zero_mul]
 | cons p l ih=>
  obtain⟨a,c⟩:=p
  show cf ((a,c*b)::scl b l) k=_
  rw[jp,jp,ih]
  split<;>grind
theorem scl_keys (b:Rat) (R:PL):(scl b R).map (·.1)=R.map (·.1):=by simp[scl]
theorem Eqv.scl {R R':PL} (b:Rat) (h:Eqv R R'):Eqv (scl b R) (scl b R'):=fun k=>by rw[cf_scl,cf_scl,h k]
def kadd (a b:KI):KI:=(a.1+b.1,a.2+b.2)
def rowP (a:KI×Rat) (B:PL):PL:=B.map fun b=>(kadd a.1 b.1,a.2*b.2)
def qO (A B:PL):PL:=A.flatMap fun a=>rowP a B
theorem cf_row (a:KI×Rat) (B:PL) (k:KI):cf (rowP a B) k=a.2*lin (fun b=>if kadd a.1 b=k then 1 else 0) B:=by
 induction B with
 | nil=>simp[rowP,cf_nil,lin,Rat.mul_zero]
 | cons b l ih=>
  obtain⟨b,d⟩:=b
  show cf ((kadd a.1 b,a.2*d)::rowP a l) k=_
  rw[jp,ih]
  simp only[lin]
  split<;>grind
theorem cf_prods (A B:PL) (k:KI):cf (qO A B) k=lin (fun a=>lin (fun b=>if kadd a b=k then 1 else 0) B) A:=by
 induction A with
 | nil=>rfl
 | cons a l ih=>
  obtain⟨a,c⟩:=a
  show cf (rowP (a,c) B++qO l B) k=_
  rw[cf_app,cf_row,ih]
  rfl
theorem Eqv.qO {A A' B B':PL} (h:Eqv A A') (g:Eqv B B'):Eqv (qO A B) (qO A' B'):=fun k=>by
 rw[cf_prods,cf_prods,h.lin]
 congr 1
 funext a
 exact g.lin _
theorem prods_keys {A B:PL} {k:KI}:k∈(qO A B).map (·.1)↔∃ a∈A.map (·.1),∃ b∈B.map (·.1),k=kadd a b:=by
 simp only[qO,rowP,zF,List.mem_flatMap]
 constructor
 ·rintro⟨p,⟨a,ha,b,hb,rfl⟩,rfl⟩;exact⟨a.1,⟨a,ha,rfl⟩,b.1,⟨b,hb,rfl⟩,rfl⟩
 rintro⟨_,⟨a,ha,rfl⟩,_,⟨b,hb,rfl⟩,rfl⟩;exact⟨_,⟨a,ha,b,hb,rfl⟩,rfl⟩
theorem prods_len (A B:PL):(qO A B).length=A.length*B.length:=by
 induction A with
 | nil=>simp[qO]
 | cons a l ih=>
  show (rowP a B++qO l B).length=_
  rw[za,ih,zb,Nat.succ_mul]
  simp[rowP];omega
theorem KP.keysP {P:PL} {m:List (KI×Qn)} (h:KP P m):∀ k∈(plM m).map (·.1),k∈P.map (·.1):=by
 intro k hk
 exact h.mem k (by simpa [plM,List.map_map,Function.comp_def] using hk)
theorem KP.len {P:PL} {m:List (KI×Qn)} (h:KP P m):m.length<=P.length:=by
 have:=nd_len h.nd h.mem
 simpa using this
def kax (ax:Int) (k:KI):Int:=if ax=0 then k.1 else k.2
def kdec (ax:Int) (k:KI):KI:=if ax=0 then (k.1-1,k.2) else (k.1,k.2-1)
def derT (ax:Int) (p:KI×Rat):PL:=if 0<kax ax p.1 then [(kdec ax p.1,p.2*(kax ax p.1:Int))] else []
def j1 (ax:Int) (A:PL):PL:=A.flatMap (derT ax)
theorem cf_der (ax:Int) (A:PL) (k:KI):cf (j1 ax A) k=lin (fun a=>if 0<kax ax a/\kdec ax a=k then (kax ax a:Rat) else 0) A:=by
 induction A with
 | nil=>rfl
 | cons p l ih=>
  obtain⟨a,c⟩:=p
  show cf (derT ax (a,c)++j1 ax l) k=_
  rw[cf_app,ih]
  simp only[lin]
  unfold derT
  by_cases h:0<kax ax a
  ·simp only[h,qp,true_and,jp,cf_nil]
   split<;>grind
  simp only[h,qq,false_and,cf_nil]
  grind
theorem Eqv.der {A A':PL} (ax:Int) (h:Eqv A A'):Eqv (j1 ax A) (j1 ax A'):=fun k=>by rw[cf_der,cf_der,h.lin]
def turT (p:KI×Rat):KI×Rat:=((p.1.2,p.1.1),if p.1.2%2=1 then -p.2 else p.2)
def turP (A:PL):PL:=A.map turT
theorem cf_tur (A:PL) (k:KI):cf (turP A) k=lin (fun a=>if (a.2,a.1)=k then (if a.2%2=1 then -1 else 1) else 0) A:=by
 induction A with
 | nil=>rfl
 | cons p l ih=>
  obtain⟨a,c⟩:=p
  show cf (turT (a,c)::turP l) k=_
  unfold turT
  rw[jp,ih]
  simp only[lin]
  by_cases h1:(a.2,a.1)=k<;>by_cases h2:a.2%2=1<;>simp only[h1,h2,qp,qq]<;>grind
theorem Eqv.tur {A A':PL} (h:Eqv A A'):Eqv (turP A) (turP A'):=fun k=>by rw[cf_tur,cf_tur,h.lin]
abbrev ZL:=List (KI×Int)
def cI (p:KI×Int):KI×Rat:=(p.1,(p.2:Rat))
def l1 (Z:ZL):Nat:=(Z.map fun p=>p.2.natAbs).sum
def NB (P:PL) (B:Nat):Prop:=∃ Z:ZL,P=Z.map cI/\l1 Z<=B
def cfZ (Z:ZL) (k:KI):Int:=(Z.map fun p=>if p.1=k then p.2 else 0).sum
section
variable {P R:PL} {B C:Nat} {Z Y:ZL} {b:Rat} {k:KI}
theorem cfZ_e (k:KI):∀ Z:ZL,cf (Z.map cI) k=((cfZ Z k:Int):Rat)
 | []=>rfl
 | (a,c)::Z=>by
  have e:cf (((a,c)::Z).map cI) k=(if a=k then (c:Rat) else 0)+cf (Z.map cI) k:=jp a (c:Rat) (Z.map cI) k
  have e2:cfZ ((a,c)::Z) k=(if a=k then c else 0)+cfZ Z k:=rfl
  rw[e,e2,cfZ_e k Z,Rat.intCast_add]
  split<;>rfl
theorem cfZ_l (k:KI):∀ Z:ZL,(cfZ Z k).natAbs<=l1 Z
 | []=>zC _
 | (a,c)::Z=>by
  have h:=cfZ_l k Z
  have e1:cfZ ((a,c)::Z) k=(if a=k then c else 0)+cfZ Z k:=rfl
  have e2:l1 ((a,c)::Z)=c.natAbs+l1 Z:=rfl
  rw[e1,e2]
  split<;>omega
theorem NB.cf (h:NB P B) (k:KI):∃ z:Int,Go.Lens.Un.cf P k=(z:Rat)/\z.natAbs<=B:=by
 obtain⟨Z,rfl,hZ⟩:=h
 exact⟨_,cfZ_e k Z,qh (cfZ_l k Z) hZ⟩
theorem l1_app:l1 (Z++Y)=l1 Z+l1 Y:=by unfold l1;rw[qc,List.sum_append]
theorem l1_mem:∀ {Z:ZL} {p:KI×Int},p∈Z->p.2.natAbs<=l1 Z
 | a::Z,p,h=>by
  have e:l1 (a::Z)=a.2.natAbs+l1 Z:=rfl
  rcases zG.1 h with rfl|h
  ·omega
  have:=l1_mem h;omega
theorem NB.app (h:NB P B) (g:NB R C):NB (P++R) (B+C):=by
 obtain⟨Z,rfl,hZ⟩:=h
 obtain⟨Y,rfl,hY⟩:=g
 exact⟨Z++Y,by rw[qc],by rw[l1_app];omega⟩
theorem NB.qO (h:NB P B) (g:NB R C):NB (Go.Lens.Un.qO P R) (B*C):=by
 obtain⟨Z,rfl,hZ⟩:=h
 obtain⟨Y,rfl,hY⟩:=g
 refine⟨Z.flatMap fun a=>Y.map fun b=>(kadd a.1 b.1,a.2*b.2),?_,qh ?_ (Nat.mul_le_mul hZ hY)⟩
 ·unfold Go.Lens.Un.qO rowP
  rw[List.flatMap_map,List.map_flatMap]
  congr 1
  funext a
  rw[List.map_map,List.map_map]
  congr 1
  funext b
  unfold cI
  simp only[Function.comp,Rat.intCast_mul]
 have row:∀ (a:KI×Int) (Y:ZL),l1 (Y.map fun b=>(kadd a.1 b.1,a.2*b.2))=a.2.natAbs*l1 Y:=by
  intro a Y
  induction Y with
  | nil=>rfl
  | cons b Y ih=>
   have e:l1 ((b::Y).map fun b=>(kadd a.1 b.1,a.2*b.2))=(a.2*b.2).natAbs+l1 (Y.map fun b=>(kadd a.1 b.1,a.2*b.2)):=rfl
   have e2:l1 (b::Y)=b.2.natAbs+l1 Y:=rfl
   rw[e,e2,ih,Int.natAbs_mul,Nat.mul_add]
 induction Z with
 | nil=>simp[l1]
 | cons a Z ih=>
  have e:l1 (a::Z)=a.2.natAbs+l1 Z:=rfl
  rw[List.flatMap_cons,l1_app,row,e,Nat.add_mul]
  exact Nat.add_le_add_left (ih aa) _
theorem l1_nf:∀ (Z:ZL) (l:List KI),l.Nodup->l1 (l.map fun k=>(k,cfZ Z k))<=l1 Z
 | [],l,_=>by
  induction l with
  | nil=>exact zC _
  | cons a l ih=>
   rename_i h
   have:=ih (List.nodup_cons.1 h).2
   rw[zA]
   have e:l1 ((a,cfZ [] a)::l.map fun k=>(k,cfZ [] k))=0+l1 (l.map fun k=>(k,cfZ [] k)):=rfl
   omega
 | (a,c)::Z,l,hl=>by
  have ih:=l1_nf Z l hl
  have e2:l1 ((a,c)::Z)=c.natAbs+l1 Z:=rfl
  have key:∀ l:List KI,l.Nodup->l1 (l.map fun k=>(k,cfZ ((a,c)::Z) k))<=(if a∈l then c.natAbs else 0)+l1 (l.map fun k=>(k,cfZ Z k)):=by
   intro l
   induction l with
   | nil=>intro _;exact zw _
   | cons b l ih=>
    intro h
    have h:=List.nodup_cons.1 h
    have g:=ih h.2
    have e3:l1 ((b::l).map fun k=>(k,cfZ ((a,c)::Z) k))=((if a=b then c else 0)+cfZ Z b).natAbs+l1 (l.map fun k=>(k,cfZ ((a,c)::Z) k)):=rfl
    have e4:l1 ((b::l).map fun k=>(k,cfZ Z k))=(cfZ Z b).natAbs+l1 (l.map fun k=>(k,cfZ Z k)):=rfl
    rw[e3,e4]
    by_cases e:a=b
    ·subst e
     rw[if_neg h.1] at g
     rw[if_pos rfl,if_pos ql]
     omega
    rw[if_neg e]
    have:(if a∈b::l then c.natAbs else 0)=(if a∈l then c.natAbs else 0):=by simp[e]
    rw[this]
    omega
  have:=key l hl
  rw[e2]
  split at this<;>omega
theorem NB.of (h:∀ p∈P,p.2.den=1) (l:(P.map fun p=>p.2.num.natAbs).sum<=B):NB P B:=by
 refine⟨P.map fun p=>(p.1,p.2.num),?_,?_⟩
 ·rw[List.map_map]
  conv=>lhs;rw[<-List.map_id P]
  refine List.map_congr_left fun p hp=>?_
  unfold cI
  exact Prod.ext Z (Rat.ext Z (h p hp))
 unfold l1;rw[List.map_map];exact l
def NbD (P:PL) (B:Nat):Prop:=(∀ p∈P,p.2.den=1)/\(P.map fun p=>p.2.num.natAbs).sum<=B
theorem NbD.nb (h:NbD P B):NB P B:=NB.of h.1 h.2
instance:Decidable (NbD P B):=by unfold NbD;exact inferInstance
theorem NB.d (h:NB P B):NbD P B:=by
 obtain⟨Z,rfl,hZ⟩:=h
 refine⟨fun p hp=>?_,qh (Nat.le_of_eq ?_) hZ⟩
 ·obtain⟨a,_,rfl⟩:=zF.1 hp
  exact Rat.den_intCast _
 unfold l1
 rw[List.map_map]
 exact congrArg List.sum (List.map_congr_left fun p _=>by unfold cI;simp only[Function.comp,Rat.num_intCast])
instance:Decidable (NB P B):=decidable_of_iff _ ⟨NbD.nb,NB.d⟩
theorem NB.le (h:NB P B) (hB:B<=C):NB P C:=by
 obtain⟨Z,rfl,hZ⟩:=h
 exact⟨Z,rfl,qh hZ hB⟩
theorem NB.nil:NB [] 0:=⟨[],rfl,zC _⟩
theorem NB.subP {L:PL} (h:NB P B) (hk:(L.map (·.1)).Nodup) (hv:∀ p∈L,p.2=Go.Lens.Un.cf P p.1):NB L B:=by
 obtain⟨Z,rfl,hZ⟩:=h
 refine⟨(L.map (·.1)).map fun k=>(k,cfZ Z k),?_,qh (l1_nf Z _ hk) hZ⟩
 rw[List.map_map,List.map_map]
 conv=>lhs;rw[<-List.map_id L]
 refine List.map_congr_left fun p hp=>?_
 unfold cI
 simp only[Function.comp,id,<-cfZ_e,<-hv p hp]
theorem NB.sub {l:List (KI×Qn)} (h:NB P B) (hk:(l.map (·.1)).Nodup) (hv:∀ p∈l,p.2.q=Go.Lens.Un.cf P p.1):NB (plM l) B:=by
 refine h.subP (by unfold plM;rw[List.map_map];exact hk) fun p hp=>?_
 unfold plM at hp
 obtain⟨a,ha,rfl⟩:=zF.1 hp
 exact hv a ha
theorem vis_nd {α β:Type} {o:List α} {n:Array Nat} {f:α->β} (h:VI o n) (ho:(o.map f).Nodup):((visL o n).map f).Nodup:=by
 unfold visL List.Nodup
 rw[List.pairwise_map,List.pairwise_filterMap]
 refine h.1.imp fun {i j} hij x hx y hy e=>hij ?_
 have h1:(o.map f)[i]? =some (f x):=by rw[qe,hx];rfl
 have h2:(o.map f)[j]? =some (f x):=by rw[qe,hy,e];rfl
 obtain⟨hi,_⟩:=List.getElem?_eq_some_iff.1 h1
 exact (List.getElem?_inj hi ho).1 (h1.trans h2.symm)
theorem NB.kp {m:List (KI×Qn)} (h:NB P B) (hm:KP P m):NB (plM m) B:=h.sub hm.nd fun p hp=>hm.val hp
theorem NB.vis {m:List (KI×Qn)} {n:Array Nat} (h:NB P B) (hm:KP P m) (hI:VI m n):NB (plM (visL m n)) B:=h.sub (vis_nd hI hm.nd) fun _ hp=>hm.val (vis_mem hp)
theorem NB.sc (h:NB P B) (hb:b=1\/b= -1):NB (scl b P) B:=by
 obtain⟨Z,rfl,hZ⟩:=h
 rcases hb with rfl|rfl
 ·refine⟨Z,?_,hZ⟩
  unfold scl
  rw[List.map_map]
  exact List.map_congr_left fun p _=>by unfold cI;simp only[Function.comp,Rat.mul_one]
 refine⟨Z.map fun p=>(p.1, -p.2),?_,?_⟩
 ·unfold scl
  rw[List.map_map,List.map_map]
  exact List.map_congr_left fun p _=>by unfold cI;simp only[Function.comp,Rat.mul_neg,Rat.mul_one,Rat.intCast_neg]
 unfold l1 at hZ ⊢
 rw[List.map_map]
 simpa only[Function.comp_def,Int.natAbs_neg] using hZ
theorem NB.tur (h:NB P B):NB (turP P) B:=by
 obtain⟨Z,rfl,hZ⟩:=h
 refine⟨Z.map fun p=>((p.1.2,p.1.1),if p.1.2%2=1 then -p.2 else p.2),?_,?_⟩
 ·unfold turP
  rw[List.map_map,List.map_map]
  refine List.map_congr_left fun p _=>?_
  unfold turT cI
  simp only[Function.comp]
  split
  ·rw[Rat.intCast_neg]
  rfl
 refine qh (Nat.le_of_eq ?_) hZ
 unfold l1
 rw[List.map_map]
 congr 1
 refine List.map_congr_left fun p _=>?_
 simp only[Function.comp]
 split
 ·rw[Int.natAbs_neg]
 rfl
theorem NB.row {c:Rat} {a:KI} (h:NB P B) (hc:c.den=1) (hC:c.num.natAbs<=C):NB (rowP (a,c) P) (C*B):=by
 have g:NB [(a,c)] C:=NB.of (fun p hp=>by rw[zg.1 hp];exact hc) (by simpa using hC)
 have:=g.qO h
 simpa [Go.Lens.Un.qO] using this
theorem NB.der {ax:Int} (h:NB P B) (hk:∀ p∈P,kax ax p.1<=32):NB (j1 ax P) (32*B):=by
 obtain⟨Z,rfl,hZ⟩:=h
 refine⟨Z.flatMap fun p=>if 0<kax ax p.1 then [(kdec ax p.1,p.2*kax ax p.1)] else [],?_,qh ?_ (Nat.mul_le_mul_left 32 hZ)⟩
 ·unfold j1
  rw[List.flatMap_map,List.map_flatMap]
  congr 1
  funext p
  unfold derT cI
  dsimp only
  split
  ·simp only[zA,z6,Rat.intCast_mul]
  rfl
 clear hZ
 induction Z with
 | nil=>exact zC _
 | cons a Z ih=>
  have e:l1 (a::Z)=a.2.natAbs+l1 Z:=rfl
  have ih:=ih fun p hp=>hk p (zO _ hp)
  have h1:=hk (cI a) (zF.2 ⟨a,ql,rfl⟩)
  rw[List.flatMap_cons,l1_app,e]
  have:l1 (if 0<kax ax a.1 then [(kdec ax a.1,a.2*kax ax a.1)] else [])<=32*a.2.natAbs:=by
   split
   ·rename_i h0
    have e2:l1 [(kdec ax a.1,a.2*kax ax a.1)]=(a.2*kax ax a.1).natAbs+0:=rfl
    rw[e2,Int.natAbs_mul,Nat.add_zero,Nat.mul_comm]
    exact Nat.mul_le_mul_right _ (by change kax ax a.1<=32 at h1;omega)
   exact zw _
  omega
theorem sz_z {z:Int} (h:z.natAbs<=536870912):sz (z:Rat)<=30:=qh (sz_int z) (Nat.max_le.2 ⟨jb (Nat.lt_of_le_of_lt h ah),ah⟩)
theorem NB.sz (h:NB P B) (hB:B<=536870912) (k:KI):sz (Go.Lens.Un.cf P k)<=30:=by
 obtain⟨z,e,hz⟩:=h.cf k
 rw[e];exact sz_z (qh hz hB)
end
end Go.Lens.Un
end
section
namespace Go.Lens.Tb
open Go.Proofs Go.Lens.Un
variable [Lz] [Dn]
set_option maxRecDepth 100000
attribute [local irreducible] TK PK T RG EfR Body CG
theorem w178 (m:List (KI×Qn)) (x y:Nat) (hxy:x≠y):qD Tryz.prog 178 [.mref x] (qw [(x,kO eP m)]) (.mref y) [(y,kO eP m)]:=by
 refine⟨fun k hk=>?_,fun G w vs M hv=>.inl ?_⟩
 ·simp[DV.qP,DV.refs] at hk;subst hk;exact⟨kO eP m,by simp[qG]⟩
 obtain⟨v,rfl,hv1⟩:=hv.one
 simp only[qx] at hv1
 obtain⟨_,rfl⟩:=hv1
 obtain⟨k1,es,e1,e2,e3,e4,e5,e6⟩:=kO_at (M.ms x _ (show qw [(x,kO eP m)] x=some (kO eP m) by simp[qG]))
 refine⟨Tryz.call178 _ _,Calls.mono (AnyW.maps_Clone Tryz.lays178 (G.ρ x).map es.toArray es.length w e2) ?_⟩
 rintro e w' ⟨rfl,rfl⟩
 have hln:qw [(x,kO eP m)] y=none:=by simp[qG,hxy];rfl
 refine⟨_,rfl,_,jw (B:={ map:=w.heap.size }) M.fresh hln ?_ ?_ ak am⟩
 ·simp[qx,Gh.new]
 exact at_kO (es:=es) bS bS bT e3 e4 (qy.mono (later_new y _ _).rd _ _ e5)
def PlI (P:PL) (o:List (KI×Qn)) (b:Qn) (n:Array Nat) (q:List (KI×Qn)):Prop:=VI o n/\KP (P++scl b.q (plM (visL o n))) q
section
variable {P R:PL} {m o q:List (KI×Qn)} {b:Qn} {n:Array Nat} {i:Nat} {k:KI} {v:Qn}
theorem plM_app (a b:List (KI×Qn)):plM (a++b)=plM a++plM b:=qc
theorem scl_app (b:Rat) (A B:PL):scl b (A++B)=scl b A++scl b B:=qc
theorem pl_0 (hm:KP P m):PlI P o b #[] m:=⟨VI.nil _,by rw[visL_nil];simpa [plM,scl] using hm⟩
theorem pl_s (hI:PlI P o b n q) (hk:o[i]? =some (k,v)) (hi:i∉n):PlI P o b (n.push i) (addK k (Qn.mul v b) q):=by
 refine⟨hI.1.push hk hi,?_⟩
 rw[j4 hk,plM_app,scl_app,<-z8]
 have:=hI.2.add k (Qn.mul v b)
 rw[Qn.j6] at this
 exact this
theorem nb_v {B:Nat} (h:NB P B) (hm:KP P m) (hk:m[i]? =some (k,v)):∃ z:Int,v.q=(z:Rat)/\z.natAbs<=B:=by
 rw[hm.val (List.mem_of_getElem? hk)];exact h.cf k
theorem nb_1 {c:Rat} (h:c=1\/c= -1):sz c<=1:=by
 rcases h with rfl|rfl<;>decide +kernel
def PlZ (P R:PL) (b:Rat):Prop:=∃ A B,NB P A/\NB R B/\A+B<=536870912/\(b=1\/b= -1)
def TiZ (P R:PL):Prop:=∃ A B,NB P A/\NB R B/\A<=536870912/\B<=536870912/\2*(A*B)<=536870912
theorem pl_m (_:KP P m) (ho:KP R o) (hz:PlZ P R (Qn.q b)) (hk:o[i]? =some (k,v)):sz (Qn.q v)+sz (Qn.q b)<=62:=by
 obtain⟨A,B,_,nR,hl,hb⟩:=hz
 obtain⟨z,e,hz⟩:=nb_v nR ho hk
 have:=sz_z (z:=z) aa
 have:=nb_1 hb
 rw[e];omega
theorem pl_a (hm:KP P m) (ho:KP R o) (hz:PlZ P R (Qn.q b)) (hI:PlI P o b n q) (hk:o[i]? =some (k,v)) {K:KI}:∀ x,kj K q=some x->sz (Qn.q x)+sz (Qn.q (Qn.mul v b))<=62:=by
 intro x hx
 have h0:=pl_m hm ho hz hk
 obtain⟨A,B,nP,nR,hl,hb⟩:=hz
 obtain⟨z,e,hz⟩:=nb_v nR ho hk
 have h1:=(nP.app ((nR.vis ho hI.1).sc hb)).sz hl K
 rw[<-hI.2.val (jY hx)] at h1
 have h2:=sz_mul v.q b.q
 have:=sz_z (z:=z) aa
 have:=nb_1 hb
 rw[Qn.j6]
 rw[e] at h2
 rw[e];omega
theorem plM_perm {a b:List (KI×Qn)} (h:a.Perm b):(plM a).Perm (plM b):=h.map _
theorem pl_end (hm:KP P m) (ho:KP R o) (hI:PlI P o b n q) (ha:∀ i,i<o.length->i∈n):KP (P++scl b.q R) q:=by
 have hp:=plM_perm (hI.1.all ha)
 refine hI.2.congr (Eqv.rfl.app (Eqv.scl _ ((Eqv.perm hp).trans ho.eqv))) fun k hk=>?_
 simp only[qc,zI,scl_keys] at hk ⊢
 exact hk.imp id fun h=>ho.keysP k ((hp.map (·.1)).mem_iff.1 h)
def KB (P:PL):Prop:=∀ k∈P.map (·.1),0<=k.1/\0<=k.2/\k.1+k.2<=400
theorem ti_b (hm:KP P m) (hP:KB P) (hk:m[i]? =some (k,v)):0<=k.1/\0<=k.2/\k.1+k.2<=400:=hP k (hm.mem k (zF.2 ⟨_,List.mem_of_getElem? hk,rfl⟩))
def TiI (m o:List (KI×Qn)) (n:Array Nat) (q:List (KI×Qn)):Prop:=VI m n/\KP (qO (plM (visL m n)) (plM o)) q
def TjI (m o:List (KI×Qn)) (n:Array Nat) (a:KI×Qn) (n2:Array Nat) (q:List (KI×Qn)):Prop:=VI o n2/\KP (qO (plM (visL m n)) (plM o)++rowP (a.1,a.2.q) (plM (visL o n2))) q
variable {n2:Array Nat} {q2:List (KI×Qn)} {j:Nat} {k2:KI} {v2:Qn}
theorem ti_0:TiI m o #[] []:=⟨VI.nil _,by rw[visL_nil];exact KP.nil⟩
theorem tj_0 {a:KI×Qn} (h:TiI m o n q):TjI m o n a #[] q:=⟨VI.nil _,by rw[visL_nil];simpa [plM,rowP] using h.2⟩
theorem rowP_app (a:KI×Rat) (A B:PL):rowP a (A++B)=rowP a A++rowP a B:=qc
theorem tj_s {a:KI×Qn} (hI:TjI m o n a n2 q2) (hk:o[j]? =some (k2,v2)) (hi:j∉n2):TjI m o n a (n2.push j) (addK (a.1.1+k2.1,a.1.2+k2.2) (Qn.mul a.2 v2) q2):=by
 refine⟨hI.1.push hk hi,?_⟩
 rw[j4 hk,plM_app,rowP_app,<-z8]
 have:=hI.2.add (a.1.1+k2.1,a.1.2+k2.2) (Qn.mul a.2 v2)
 rw[Qn.j6] at this
 exact this
theorem prods_app (A B C:PL):qO (A++B) C=qO A C++qO B C:=List.flatMap_append
theorem ti_s (hI:TiI m o n q) (hJ:TjI m o n (k,v) n2 q2) (hk:m[i]? =some (k,v)) (hi:i∉n) (ha:∀ i,i<o.length->i∈n2):TiI m o (n.push i) q2:=by
 refine⟨hI.1.push hk hi,?_⟩
 have hp:=plM_perm (hJ.1.all ha)
 rw[j4 hk,plM_app,prods_app]
 have e:qO (plM [(k,v)]) (plM o)=rowP (k,v.q) (plM o):=by simp[qO,plM]
 rw[e]
 have hr:(rowP (k,v.q) (plM (visL o n2))).Perm (rowP (k,v.q) (plM o)):=hp.map _
 exact hJ.2.congr (Eqv.rfl.app (Eqv.perm hr)) fun k hk=>by
  simp only[qc,zI] at hk ⊢
  exact hk.imp id fun h=>(hr.map (·.1)).mem_iff.1 h
theorem ti_end (hm:KP P m) (ho:KP R o) (hI:TiI m o n q) (ha:∀ i,i<m.length->i∈n):KP (qO P R) q:=by
 have hp:=plM_perm (hI.1.all ha)
 refine hI.2.congr (Eqv.qO ((Eqv.perm hp).trans hm.eqv) ho.eqv) fun k hk=>?_
 rw[prods_keys] at hk ⊢
 obtain⟨a,h1,b,h2,rfl⟩:=hk
 exact⟨a,hm.keysP a ((hp.map (·.1)).mem_iff.1 h1),b,ho.keysP b h2,rfl⟩
theorem ti_m (hm:KP P m) (ho:KP R o) (hz:TiZ P R) (hk:m[i]? =some (k,v)) (hk2:o[j]? =some (k2,v2)):sz (Qn.q v)+sz (Qn.q v2)<=62:=by
 obtain⟨A,B,nP,nR,hA,hB,hl⟩:=hz
 obtain⟨z,e,hz⟩:=nb_v nP hm hk
 obtain⟨y,f,hy⟩:=nb_v nR ho hk2
 have:=sz_z (z:=z) aa
 have:=sz_z (z:=y) aa
 rw[e,f];omega
theorem ti_a (hm:KP P m) (ho:KP R o) (hz:TiZ P R) (hI:TiI m o n q) (hJ:TjI m o n (k,v) n2 q2) (hk:m[i]? =some (k,v)) (_:i∉n) (hk2:o[j]? =some (k2,v2)) {k3:KI} :
  ∀ x,kj k3 q2=some x->sz (Qn.q x)+sz (Qn.q (Qn.mul v v2))<=62:=by
 intro x hx
 obtain⟨A,B,nP,nR,hA,hB,hl⟩:=hz
 obtain⟨z,e,hz⟩:=nb_v nP hm hk
 obtain⟨y,f,hy⟩:=nb_v nR ho hk2
 have h1:=(((nP.vis hm hI.1).qO (nR.kp ho)).app ((nR.vis ho hJ.1).row (c:=v.q) (a:=k) (by rw[e];exact Rat.den_intCast z) (by rw[e,Rat.num_intCast];exact hz))).sz aa k3
 rw[<-hJ.2.val (jY hx)] at h1
 rw[Qn.j6,e,f,<-Rat.intCast_mul]
 have:=Nat.mul_le_mul hz hy
 rw[<-Int.natAbs_mul] at this
 have:=sz_z (z:=z*y) aa
 omega
end
theorem w102' (m o:List (KI×Qn)) (P R:PL) (b:Qn) (hm:KP P m) (ho:KP R o) (hz:PlZ P R (Qn.q b)):qD Tryz.prog 102 [.mref 1,.mref 2,.pv (.agg [pI (Qn.n b),.lit (.slice none 0 0),pI (Qn.d b),.lit (.slice none 0 0)])] (qw [(1,(kO eP m)),(2,(kO eP o))]) (.mref 15) [(2,(kO eP o)),(1,(kO eP m)),(15,kR (P++scl (Qn.q b) R))]:=by
 refine cL 3 [(1,(kO eP m)),(2,(kO eP o))] qf102 Z (nB Z) Z Z (kc (E Z (B.q6 (l:=[(1,(kO eP m))]) (w178 m 1 15 ah) Z Z ⟨rfl,trivial⟩ rfl rfl) (E Z (B.rangeK (enc:=eP) (l:=o) kty Z Z Z Z) (l2 (fun (n:Array Nat) (q:List (KI×Qn))=>[(0,.mref 1),(1,.mref 2),(5,.bref 8 0),(7,.mref 15),(8,.clos (.func 119) [.mref 15] []),(16,.bref 19 0)]) (fun n q=>[(1,(kO eP m)),(2,(kO eP o)),(8,.box 156 [vI (Qn.n b),.pv (.lit (.slice none 0 0)),vI (Qn.d b),.pv (.lit (.slice none 0 0))]),(15,(kO eP q)),(19,.miter 2 (o.length) n)]) (fun n q=>PlI P o b n q) (fun n _=>List.length o-Array.size n) (#[]) m Z ?_ (sb Z Z Z) ?_))))
 · exact pl_0 hm
 intro n q hI0
 refine tk 4 Z ?_
 refine TK.nextK (Y:=tab) (enc:=eP) (l:=o) Z Z Z Z Z (fun i1 k1 v1 hk1 hi1=>?_) (fun hall1=>?_)
 ·refine rc (CT Z Z (E Z (B.entryK (enc:=eP) (l:=o) Z Z Z hk1) (E Z (B.ja Z (fun l=>Frz.jU l Z) Z) (C Z (w126 v1 b (pl_m hm ho hz hk1)) Z Z Z (E Z (B.q6 (l:=[(15,(kO eP q))]) (w119 q k1 (Qn.mul v1 b) 15 (pl_a hm ho hz hI0 hk1)) Z Z ⟨rfl,trivial⟩ rfl rfl) (Dr Z ae (pk Z (L2 (Array.push n i1) (addK k1 (Qn.mul v1 b) q) ?_ ?_ (sb Z Z Z)))))))))
  · exact pl_s hI0 hk1 hi1
  · exact hI0.1.meas hk1 hi1
 refine rc (CF Z Z ?_)
 refine tk 7 Z ?_
 refine TK.shutK (h:=15) (R':=fun kv=>∃ m,KP (P++scl (Qn.q b) R) m/\kv=kvO eP m) Z (fun kv e=>⟨_,pl_end hm ho hI0 hall1,e⟩) ?_
 refine kc ?_
 refine Rt Z ?_
 exact q5 (val0:=.mref 15) (out0:=[(2,(kO eP o)),(1,(kO eP m)),(15,(kR (P++scl (Qn.q b) R)))]) (.inr Z) ae Z rfl
theorem w102 (m o:List (KI×Qn)) (P R:PL) (b:Qn) (x y z:Nat) (hxy:x≠y) (hxz:x≠z) (hyz:y≠z) (hm:KP P m) (ho:KP R o) (hz:PlZ P R (Qn.q b)):qD Tryz.prog 102 [.mref x,.mref y,.pv (eP b)] (qw [(x,kO eP m),(y,kO eP o)]) (.mref z) [(y,kO eP o),(x,kO eP m),(z,kR (P++scl (Qn.q b) R))]:=by
 have key:=w102' m o P R b hm ho hz
 simpa [renM,DV.renL,DV.ren,MO.ren,r3_1 (show 1≠2 by decide) (show 1≠15 by decide) hxy hxz,r3_2 (show 2≠15 by decide) hyz,r3_3] using key.r3 1 2 15 x y z
theorem w101' (m o:List (KI×Qn)) (P R:PL) (hm:KP P m) (ho:KP R o) (hP:KB P) (hR:KB R) (hz:TiZ P R):qD Tryz.prog 101 [.mref 1,.mref 2] (qw [(1,(kO eP m)),(2,(kO eP o))]) (.mref 14) [(2,(kO eP o)),(1,(kO eP m)),(14,kR (qO P R))]:=by
 refine cL 3 [(1,(kO eP m)),(2,(kO eP o))] qf101 Z (nB Z) Z Z (kc (E Z (B.newK (enc:=eP) Z Z) (E Z (B.rangeK (enc:=eP) (l:=m) kty Z Z Z Z) (l2 (fun (n:Array Nat) (q:List (KI×Qn))=>[(0,.mref 1),(1,.mref 2),(5,.mref 14),(6,.clos (.func 119) [.mref 14] []),(15,.bref 18 0)]) (fun n q=>[(1,(kO eP m)),(2,(kO eP o)),(14,(kO eP q)),(18,.miter 1 (m.length) n)]) (fun n q=>TiI m o n q) (fun n _=>List.length m-Array.size n) (#[]) [] Z ?_ (sb Z Z Z) ?_))))
 · exact ti_0
 intro n q hI0
 refine tk 4 Z ?_
 refine TK.nextK (Y:=tab) (enc:=eP) (l:=m) Z Z Z Z Z (fun i1 k1 v1 hk1 hi1=>?_) (fun hall1=>?_)
 ·refine rc (CT Z Z (E Z (B.entryK (enc:=eP) (l:=m) Z Z Z hk1) (E Z (B.ja Z (fun l=>Frz.jU l Z) Z) (E Z (B.rangeK (enc:=eP) (l:=o) kty Z Z Z Z) (l2 (fun (n2:Array Nat) (q2:List (KI×Qn))=>[(0,.mref 1),(1,.mref 2),(5,.mref 14),(6,.clos (.func 119) [.mref 14] []),(7,.bref 10 0),(8,.bref 11 0),(15,.bref 18 0),(22,.bref 25 0)]) (fun n2 q2=>[(1,(kO eP m)),(2,(kO eP o)),(10,.box 151 [vI (Prod.fst k1),vI (Prod.snd k1)]),(11,.box 156 [vI (Qn.n v1),.pv (.lit (.slice none 0 0)),vI (Qn.d v1),.pv (.lit (.slice none 0 0))]),(14,(kO eP q2)),(18,.miter 1 (m.length) (Array.push n i1)),(25,.miter 2 (o.length) n2)]) (fun n2 q2=>TjI m o n (k1,v1) n2 q2) (fun n2 _=>List.length o-Array.size n2) (#[]) q Z ?_ (sb Z Z Z) ?_)))))
  · exact tj_0 hI0
  intro n2 q2 hI1
  refine tk 7 Z ?_
  refine TK.nextK (Y:=tab) (enc:=eP) (l:=o) Z Z Z Z Z (fun i2 k2 v2 hk2 hi2=>?_) (fun hall2=>?_)
  ·refine rc (CT Z Z (E Z (B.entryK (enc:=eP) (l:=o) Z Z Z hk2) (E Z (B.ja Z (fun l=>Frz.jU l Z) Z) (E Z (B.run Z) (E Z (B.run Z) (E Z (B.add Z Z ci) (E Z (B.run Z) (E Z (B.run Z) (E Z (B.add Z Z ci) (E Z (B.run (val:=.pv (.agg [pI ((Prod.fst k1)+(Prod.fst k2)),pI ((Prod.snd k1)+(Prod.snd k2))])) (m:=[]) (rd:=[]) ae) (C Z (w126 v1 v2 (ti_m hm ho hz hk1 hk2)) Z Z Z (E Z (B.q6 (l:=[(14,(kO eP q2))]) (w119 q2 (((Prod.fst k1)+(Prod.fst k2)),((Prod.snd k1)+(Prod.snd k2))) (Qn.mul v1 v2) 14 (ti_a hm ho hz hI0 hI1 hk1 hi1 hk2)) Z Z ⟨rfl,trivial⟩ rfl rfl) (Dr Z ae (pk Z (L2 (Array.push n2 i2) (addK (((Prod.fst k1)+(Prod.fst k2)),((Prod.snd k1)+(Prod.snd k2))) (Qn.mul v1 v2) q2) ?_ ?_ (sb Z Z Z))))))))))))))))
   · exact tj_s hI1 hk2 hi2
   · exact hI1.1.meas hk2 hi2
  refine rc (CF Z Z (pk Z (L2 (Array.push n i1) q2 ?_ ?_ (sb Z Z Z))))
  · exact ti_s hI0 hI1 hk1 hi1 hall2
  · exact hI0.1.meas hk1 hi1
 refine rc (CF Z Z ?_)
 refine tk 10 Z ?_
 refine TK.shutK (h:=14) (R':=fun kv=>∃ m,KP (qO P R) m/\kv=kvO eP m) Z (fun kv e=>⟨_,ti_end hm ho hI0 hall1,e⟩) ?_
 refine kc ?_
 refine Rt Z ?_
 exact q5 (val0:=.mref 14) (out0:=[(2,(kO eP o)),(1,(kO eP m)),(14,(kR (qO P R)))]) (.inr Z) ae Z rfl
theorem w101 (m o:List (KI×Qn)) (P R:PL) (x y z:Nat) (hxy:x≠y) (hxz:x≠z) (hyz:y≠z) (hm:KP P m) (ho:KP R o) (hP:KB P) (hR:KB R) (hz:TiZ P R):qD Tryz.prog 101 [.mref x,.mref y] (qw [(x,kO eP m),(y,kO eP o)]) (.mref z) [(y,kO eP o),(x,kO eP m),(z,kR (qO P R))]:=by
 have key:=w101' m o P R hm ho hP hR hz
 simpa [renM,DV.renL,DV.ren,MO.ren,r3_1 (show 1≠2 by decide) (show 1≠14 by decide) hxy hxz,r3_2 (show 2≠14 by decide) hyz,r3_3] using key.r3 1 2 14 x y z
noncomputable def rf270:Array Tmp×Code×Code:=(rfOf (fn270.body.getD .skip)).getD (#[],.skip,.skip)
noncomputable def ps270:Array Tmp:=rf270.1
noncomputable def as270:Code:=rf270.2.1
noncomputable def bo270:Code:=rf270.2.2
noncomputable abbrev rZ (us:List Value) (fn:FuncId) (D:Nat) (st:LoopState) (pe:Option Code):MO:=.obj (recL fn us ps270 as270 bo270 D st pe)
abbrev dsZ:List DV:=[.dead,.dead,.bref 23 0,.dead,.dead,.dead,.dead,.dead,.dead,.dead,.dead,.dead,.dead]
def KeysOf (m:List (KI×Qn)) (es:List (List PV)):Prop:=∃ ks:List KI,ks.Perm (m.map (·.1))/\es=ks.map eK
def KyI (m:List (KI×Qn)) (n:Array Nat) (d:List KI):Prop:=VI m n/\d=(visL m n).map (·.1)
section
variable {m:List (KI×Qn)} {n:Array Nat} {d:List KI} {i:Nat} {k:KI} {v:Qn}
theorem ky_0:KyI m #[] []:=⟨VI.nil _,rfl⟩
theorem ky_s (h:KyI m n d) (hk:m[i]? =some (k,v)) (hi:i∉n):KyI m (n.push i) (d++[k]):=⟨h.1.push hk hi,by rw[j4 hk,qc,<-h.2];rfl⟩
theorem ky_l (h:KyI m n d):d.length<=m.length:=by
 have h1:=vis_len m n
 have h2:=h.1.size
 rw[h.2,zJ];omega
theorem ky_e (h:KyI m n d) (ha:∀ i,i<m.length->i∈n):d.Perm (m.map (·.1))/\d.length=m.length:=by
 have hp:=h.1.all ha
 exact⟨by rw[h.2];exact hp.map _,by rw[h.2,zJ,hp.length_eq]⟩
end
theorem by151:ty151.info.bytes=16:=ae
theorem sz243:szT tab 243=some 1:=ae
theorem asgZ [Fc] (us:List Value) (fn:FuncId) (D v:Nat) (l:List KI) (k:KI):TK Tryz.prog 13 2001 (fun e' s'=>e'=.normal/\Sub 2001 s' ⟨[(2,.bref 23 0),(5,.bref 2006 0)],[(23,.box 243 [.aref 901 v]),(901,.arr v 2 151 (List.map eK l)),(950,(rZ us fn D .ready none)),(2006,.box 151 [vI (Prod.fst k),vI (Prod.snd k)])]⟩) as270 [] ⟨[(2,.bref 23 0),(7,.pv (.agg [pI (Prod.fst k),pI (Prod.snd k)]))],[(23,.box 243 [.aref 901 v]),(901,.arr v 2 151 (List.map eK l)),(950,(rZ us fn D .ready none))]⟩:=by
 exact kc (Rn Z ⟨rfl,sb Z Z rfl⟩)
theorem bodZ [Fc] (us:List Value) (fn:FuncId) (D v:Nat) (l:List KI) (k:KI) (hl:List.length l<=1000000):TK Tryz.prog 13 2001 (fun e' s'=>e'=.normal/\Sub 2001 s' ⟨[],(950,rZ us fn D .busy none)::[(23,.box 243 [.aref 901 (v+1)]),(901,.arr (v+1) 2 151 (List.map eK (l++[k])))]⟩) bo270 [] ⟨[(2,.bref 23 0),(5,.bref 2006 0)],[(23,.box 243 [.aref 901 v]),(901,.arr v 2 151 (List.map eK l)),(950,(rZ us fn D .busy none)),(2006,.box 151 [vI (Prod.fst k),vI (Prod.snd k)])]⟩:=by
 exact kc (E Z (B.ja (val:=.pv (.slice (List.map eK [k]))) (val0:=.aref 2011 0) (m0:=[(2011,.arr 0 2 151 [[pI (Prod.fst k),pI (Prod.snd k)]])]) (rd:=[]) ae (fun l=>Frz.arr l _ _ _ _ _) Z) (E Z (B.append Z Z Z un243 in151 Z (fun _=>rfl) by151 cj) (E Z (B.storeR Z Z Z Z sz243 Z Z) (Rn Z ⟨rfl,sb Z Z rfl⟩))))
theorem ylZ (us:List Value) (fn:FuncId) (D v:Nat) (l:List KI) (k:KI) (hu:List.length us=13) (hl:List.length l<=1000000):YldOk Tryz.prog 950 us dsZ [.pv (kkP k)] (qw ((950,rZ us fn D .ready none)::[(23,.box 243 [.aref 901 v]),(901,.arr v 2 151 (List.map eK l))])) (lit (.bool true)) ((950,rZ us fn D .ready none)::[(23,.box 243 [.aref 901 (v+1)]),(901,.arr (v+1) 2 151 (List.map eK (l++[k])))]):=
 YldOk.of (n:=13) (nb:=2001) (tm1:=[(2,.bref 23 0),(5,.bref 2006 0)]) (l1:=[(23,.box 243 [.aref 901 v]),(901,.arr v 2 151 (List.map eK l)),(950,(rZ us fn D .ready none)),(2006,.box 151 [vI (Prod.fst k),vI (Prod.snd k)])]) (ps:=ps270) (assign:=as270) (body:=bo270) true hu Z ah (allLt Z) Z rfl
  (fun r=>letI ic:Fc:=⟨some r⟩;TK.start (TK.norm ⟨[(2,.bref 23 0),(7,.pv (.agg [pI (Prod.fst k),pI (Prod.snd k)]))],[(23,.box 243 [.aref 901 v]),(901,.arr v 2 151 (List.map eK l)),(950,(rZ us fn D .ready none))]⟩ (sb Z Z Z) (asgZ us fn D v l k))) rfl
  (fun r=>letI ic:Fc:=⟨some r⟩;TK.start (TK.norm ⟨[(2,.bref 23 0),(5,.bref 2006 0)],[(23,.box 243 [.aref 901 v]),(901,.arr v 2 151 (List.map eK l)),(950,(rZ us fn D .busy none)),(2006,.box 151 [vI (Prod.fst k),vI (Prod.snd k)])]⟩ (sb Z Z Z) (bodZ us fn D v l k hl))) (allNe Z) (ndM_ok Z) Z rfl
theorem w271 (us:List Value) (fn:FuncId) (D:Nat) (m:List (KI×Qn)) (hu:List.length us=13) (hn:List.length m<=1000000):qD Tryz.prog 271 [.yld 950 us dsZ,.bref 20 0] (qw ((950,rZ us fn D .ready none)::[(1,(kO eP m)),(20,.box 159 [.mref 1]),(23,.box 243 [.aref 901 0]),(901,.arr 0 2 151 (List.map eK []))])) (.tup []) (List.reverse ((950,rZ us fn D .ready none)::[(1,(kO eP m)),(20,.box 159 [.mref 1]),(23,.box 243 [.aref 901 (m.length)]),(901,.arrK (m.length) 2 151 (KeysOf m))])):=by
 refine cL 1001 ((950,rZ us fn D .ready none)::[(1,(kO eP m)),(20,.box 159 [.mref 1]),(23,.box 243 [.aref 901 0]),(901,.arr 0 2 151 (List.map eK []))]) qf271 Z (nB Z) Z Z (kc (E Z (B.rangeK (enc:=eP) (l:=m) kty Z Z Z Z) (l3 (fun (n:Array Nat) (d:List KI) (c:Nat)=>[(0,.yld 950 us dsZ),(1,.bref 20 0),(5,.bref 1006 0)]) (fun n d c=>[(1,(kO eP m)),(20,.box 159 [.mref 1]),(23,.box 243 [.aref 901 c]),(901,.arr c 2 151 (List.map eK d)),(950,(rZ us fn D .ready none)),(1006,.miter 1 (m.length) n)]) (fun n d c=>KyI m n d/\c=List.length d) (fun n _ _=>List.length m-Array.size n) (#[]) [] 0 Z ?_ (sb Z Z Z) ?_)))
 · exact⟨ky_0,rfl⟩
 intro n d c hI0
 have hdl:List.length d<=List.length m:=ky_l hI0.1
 refine tk 1 Z ?_
 refine TK.nextK (Y:=tab) (enc:=eP) (l:=m) Z Z Z Z Z (fun i1 k1 v1 hk1 hi1=>?_) (fun hall1=>?_)
 ·refine rc (CT Z Z (E Z (B.entryK (enc:=eP) (l:=m) Z Z Z hk1) (E Z (B.yieldS (l:=(950,rZ us fn D .ready none)::[(23,.box 243 [.aref 901 c]),(901,.arr c 2 151 (List.map eK d))]) (ylZ us fn D c d k1 hu aa) Z Z ⟨rfl,rfl,rfl,trivial⟩ rfl rfl) (Cb Z Z (fun h1=>?_) (fun h1=>?_)))))
  ·exact absurd h1 ah
  refine pk Z (L3 (Array.push n i1) (d++[k1]) (c+1) ?_ ?_ (sb Z Z Z))
  · (exact⟨ky_s hI0.1 hk1 hi1,by rw[hI0.2,za];rfl⟩)
  · exact hI0.1.1.meas hk1 hi1
 refine rc (CF Z Z ?_)
 obtain⟨hke1,hke2⟩:=ky_e hI0.1 hall1
 rw[show c=List.length m by rw[hI0.2,hke2]]
 refine ck ?_
 refine TK.shutA (h:=901) (R:=KeysOf m) Z ⟨d,hke1,rfl⟩ ?_
 refine kc ?_
 refine Rn Z ?_
 exact q5 (val0:=.tup []) (out0:=[(901,(.arrK (m.length) 2 151 (KeysOf m))),(23,.box 243 [.aref 901 (m.length)]),(20,.box 159 [.mref 1]),(1,(kO eP m)),(950,(rZ us fn D .ready none))]) (.inl Z) ae Z rfl
end Go.Lens.Tb
end
section
namespace Go.Lens.Tb
open Go.Proofs Go.Lens.Un
set_option maxRecDepth 100000
variable [Lz] [Dn]
def rowK (n:Nat):List KI:=(List.range (n+1)).map fun i=>(((n-i:Nat):Int),(i:Int))
def keys32:List KI:=(List.range 33).flatMap rowK
def q9 (P:PL):List KI:=keys32.filter fun k=>decide (cf P k≠0)
theorem mem_rowK {n:Nat} {k:KI}:k∈rowK n↔0<=k.1/\0<=k.2/\k.1+k.2=n:=by
 obtain⟨a,b⟩:=k
 simp only[rowK,zF,List.mem_range,zz]
 constructor
 ·rintro⟨i,hi,rfl,rfl⟩;omega
 rintro⟨h1,h2,h3⟩;exact⟨b.toNat,aa,aa,aa⟩
theorem mem_keys32 {k:KI}:k∈keys32↔0<=k.1/\0<=k.2/\k.1+k.2<=32:=by
 simp only[keys32,List.mem_flatMap,List.mem_range,mem_rowK]
 constructor
 ·rintro⟨n,hn,h1,h2,h3⟩;omega
 rintro⟨h1,h2,h3⟩;exact⟨(k.1+k.2).toNat,aa,h1,h2,aa⟩
theorem keys32_pw:keys32.Pairwise (fun a b=>ordI a b<0):=by
 unfold keys32
 rw[List.pairwise_flatMap]
 refine⟨fun n _=>?_,?_⟩
 ·unfold rowK
  rw[List.pairwise_map]
  refine List.pairwise_lt_range.imp_of_mem ?_
  intro i j hi hj hij
  rw[List.mem_range] at hi hj
  rw[ordI_lt];simp only;omega
 refine List.pairwise_lt_range.imp ?_
 intro i j hij x hx y hy
 rw[mem_rowK] at hx hy
 rw[ordI_lt];omega
theorem ordP_pw {P:PL}:(q9 P).Pairwise (fun a b=>ordI a b<0):=keys32_pw.filter _
theorem pw_nd {l:List KI} (h:l.Pairwise (fun a b=>ordI a b<0)):l.Nodup:=h.imp fun {a b} hab e=>by
 subst e;rw[ordI_lt] at hab;omega
theorem mem_ordP {P:PL} {k:KI}:k∈q9 P↔(0<=k.1/\0<=k.2/\k.1+k.2<=32)/\cf P k≠0:=by
 unfold q9;rw[List.mem_filter,mem_keys32];simp
section
variable {P:PL} {m:List (KI×Qn)} {ks:List KI} {k:KI} {x:Qn}
theorem zq_iff:zq x=true↔x.q=0:=by
 unfold zq
 rw[zf,sgn_0,Rat.num_eq_zero]
theorem or_m (h:ks.Perm (m.map (·.1))):∀ k∈ks,k∈m.map (·.1):=fun k hk=>h.mem_iff.1 hk
theorem or_l (h:ks.Perm (m.map (·.1))) (hn:m.length<=1000000):ks.length<=1000000:=by rw[h.length_eq,zJ];exact hn
theorem or_c (m:List (KI×Qn)) (ks:List KI):(∀ k∈ks,pK m k=false)\/∃ q:Nat,idxK (pK m) ks 0=q/\q<ks.length:=by
 rcases ik_find (l:=ks) (p:=pK m) 0 with e|⟨q,h1,h2,_⟩
 ·exact .inl e
 exact .inr ⟨q,by rw[<-show (((0:Nat)+q:Nat):Int)=q by omega,<-h2];rfl,h1⟩
theorem pk_cf (hm:KP P m) (hk:k∈m.map (·.1)):pK m k=false↔cf P k≠0:=by
 obtain⟨x,hx⟩:=get_mem hk
 have:=hm.q k
 unfold cfM at this
 rw[hx] at this
 simp only at this
 unfold pK
 rw[hx,<-this]
 simp only
 cases e:zq x
 ·simp only[true_iff]
  intro q;rw[zq_iff.2 q] at e;cases e
 simp only[Bool.true_eq_false,false_iff];exact fun h=>h (zq_iff.1 e)
theorem or_p (hm:KP P m) (h32:∀ k∈m.map (·.1),0<=k.1/\0<=k.2/\k.1+k.2<=32) (hks:ks.Perm (m.map (·.1))):(q9 P).Perm (kpK m ks):=by
 have hnd:(kpK m ks).Nodup:=(hks.nodup_iff.2 hm.nd).filter _
 rw[List.perm_ext_iff_of_nodup (pw_nd ordP_pw) hnd]
 intro k
 unfold kpK
 rw[mem_ordP,List.mem_filter,hks.mem_iff]
 constructor
 ·rintro⟨_,h2⟩
  have hk:k∈m.map (·.1):=by
   have:=hm.q k
   unfold cfM at this
   cases hg:kj k m with
   | none=>rw[hg] at this;exact absurd this.symm h2
   | some x=>exact zF.2 ⟨_,jY hg,rfl⟩
  exact⟨hk,by rw[(pk_cf hm hk).2 h2];rfl⟩
 rintro⟨hk,h2⟩
 exact⟨h32 k hk,(pk_cf hm hk).1 (by simpa using h2)⟩
theorem or_ks (h32:∀ k∈m.map (·.1),0<=k.1/\0<=k.2/\k.1+k.2<=32) (hks:ks.Perm (m.map (·.1))):∀ k∈ks,KS k:=fun k hk=>by
 have:=h32 k (hks.mem_iff.1 hk)
 unfold KS;omega
theorem kp_all (hno:∀ k∈ks,pK m k=false):kpK m ks=ks:=by
 unfold kpK
 rw[List.filter_eq_self]
 intro k hk;rw[hno k hk];rfl
theorem or_a (hm:KP P m) (h32:∀ k∈m.map (·.1),0<=k.1/\0<=k.2/\k.1+k.2<=32) (hks:ks.Perm (m.map (·.1))) (hl:ks.length<=1000000) (hno:∀ k∈ks,pK m k=false) :
  ks.length<=ks.length/\ks.length<4611686018427387904/\(∀ k∈ks.take ks.length,KS k)/\(q9 P).Perm (ks.take ks.length):=by
 rw[List.take_length]
 exact⟨zC _,aa,or_ks h32 hks,by have:=or_p hm h32 hks;rwa [kp_all hno] at this⟩
theorem kp_le:(kpK m ks).length<=ks.length:=List.length_filter_le _ _
theorem or_b (hm:KP P m) (h32:∀ k∈m.map (·.1),0<=k.1/\0<=k.2/\k.1+k.2<=32) (hks:ks.Perm (m.map (·.1))) (hl:ks.length<=1000000) :
  (kpK m ks).length<=(kpK m ks++List.replicate (ks.length-(kpK m ks).length) ((0,0):KI)).length/\(kpK m ks++List.replicate (ks.length-(kpK m ks).length) ((0,0):KI)).length<4611686018427387904/\
  (∀ k∈(kpK m ks++List.replicate (ks.length-(kpK m ks).length) ((0,0):KI)).take (kpK m ks).length,KS k)/\(q9 P).Perm ((kpK m ks++List.replicate (ks.length-(kpK m ks).length) ((0,0):KI)).take (kpK m ks).length):=by
 have h:=kp_le (m:=m) (ks:=ks)
 rw[List.take_left',za,qd]
 ·exact⟨aa,aa,fun k hk=>or_ks h32 hks k (List.mem_filter.1 hk).1,or_p hm h32 hks⟩
 rfl
theorem or_v1:q9 P++List.drop ks.length ks=q9 P:=by rw[List.drop_length,zS]
theorem or_v2 {l:List KI} (h:(q9 P).Perm (kpK m ks)):List.take (kpK m ks).length (q9 P++l)=q9 P:=by rw[<-h.length_eq,List.take_left'];rfl
end
theorem TK.frzT [Fc] {P:Program} {n nb:Nat} {Q:Exit->St->Prop} {K:List Fr} {c:Code} {s:St} {α:Type} {enc:α->List PV} {l:List α} {t h v k sz:Nat} {T0:TypeId} (ht:jx s.tm t=.atrunc h v k) (hm:qw s.ms h=some (.arr v sz T0 (l.map enc)))
 (H:TK P n nb Q c K ⟨(t,.pv (.slice ((l.take k).map enc)))::s.tm,(h,.farr v (l.map enc))::s.ms⟩):TK P n nb Q c K s:=
 T.weak (wk_frz ht ao aW (by simp[pvOf,qG,List.map_take])) H
end Go.Lens.Tb
end
section
namespace Go.Lens.Tb
open Go.Proofs Go.Lens.Un
variable [Lz] [Dn]
set_option maxRecDepth 100000
attribute [local irreducible] TK PK T RG EfR Body CG
theorem w235 (l L:List KI) (n v:Nat) (d:DV) (hn:n<=l.length) (h62:l.length<4611686018427387904) (hd:d=.atrunc 901 v n\/(d=.aref 901 v/\n=l.length)) (hk:∀ k∈l.take n,KS k) (hp:L.Perm (l.take n)) (hs:L.Pairwise (fun a b=>ordI a b<0)) :
  qD Tryz.prog 235 [d,.pv (.fn (.func 170) [] [])] (qw [(901,.arr v 2 151 (l.map eK))]) (.tup []) [(901,.arr v 2 151 ((L++l.drop n).map eK))]:=by
 refine⟨fun h hh=>?_,fun G w vs M hv=>?_⟩
 ·rcases hd with rfl|⟨rfl,_⟩<;>(simp[DV.qP,DV.refs] at hh;subst hh;exact⟨.arr v 2 151 (l.map eK),by simp[qG]⟩)
 by_cases ha0:(G.ρ 901).addr≠none
 ·exact w235c l L n v d hn h62 hd hk hp hs M hv ha0
 have ha:=zi.1 ha0
 have hl0:l=[]:=by
  obtain⟨k1,k2,k3,k4,k5,k6,hA⟩:=M.ms 901 _ (show qw [(901,MO.arr v 2 151 (l.map eK))] 901=some (.arr v 2 151 (l.map eK)) by simp[qG])
  rcases hA with ⟨_,hc⟩|⟨b,c,e1,_⟩
  ·rw[hc,zJ] at k5;exact zL aa
  rw[ha] at e1;cases e1
 subst hl0
 have hn0:n=0:=by simpa using hn
 subst hn0
 have hL:L=[]:=by simpa using hp
 subst hL
 have hl1:qw [(901,MO.arr v 2 151 ([].map eK))] 901=some (.arr v 2 151 ([].map eK)):=by simp[qG]
 obtain⟨k1,k2,k3,k4,k5,k6,hA⟩:=M.ms 901 _ hl1
 rcases hA with ⟨_,hc⟩|hA
 ·obtain⟨v1,v2,e,q1,q2⟩:=hv.two
  have hv1:v1=.slice none 0 0:=by
   rcases hd with rfl|⟨rfl,_⟩
   ·simp only[qx] at q1;rw[(q1.2 k2).2,ha,hc]
   simp only[qx] at q1;rw[q1.2 k2,ha,hc,k4];rfl
  have H:qD Tryz.prog 235 [.nils,.pv (.fn (.func 170) [] [])] (qw [(901,MO.arr v 2 151 ([].map eK))]) (.tup []) []:=w235'.frame (fun h o e=>by cases e) (fun k o h e=>by cases e) (fun h hh=>by cases hh)
  refine (H.call G w vs M (by rw[e,hv1];simp only[qC,qx];exact⟨_,_,rfl,rfl,_,_,rfl,by simpa only[qx] using q2,rfl⟩)).mono ?_
  rintro r w' ⟨G',S⟩
  have M1:=M.out S
  have hu:upd [] (qw [(901,MO.arr v 2 151 ([].map eK))])=qw [(901,MO.arr v 2 151 ([].map eK))]:=by funext h;rfl
  rw[hu] at M1
  have S2:=q7 (m:=.arr v 2 151 ([].map eK)) (val:=.tup []) (r:=r) M1.ctx (B:=G'.ρ 901) (h:=901) hl1 bc (w':=w') Z Z Z Z (fun _ _=>rfl) (by rw[Gh.qU];exact S.hval) (by rw[Gh.qU];exact M1.ms 901 _ hl1) bV am
  rw[Gh.qU] at S2
  have S3:=S.trans M (by rw[hu];exact S2)
  exact⟨G',by simpa [mrg] using S3⟩
 obtain⟨b,c,e1,_⟩:=hA;rw[ha] at e1;cases e1
theorem w270 (m:List (KI×Qn)) (hn:List.length m<=1000000):qD Tryz.prog 270 [.nils,.clos (.func 271) [] [.bref 20 0]] (qw [(1,(kO eP m)),(20,.box 159 [.mref 1])]) (.aref 901 (m.length)) [(20,.box 159 [.mref 1]),(1,(kO eP m)),(901,.arrK (m.length) 2 151 (KeysOf m))]:=by
 refine cL 21 [(1,(kO eP m)),(20,.box 159 [.mref 1])] qf270 Z (nB Z) Z Z (kc (E Z (B.run Z) (E Z (B.kg (enc:=eK) Z) ?_)))
 refine tk 1 Z ?_
 refine TK.adoptC 23 0 901 2 151 Z Z Z Z ?_
 refine TK.norm ⟨[(1,.clos (.func 271) [] [.bref 20 0]),(2,.bref 23 0),(4,vL eK [])],[(1,(kO eP m)),(20,.box 159 [.mref 1]),(23,.box 243 [.aref 901 0]),(901,.arr 0 2 151 (List.map eK []))]⟩ (sb Z Z Z) ?_
 refine kc ?_
 refine tk 9999 Z ?_
 refine TK.norm ⟨[(1,.clos (.func 271) [] [.bref 20 0]),(2,.bref 23 0),(4,vL eK []),(6,.clos (.func 271) [] [.bref 20 0])],[(1,(kO eP m)),(20,.box 159 [.mref 1]),(23,.box 243 [.aref 901 0]),(901,.arr 0 2 151 (List.map eK []))]⟩ (sb Z Z Z) ?_
 refine TK.range (hl:=950) (ds:=dsZ) (st:=.ready) (val:=.tup []) (out:=[(1,(kO eP m)),(20,.box 159 [.mref 1]),(23,.box 243 [.aref 901 (m.length)]),(901,.arrK (m.length) 2 151 (KeysOf m))]) false (fun a w=>Tryz.call271 a w) Z Z Z (fun i _=>agD0 (tm:=[(1,.clos (.func 271) [] [.bref 20 0]),(2,.bref 23 0),(4,vL eK []),(6,.clos (.func 271) [] [.bref 20 0])]) (ds:=dsZ) ⟨rfl,trivial⟩ i) (fun us fn D hu=>(w271 us fn D m hu hn).rev) ah (allNe Z) ?_
 refine pc ?_
 refine Rt Z ?_
 exact q5 (val0:=.aref 901 (m.length)) (out0:=[(20,.box 159 [.mref 1]),(1,(kO eP m)),(901,(.arrK (m.length) 2 151 (KeysOf m)))]) (.inr Z) ae Z rfl
theorem w231 (m:List (KI×Qn)) (hn:List.length m<=1000000):qD Tryz.prog 231 [.clos (.func 271) [] [.bref 20 0]] (qw [(1,(kO eP m)),(20,.box 159 [.mref 1])]) (.aref 901 (m.length)) [(20,.box 159 [.mref 1]),(1,(kO eP m)),(901,.arrK (m.length) 2 151 (KeysOf m))]:=by
 refine cL 21 [(1,(kO eP m)),(20,.box 159 [.mref 1])] qf231 Z (nB Z) Z Z (kc (E Z (B.kg (enc:=eK) Z) (E Z (B.q6 (l:=[(1,(kO eP m)),(20,.box 159 [.mref 1])]) (w270 m hn) Z Z ⟨rfl,rfl,trivial⟩ rfl rfl) ?_)))
 refine Rt Z ?_
 exact q5 (val0:=.aref 901 (m.length)) (out0:=[(20,.box 159 [.mref 1]),(1,(kO eP m)),(901,(.arrK (m.length) 2 151 (KeysOf m)))]) (.inr Z) ae Z rfl
theorem w232 (m:List (KI×Qn)):qD Tryz.prog 232 [.mref 1] (qw [(1,(kO eP m))]) (.clos (.func 271) [] [.bref 20 0]) [(1,(kO eP m)),(20,.box 159 [.mref 1])]:=by
 refine cL 19 [(1,(kO eP m))] qf232 Z (nB Z) Z Z (kc ?_)
 refine Rt Z ?_
 exact q5 (val0:=.clos (.func 271) [] [.bref 20 0]) (out0:=[(1,(kO eP m)),(20,.box 159 [.mref 1])]) (.inr Z) ae Z rfl
theorem w180' (m:List (KI×Qn)) (P:PL) (hm:KP P m) (h32:∀ k∈m.map (·.1),0<=k.1/\0<=k.2/\k.1+k.2<=32) (hn:List.length m<=1000000) (hz:∀ k x,kj k m=some x->sz (Qn.q x)<=62):qD Tryz.prog 180 [.mref 1] (qw [(1,(kO eP m))]) (vL eK (q9 P)) [(1,(kO eP m))]:=by
 refine cL 10 [(1,(kO eP m))] qf180 Z (nB Z) Z Z (kc (E Z (B.kg (enc:=eK) Z) (E Z (B.q6 (l:=[(1,(kO eP m))]) (w232 m) Z Z ⟨rfl,trivial⟩ rfl rfl) (E Z (B.q6 (l:=[(1,(kO eP m)),(20,.box 159 [.mref 1])]) (w231 m hn) Z Z ⟨rfl,rfl,trivial⟩ rfl rfl) ?_))))
 refine tk 2 Z ?_
 refine tn ⟨[(0,.mref 1),(1,.bref 11 0),(3,.aref 901 (m.length))],[(1,(kO eP m)),(11,.box 159 [.mref 1]),(901,(.arrK (m.length) 2 151 (KeysOf m)))]⟩ rfl rfl Z ?_
 refine TK.openA (h:=901) Z (fun es hes=>?_)
 obtain⟨ks,hks,rfl⟩:=hes
 have hkm:=or_m hks
 have hkl:=or_l hks hn
 rcases or_c m ks with hno|⟨q,hq,hql⟩
 ·refine kc (E Z (B.q6 (l:=[(1,(kO eP m)),(11,.box 159 [.mref 1]),(901,.arr (m.length) 2 151 (List.map eK ks))]) (w233a m ks (m.length) hkl hkm hz hno) Z Z ⟨rfl,rfl,rfl,trivial⟩ rfl rfl) (E Z (B.q6 (l:=[(901,.arr (m.length) 2 151 (List.map eK ks))]) (w235 ks (q9 P) (ks.length) (m.length) _ (or_a hm h32 hks hkl hno).1 (or_a hm h32 hks hkl hno).2.1 (.inr ⟨rfl,rfl⟩) (or_a hm h32 hks hkl hno).2.2.1 (or_a hm h32 hks hkl hno).2.2.2 ordP_pw) Z Z ⟨rfl,trivial⟩ rfl rfl) ?_))
  refine tk 4 Z ?_
  refine TK.frz (t:=3) Z Z ?_
  refine kc ?_
  refine Rt Z ?_
  exact q5 (val0:=vL eK (q9 P++List.drop (ks.length) ks)) (out0:=[(1,(kO eP m))]) (.inr Z) ae cl rfl
 refine kc (E Z (B.q6 (l:=[(1,(kO eP m)),(11,.box 159 [.mref 1]),(901,.arr (m.length) 2 151 (List.map eK ks))]) (w233b m ks (m.length) q hkl hkm hz hq hql) Z Z ⟨rfl,rfl,rfl,trivial⟩ rfl rfl) (E Z (B.q6 (l:=[(901,.arr (m.length) 2 151 (List.map eK (kpK m ks++List.replicate (ks.length-List.length (kpK m ks)) (0,0))))]) (w235 (kpK m ks++List.replicate (ks.length-List.length (kpK m ks)) (0,0)) (q9 P) (List.length (kpK m ks)) (m.length) _ (or_b hm h32 hks hkl).1 (or_b hm h32 hks hkl).2.1 (.inl Z) (or_b hm h32 hks hkl).2.2.1 (or_b hm h32 hks hkl).2.2.2 ordP_pw) Z Z ⟨rfl,trivial⟩ rfl rfl) ?_))
 refine tk 4 Z ?_
 refine TK.frzT (l:=(q9 P++List.drop (List.length (kpK m ks)) (kpK m ks++List.replicate (ks.length-List.length (kpK m ks)) (0,0)))) (enc:=eK) (t:=3) Z Z ?_
 refine kc ?_
 refine Rt Z ?_
 exact q5 (val0:=vL eK (List.take (List.length (kpK m ks)) (q9 P++List.drop (List.length (kpK m ks)) (kpK m ks++List.replicate (ks.length-List.length (kpK m ks)) (0,0))))) (out0:=[(1,(kO eP m))]) (.inr Z) ae cl rfl
theorem w180 (m:List (KI×Qn)) (P:PL) (a:Nat) (hm:KP P m) (h32:∀ k∈m.map (·.1),0<=k.1/\0<=k.2/\k.1+k.2<=32) (hn:List.length m<=1000000) (hz:∀ k x,kj k m=some x->sz (Qn.q x)<=62):qD Tryz.prog 180 [.mref a] (qw [(a,(kO eP m))]) (vL eK (q9 P)) [(a,(kO eP m))]:=by
 simpa [renM,DV.renL,DV.ren,MO.ren,r1_1] using (w180' m P hm h32 hn hz).r1 1 a
def keyT (t:Trm):KI:=(t.i,t.j)
abbrev cE0 (t:Trm):Int:=qB [jg t.c,qR (decide (t.c=[48])) 6,qF t.i 0 16,qF t.j 0 16]
def cE1 (t:Trm):Int:=if cE0 t=0 then qF (t.i+t.j) 0 16 else cE0 t
def chkA (f:List Trm) (k:Nat):Int:=if cE1 (f.getD k trZ)=0/\0<((k:Nat):Int)/\0<=ordI ((f.getD (k-1) trZ).i,(f.getD (k-1) trZ).j) ((f.getD k trZ).i,(f.getD k trZ).j) then 11 else cE1 (f.getD k trZ)
def qQ (f:List Trm):Int:=qB ((List.range f.length).map (chkA f))
def jy (f g:List Trm):Int:=qB [qQ f,qQ g]
theorem wi_0 {n a b:Int}:qF n a b=0↔a<=n/\n<=b:=by
 unfold qF qR outF
 by_cases h1:n<a<;>by_cases h2:b<n<;>simp[h1,h2]<;>omega
theorem wh_0 {b:Bool} {e:Int} (he:e≠0):qR b e=0↔b=false:=by cases b<;>simp[qR,he]
theorem kL {a:Int} {l:List Int}:qB (a::l)=0↔a=0/\qB l=0:=by
 rw[qB];split<;>simp_all
theorem cE0_0 {t:Trm}:cE0 t=0↔jg t.c=0/\t.c≠[48]/\(0<=t.i/\t.i<=16)/\(0<=t.j/\t.j<=16):=by
 unfold cE0
 rw[kL,kL,kL,kL,wh_0 ah,wi_0,wi_0,zH]
 simp[qB]
theorem cE1_0 {t:Trm}:cE1 t=0↔jg t.c=0/\t.c≠[48]/\0<=t.i/\0<=t.j/\t.i+t.j<=16:=by
 unfold cE1
 by_cases h:cE0 t=0
 ·rw[if_pos h,wi_0]
  have:=cE0_0.1 h
  constructor
  ·intro g;exact⟨this.1,this.2.1,this.2.2.1.1,this.2.2.2.1,g.2⟩
  intro g;omega
 rw[if_neg h]
 constructor
 ·intro g;exact absurd g h
 intro g
 exact absurd (cE0_0.2 ⟨g.1,g.2.1,⟨g.2.2.1,aa⟩,g.2.2.2.1,aa⟩) h
section
variable {f g:List Trm} {k:Nat} {t:Trm} {p q r:Prop} [Decidable p] [Decidable q] [Decidable r]
theorem cg_1 (h:(bif decide p then decide q else false)=true):p:=by by_cases hp:p<;>simp_all
theorem cg_2 (h:(bif decide p then decide q else false)=true):q:=by by_cases hp:p<;>simp_all
theorem cg_4 (h:(bif decide p then decide q else false)=false):¬(p/\q):=by by_cases hp:p<;>by_cases hq:q<;>simp_all
theorem ca_0 (h:chkA f k=0):cE1 (f.getD k trZ)=0/\(0<k->ordI (keyT (f.getD (k-1) trZ)) (keyT (f.getD k trZ))<0):=by
 unfold chkA at h
 split at h
 ·cases h
 rename_i hn
 refine⟨h,fun hk=>?_⟩
 by_cases ho:ordI (keyT (f.getD (k-1) trZ)) (keyT (f.getD k trZ))<0
 ·exact ho
 exact absurd ⟨h,aa,by unfold keyT at ho;omega⟩ hn
theorem ks_e (h:cE1 t=0):KS (t.i,t.j):=by
 have:=cE1_0.1 h
 unfold KS;simp only;omega
theorem ca_kp (h:∀ j,j<k->chkA f j=0) (hk:0<((k:Nat):Int)):KS ((f.getD (k-1) trZ).i,(f.getD (k-1) trZ).j):=ks_e (ca_0 (h (k-1) aa)).1
theorem ca_kc (h0:cE0 t=0) (h1:qF (t.i+t.j) 0 16=0):KS (t.i,t.j):=ks_e (by unfold cE1;rw[if_pos h0];exact h1)
theorem ca_bd (h0:cE0 t=0):0<=t.i/\t.i<=16/\0<=t.j/\t.j<=16:=by have:=cE0_0.1 h0;omega
theorem ca_1 (h0:cE0 (f.getD k trZ)=0) (hb:(bif decide (qF ((f.getD k trZ).i+(f.getD k trZ).j) 0 16=0) then decide (0<((k:Nat):Int)) else false)=true) (ho:0<=ordI ((f.getD (k-1) trZ).i,(f.getD (k-1) trZ).j) ((f.getD k trZ).i,(f.getD k trZ).j)):11=chkA f k:=by
 unfold chkA cE1
 rw[if_pos h0,if_pos ⟨cg_1 hb,cg_2 hb,ho⟩]
theorem ca_2v (h0:cE0 (f.getD k trZ)=0) (hb:(bif decide (qF ((f.getD k trZ).i+(f.getD k trZ).j) 0 16=0) then decide (0<((k:Nat):Int)) else false)=true) (ho:¬0<=ordI ((f.getD (k-1) trZ).i,(f.getD (k-1) trZ).j) ((f.getD k trZ).i,(f.getD k trZ).j)):qF ((f.getD k trZ).i+(f.getD k trZ).j) 0 16=chkA f k:=by
 unfold chkA cE1
 rw[if_pos h0,if_neg (fun h=>ho h.2.2)]
theorem ca_2w (h0:cE0 (f.getD k trZ)=0) (hb:(bif decide (qF ((f.getD k trZ).i+(f.getD k trZ).j) 0 16=0) then decide (0<((k:Nat):Int)) else false)=false):qF ((f.getD k trZ).i+(f.getD k trZ).j) 0 16=chkA f k:=by
 unfold chkA cE1
 rw[if_pos h0,if_neg (fun h=>cg_4 hb ⟨h.1,h.2.1⟩)]
theorem ca_2 (h0:cE0 (f.getD k trZ)=0) (hb:(bif decide (qF ((f.getD k trZ).i+(f.getD k trZ).j) 0 16=0) then decide (0<((k:Nat):Int)) else false)=true) (ho:¬0<=ordI ((f.getD (k-1) trZ).i,(f.getD (k-1) trZ).j) ((f.getD k trZ).i,(f.getD k trZ).j)) (h:qF ((f.getD k trZ).i+(f.getD k trZ).j) 0 16=0):chkA f k=0:=by rw[<-ca_2v h0 hb ho,h]
theorem ca_2f (h0:cE0 (f.getD k trZ)=0) (hb:(bif decide (qF ((f.getD k trZ).i+(f.getD k trZ).j) 0 16=0) then decide (0<((k:Nat):Int)) else false)=false) (h:qF ((f.getD k trZ).i+(f.getD k trZ).j) 0 16=0):chkA f k=0:=by rw[<-ca_2w h0 hb,h]
theorem ca_3 {a:Int} (h0:¬a=0) (hb:(bif decide (a=0) then decide q else false)=true):False:=h0 (cg_1 hb)
theorem ca_4 (h0:¬cE0 (f.getD k trZ)=0):cE0 (f.getD k trZ)=chkA f k:=by
 unfold chkA cE1
 rw[if_neg h0,if_neg (fun h=>h0 h.1)]
theorem ca_nx (h:∀ j,j<k->chkA f j=0) (hk:chkA f k=0):∀ j,j<k+1->chkA f j=0:=fun j hj=>by
 by_cases e:j=k
 ·rw[e];exact hk
 exact h j aa
theorem ff_pre {α:Type} {F:α->Int}:∀ {l m:List α},(∀ a∈l,F a=0)->qB ((l++m).map F)=qB (m.map F)
 | [],_,_=>rfl
 | a::l,m,h=>by
  rw[zR,zA,qB,if_pos (h a ao)]
  exact ff_pre fun b hb=>h b (by simp[hb])
theorem po_at (h:∀ j,j<k->chkA f j=0) (hk:k<=f.length):qQ f=qB ((List.range' k (f.length-k)).map (chkA f)):=by
 unfold qQ
 have:List.range f.length=List.range k++List.range' k (f.length-k):=by
  have e:= @List.range'_append_1 0 k (f.length-k)
  rw[Nat.zero_add,show k+(f.length-k)=f.length by omega] at e
  rw[List.range_eq_range',List.range_eq_range',e]
 rw[this,ff_pre fun a ha=>h a (List.mem_range.1 ha)]
theorem cr {v:Int} (h:∀ j,j<k->chkA f j=0) (hk:k<f.length) (e:v=chkA f k) (hv:v≠0):v=qQ f:=by
 rw[po_at h aa,show f.length-k=(f.length-k-1)+1 by omega,List.range'_succ,zA,qB,if_neg (by rw[<-e];exact hv),e]
theorem ce (h:∀ j,j<k->chkA f j=0) (hk:f.length<=k):0=qQ f:=by
 unfold qQ
 have:=ff_pre (F:=chkA f) (l:=List.range f.length) (m:=[]) fun a ha=>h a (by have:=List.mem_range.1 ha;omega)
 rw[zS] at this
 rw[this];rfl
theorem po_0 (h:qQ f=0):∀ k,k<f.length->chkA f k=0:=by
 have key:∀ l:List Nat,qB (l.map (chkA f))=0->∀ k∈l,chkA f k=0:=by
  intro l
  induction l with
  | nil=>intro _ k hk;cases hk
  | cons a l ih=>
   intro h k hk
   rw[zA,kL] at h
   rcases zG.1 hk with rfl|hk
   ·exact h.1
   exact ih h.2 k hk
 exact fun k hk=>key _ h k (List.mem_range.2 hk)
theorem po_t (h:qQ f=0) (ht:t∈f):jg t.c=0/\t.c≠[48]/\0<=t.i/\0<=t.j/\t.i+t.j<=16:=by
 obtain⟨k,hk,rfl⟩:=List.getElem_of_mem ht
 have:=(ca_0 (po_0 h k hk)).1
 rw[ze,zm hk] at this
 exact cE1_0.1 this
theorem ord_tr {a b c:KI} (h:ordI a b<0) (g:ordI b c<0):ordI a c<0:=by rw[ordI_lt] at *;omega
theorem po_pw (h:qQ f=0):(f.map keyT).Pairwise (fun a b=>ordI a b<0):=by
 rw[List.pairwise_map,List.pairwise_iff_getElem]
 intro i j hi hj hij
 have key:∀ d i,i+d+1<f.length->ordI (keyT (f.getD i trZ)) (keyT (f.getD (i+d+1) trZ))<0:=by
  intro d
  induction d with
  | zero=>intro i hi;have:=(ca_0 (po_0 h (i+1) hi)).2 aa;rwa [Nat.add_sub_cancel] at this
  | succ d ih=>
   intro i hi
   have h1:=ih i aa
   have h2:=(ca_0 (po_0 h (i+(d+1)+1) hi)).2 aa
   rw[Nat.add_sub_cancel] at h2
   exact ord_tr h1 h2
 have:=key (j-i-1) i aa
 rw[show i+(j-i-1)+1=j by omega,ze,zm hi,ze,zm hj] at this
 exact this
def plF (f:List Trm):PL:=f.map fun t=>(keyT t,(qJ t.c).q)
theorem sum_map (hn:(f.map keyT).Nodup):sumM f=f.map fun t=>(keyT t,qJ t.c):=by
 have key:∀ (l:List Trm) (m:List (KI×Qn)),((m.map (·.1))++l.map keyT).Nodup->l.foldl (fun m t=>Zk (t.i,t.j) (qJ t.c) m) m=m++l.map fun t=>(keyT t,qJ t.c):=by
  intro l
  induction l with
  | nil=>intro m _;simp
  | cons t l ih=>
   intro m h
   have hno:keyT t∉m.map (·.1):=by
    rw[zA,List.nodup_append] at h
    intro hm
    exact h.2.2 _ hm _ ao rfl
   have hset:∀ m:List (KI×Qn),keyT t∉m.map (·.1)->Zk (keyT t) (qJ t.c) m=m++[(keyT t,qJ t.c)]:=by
    intro m
    induction m with
    | nil=>intro _;rfl
    | cons a m ihm=>
     intro h
     obtain⟨a,x⟩:=a
     simp only[zA,zG,not_or] at h
     simp only[Zk,if_neg h.1,ihm h.2,zR]
   rw[List.foldl_cons]
   show l.foldl _ (Zk (keyT t) (qJ t.c) m)=_
   rw[hset m hno,ih]
   ·simp
   simpa using h
 exact key f [] (by simpa using hn)
theorem kp_sum (h:qQ f=0):KP (plF f) (sumM f):=by
 have hn:=pw_nd (po_pw h)
 rw[sum_map hn]
 refine⟨by simpa [List.map_map,Function.comp_def] using hn,fun k=>?_,fun k hk=>by simpa [plF,List.map_map,Function.comp_def] using hk⟩
 rw[<-cf_plM (by simpa [List.map_map,Function.comp_def] using hn)]
 simp[plM,plF,List.map_map,Function.comp_def]
theorem kb_f (h:qQ f=0):∀ k∈(plF f).map (·.1),0<=k.1/\0<=k.2/\k.1+k.2<=16:=by
 intro k hk
 simp only[plF,List.map_map,zF,Function.comp_def] at hk
 obtain⟨t,ht,rfl⟩:=hk
 have:=po_t h ht
 exact this.2.2
def Qn.ofI (n:Int):Qn:=⟨(n:Rat)⟩
theorem ofI_q {n:Int} (_:R64 n):(Qn.ofI n).q=(n:Rat):=rfl
theorem w100i (n:Int) (h: -1000000<=n/\n<=1000000):CKa 100 [vI n] (.pv (.agg [pI (Qn.n (Qn.ofI n)),jl,pI (Qn.d (Qn.ofI n)),jl])):=w100 n bj
end
def dblF:Nat->Int->Qn->Qn
 | 0,_,r=>r
 | n+1,k,r=>if 1<k then dblF n (k-2) (Qn.mul r (Qn.ofI k)) else r
def Zn (k:Int):Qn:=dblF 11 k (Qn.ofZ 1 bj)
def DbI (k j:Int) (r:Qn):Prop:= -1<=j/\(j<=20/\j<=k)/\(∃ n,Zn k=dblF n j r/\j<2*(n:Int)+1/\sz r.q<=1+(11-n)*5/\n<=11)
theorem ofI_sz {j:Int} (h: -1<=j/\j<=64):sz (Qn.ofI j).q<=7:=by
 rw[ofI_q bj]
 refine qh (sz_int j) ?_
 have:jk j.natAbs<=7:=jb aa
 omega
theorem ofI_s5 {j:Int} (h: -1<=j/\j<=20):sz (Qn.ofI j).q<=5:=by
 refine qh (sz_int j) ?_
 have:jk j.natAbs<=5:=jb aa
 omega
theorem db_0 {k:Int} (hk: -1<=k/\k<=20):DbI k k (Qn.ofZ 1 bj):=by
 refine⟨hk.1,⟨hk.2,Int.le_refl _⟩,11,rfl,aa,?_,zC _⟩
 rw[Qn.ofZ_q]
 exact qh (sz_int 1) ah
theorem db_s {k j:Int} {r:Qn} (h:DbI k j r) (_: -1<=k/\k<=20):sz r.q+sz (Qn.ofI j).q<=62:=by
 obtain⟨h1,⟨h2,_⟩,n,_,_,h3,_⟩:=h
 have:=ofI_s5 ⟨h1,h2⟩
 have:(11-n)*5<=55:=aa
 omega
theorem db_n {k j:Int} {r:Qn} (h:DbI k j r) (hj:1<j):DbI k (j-2) (Qn.mul r (Qn.ofI j)):=by
 obtain⟨h1,⟨h2,h5⟩,n,h6,h7,h3,h4⟩:=h
 have hs:=ofI_s5 ⟨h1,h2⟩
 cases n with
 | zero=>omega
 | succ n=>
  refine⟨aa,⟨aa,aa⟩,n,?_,aa,?_,aa⟩
  ·rw[h6,dblF,if_pos hj]
  rw[Qn.j6]
  have:=sz_mul r.q (Qn.ofI j).q
  omega
theorem db_e {k j:Int} {r:Qn} (h:DbI k j r) (hj:¬1<j):r=Zn k:=by
 obtain⟨_,_,n,h6,_⟩:=h
 rw[h6]
 cases n with
 | zero=>rfl
 | succ n=>rw[dblF,if_neg hj]
theorem w81 (f:List Trm) (hl:List.length f<=1000000) (hs:∀ t∈f,List.length (Trm.c t)<=18):CKa 81 [vL eY f] (vI (qQ f)):=by
 refine cG qf81 Z (nB Z) Z (E Z (B.jW Z un23) (l1 (fun (k:Nat)=>[(0,vL eY f),(6,vL eY f),(7,vI ((f.length:Nat):Int)),(8,vI ((k:Nat):Int))]) (fun _=>[]) (fun k=>k<=List.length f/\∀ j,j<k->chkA f j=0) (fun k=>List.length f-k) 0 Z ?_ (sb Z Z Z) ?_))
 · exact⟨zw _,fun j hj=>aa⟩
 intro k hI0
 refine Cp Z Z (fun h1=>?_) (fun h1=>?_)
 ·refine E Z (B.idx (z:=trZ) (i:=k) Z Z un23 sz111 (fun _=>rfl) Z aa) (C Z (w112 (Trm.c (f.getD k trZ)) (hs _ (jf aa))) Z Z Z (E Z (B.seqB (a:=(Trm.c (f.getD k trZ))) (b:=[48]) Z Z) (C Z (w99 (decide ((Trm.c (f.getD k trZ))=[48])) 6) Z Z Z (C Z (w97 (Trm.i (f.getD k trZ)) 0 16) Z Z Z (C Z (w97 (Trm.j (f.getD k trZ)) 0 16) Z Z Z (E Z (B.ja (val:=.pv (.slice (List.map eI [(jg (Trm.c (f.getD k trZ))),(qR (decide ((Trm.c (f.getD k trZ))=[48])) 6),(qF (Trm.i (f.getD k trZ)) 0 16),(qF (Trm.j (f.getD k trZ)) 0 16)]))) Z (fun l=>Frz.arr l _ _ _ _ _) Z) (C Z (w98 [(jg (Trm.c (f.getD k trZ))),(qR (decide ((Trm.c (f.getD k trZ))=[48])) 6),(qF (Trm.i (f.getD k trZ)) 0 16),(qF (Trm.j (f.getD k trZ)) 0 16)] (nB Z)) Z Z Z (Dr Z ae (Cp Z Z (fun h2=>?_) (fun h2=>?_))))))))))
  ·refine E Z (B.add Z Z cm) (C Z (w97 ((Trm.i (f.getD k trZ))+(Trm.j (f.getD k trZ))) 0 16) Z Z Z (Eg Z Z (fun hc=>B.move Z) Z (Eg Z Z (fun hc=>B.gtr (qz Z hc) Z) Z (E Z (B.pick Z Z Z (gdB Z) Z (q0 _)) ?_))))
   refine ek Z ?_
   cases h3:(bif (decide ((qF ((Trm.i (f.getD k trZ))+(Trm.j (f.getD k trZ))) 0 16)=0)) then (decide (0<((k:Nat):Int))) else false)
   ·refine Ef' Z Z (Ef' Z Z (Ef' Z Z (Ef' Z Z (Ef' Z Z (Ef' Z Z (Ef' Z Z (Ef' Z Z (Ef' Z Z (Ef' Z Z (Ef' Z Z (Ef' Z Z (Ef' Z Z (Ef' Z Z ?_)))))))))))))
    refine Ef' Z Z (Ef' Z Z (Ef' Z Z (Ef' Z Z (Ef' Z Z (Ef' Z Z (E Z (B.pkF Z Z Z Z Z) (Dr Z ae (CF Z Z (Cp Z Z (fun h4=>?_) (fun h4=>?_))))))))))
    ·exact Rt Z (leaf (val0:=vI (qF ((Trm.i (f.getD k trZ))+(Trm.j (f.getD k trZ))) 0 16)) ae (li co))
    refine E Z (B.add Z Z cm) (pk Z (L1 (k+1) ?_ ?_ (sb Z Z Z)))
    · exact⟨aa,ca_nx hI0.2 cp⟩
    · omega
   refine Et Z Z (B.move Z) (Et Z Z (B.move Z) (Et Z Z (B.sub Z Z cm) (Et Z Z (B.idx (z:=trZ) (i:=(k-1)) Z Z un23 sz111 (fun _=>rfl) cq aa) (Et Z Z (B.fadP Z fa111_1 Z) (Et Z Z (B.loadP Z ag3 sz3) (Et Z Z (B.move Z) (Et Z Z (B.move Z) (Et Z Z (B.sub Z Z cm) (Et Z Z (B.idx (z:=trZ) (i:=(k-1)) Z Z un23 sz111 (fun _=>rfl) cq aa) (Et Z Z (B.fadP Z fa111_2 Z) (Et Z Z (B.loadP Z ag3 sz3) (Et Z Z (B.run Z) (Et Z Z (B.fadB Z fa111_1 Z) ?_)))))))))))))
   refine Et Z Z (B.kJ Z Z Z ag3 sz3 Z) (Et Z Z (B.fadB Z fa111_2 Z) (Et Z Z (B.kJ Z Z Z ag3 sz3 Z) (Et Z Z (B.run Z) (Et Z Z (B.call (w170 ((Trm.i (f.getD (k-1) trZ)),(Trm.j (f.getD (k-1) trZ))) ((Trm.i (f.getD k trZ)),(Trm.j (f.getD k trZ))) (ca_kp hI0.2 (cg_2 h3)) (by first|exact ca_kc ab (cg_1 h3)|exact absurd (cg_1 h3) ab)) Z Z Z) (Et Z Z (B.geq Z Z) (E Z (B.pkT Z Z Z Z Z) (Dr Z ae (Cp Z Z (fun h5=>?_) (fun h5=>?_)))))))))
   ·exact CT Z Z (Rt Z (leaf (val0:=vI 11) ae (li co)))
   refine Cp Z Z (fun h6=>?_) (fun h6=>?_)
   ·exact Rt Z (leaf (val0:=vI (qF ((Trm.i (f.getD k trZ))+(Trm.j (f.getD k trZ))) 0 16)) ae (li co))
   refine E Z (B.add Z Z cm) (pk Z (L1 (k+1) ?_ ?_ (sb Z Z Z)))
   · exact⟨aa,ca_nx hI0.2 cp⟩
   · omega
  refine Eg Z Z (fun hc=>B.move Z) Z (Eg Z Z (fun hc=>B.gtr (qz Z hc) Z) Z (E Z (B.pick Z Z Z (gdB Z) Z (q0 _)) ?_))
  refine ek Z ?_
  cases h7:(bif (decide ((qB [(jg (Trm.c (f.getD k trZ))),(qR (decide ((Trm.c (f.getD k trZ))=[48])) 6),(qF (Trm.i (f.getD k trZ)) 0 16),(qF (Trm.j (f.getD k trZ)) 0 16)])=0)) then (decide (0<((k:Nat):Int))) else false)
  ·refine Ef' Z Z (Ef' Z Z (Ef' Z Z (Ef' Z Z (Ef' Z Z (Ef' Z Z (Ef' Z Z (Ef' Z Z (Ef' Z Z (Ef' Z Z (Ef' Z Z (Ef' Z Z (Ef' Z Z (Ef' Z Z ?_)))))))))))))
   refine Ef' Z Z (Ef' Z Z (Ef' Z Z (Ef' Z Z (Ef' Z Z (Ef' Z Z (E Z (B.pkF Z Z Z Z Z) (Dr Z ae (CF Z Z (Cp Z Z (fun h8=>?_) (fun h8=>?_))))))))))
   ·exact Rt Z (leaf (val0:=vI (qB [(jg (Trm.c (f.getD k trZ))),(qR (decide ((Trm.c (f.getD k trZ))=[48])) 6),(qF (Trm.i (f.getD k trZ)) 0 16),(qF (Trm.j (f.getD k trZ)) 0 16)])) ae (li co))
   refine E Z (B.add Z Z cm) (pk Z (L1 (k+1) ?_ ?_ (sb Z Z Z)))
   · exact⟨aa,ca_nx hI0.2 cp⟩
   · omega
  refine Et Z Z (B.move Z) (Et Z Z (B.move Z) (Et Z Z (B.sub Z Z cm) (Et Z Z (B.idx (z:=trZ) (i:=(k-1)) Z Z un23 sz111 (fun _=>rfl) cq aa) (Et Z Z (B.fadP Z fa111_1 Z) (Et Z Z (B.loadP Z ag3 sz3) (Et Z Z (B.move Z) (Et Z Z (B.move Z) (Et Z Z (B.sub Z Z cm) (Et Z Z (B.idx (z:=trZ) (i:=(k-1)) Z Z un23 sz111 (fun _=>rfl) cq aa) (Et Z Z (B.fadP Z fa111_2 Z) (Et Z Z (B.loadP Z ag3 sz3) (Et Z Z (B.run Z) (Et Z Z (B.fadB Z fa111_1 Z) ?_)))))))))))))
  refine Et Z Z (B.kJ Z Z Z ag3 sz3 Z) (Et Z Z (B.fadB Z fa111_2 Z) (Et Z Z (B.kJ Z Z Z ag3 sz3 Z) (Et Z Z (B.run Z) (Et Z Z (B.call (w170 ((Trm.i (f.getD (k-1) trZ)),(Trm.j (f.getD (k-1) trZ))) ((Trm.i (f.getD k trZ)),(Trm.j (f.getD k trZ))) (ca_kp hI0.2 (cg_2 h7)) (by first|exact ca_kc ab (cg_1 h7)|exact absurd (cg_1 h7) ab)) Z Z Z) (Et Z Z (B.geq Z Z) (E Z (B.pkT Z Z Z Z Z) (Dr Z ae (Cp Z Z (fun h9=>?_) (fun h9=>?_)))))))))
  ·exact CT Z Z (Rt Z (leaf (val0:=vI 11) ae (li co)))
  refine Cp Z Z (fun h10=>?_) (fun h10=>?_)
  ·exact Rt Z (leaf (val0:=vI (qB [(jg (Trm.c (f.getD k trZ))),(qR (decide ((Trm.c (f.getD k trZ))=[48])) 6),(qF (Trm.i (f.getD k trZ)) 0 16),(qF (Trm.j (f.getD k trZ)) 0 16)])) ae (li co))
  refine E Z (B.add Z Z cm) (pk Z (L1 (k+1) ?_ ?_ (sb Z Z Z)))
  · exact⟨aa,ca_nx hI0.2 cp⟩
  · omega
 exact Rt Z (leaf (val0:=vI 0) ae (li co))
theorem w124 (f g:List Trm) (hlf:List.length f<=1000000) (hsf:∀ t∈f,List.length (Trm.c t)<=18) (hlg:List.length g<=1000000) (hsg:∀ t∈g,List.length (Trm.c t)<=18):CKa 124 [vL eY f,vL eY g] (vI (jy f g)):=by
 exact cG qf124 Z (nB Z) Z (C Z (w81 f hlf hsf) Z Z Z (C Z (w81 g hlg hsg) Z Z Z (E Z (B.ja (val:=.pv (.slice (List.map eI [(qQ f),(qQ g)]))) Z (fun l=>Frz.arr l _ _ _ _ _) Z) (C Z (w98 [(qQ f),(qQ g)] (nB Z)) Z Z Z (Rt Z (leaf (val0:=vI (qB [(qQ f),(qQ g)])) ae (li bi)))))))
theorem w127 (k:Int) (hk: -1<=k/\k<=20):CKa 127 [vI k] (.pv (.agg [pI (Qn.n (Zn k)),.lit (.slice none 0 0),pI (Qn.d (Zn k)),.lit (.slice none 0 0)])):=by
 refine cG qf127 Z (nB Z) Z (E Z (B.ja Z (fun l=>Frz.jU l Z) Z) (C Z (w100 1 bj) Z Z Z (E Z (B.ja Z (fun l=>Frz.jU l Z) Z) (l2 (fun (j:Int) (r:Qn)=>[(0,vI j),(2,.bref 3 0),(3,.bref 4 0)]) (fun _ r=>[(3,.box 156 [vI 0,.pv (.lit (.slice none 0 0)),vI 0,.pv (.lit (.slice none 0 0))]),(4,.box 156 [vI (Qn.n r),.pv (.lit (.slice none 0 0)),vI (Qn.d r),.pv (.lit (.slice none 0 0))])]) (fun j r=>DbI k j r) (fun j _=>Int.toNat (j+1)) k (Qn.ofZ 1 bj) Z ?_ (sb Z Z Z) ?_))))
 · exact db_0 hk
 intro j r hI0
 have hb1:=hI0.1
 have hb2:=hI0.2.1
 refine Cp Z Z (fun h1=>?_) (fun h1=>?_)
 ·refine C Z (w100i j aa) Z Z Z (C Z (w126 r (Qn.ofI j) (db_s hI0 hk)) Z Z Z (Dr Z ae (E Z (B.sub Z Z (by have:=hI0.2.1;unfold R64;omega)) (pk Z (L2 (j-2) (Qn.mul r (Qn.ofI j)) ?_ ?_ (sb Z Z Z))))))
  · exact db_n hI0 ab
  · omega
 refine Rt Z ?_
 exact leaf (val0:=.pv (.agg [pI (Qn.n r),.lit (.slice none 0 0),pI (Qn.d r),.lit (.slice none 0 0)])) ae (by rw[db_e hI0 ab])
structure OkP (P:PL):Prop where
 k32:∀ k∈P.map (·.1),0<=k.1/\0<=k.2/\k.1+k.2<=32
 len:P.length<=100000
 sz:NB P 536870912
def gQ (m:List (KI×Qn)) (k:KI):Qn:=Option.getD (kj k m) frZ
def trmG (m:List (KI×Qn)) (k:KI):Trm:=⟨txt (Qn.q (gQ m k)),k.1,k.2⟩
def polL (P:PL):Bool:=(q9 P).any fun k=>je (cf P k)
def canT (P:PL):List Trm:=(q9 P).map fun k=>⟨txt (cf P k),k.1,k.2⟩
def polT (P:PL):List Trm:=bif polL P then [] else canT P
def polE (P:PL):Int:=bif polL P then 4 else 0
section
variable {P:PL} {m q:List (KI×Qn)} {k:KI} {j i:Nat} {o:List Trm} {x y r v:Qn} {n:Array Nat} {ax:Int}
theorem ok_32 (hm:KP P m) (hP:OkP P):∀ k∈m.map (·.1),0<=k.1/\0<=k.2/\k.1+k.2<=32:=fun k hk=>hP.k32 k (hm.mem k hk)
theorem ok_n (hm:KP P m) (hP:OkP P):m.length<=1000000:=by have:=hm.len;have:=hP.len;omega
theorem ok_z (hm:KP P m) (hP:OkP P):∀ k x,kj k m=some x->sz (Qn.q x)<=62:=fun k x h=>by rw[hm.val (jY h)];exact qh (hP.sz.sz (zC _) k) ah
theorem ok_q (hP:OkP P):(q9 P).length<=561:=by
 unfold q9
 refine qh (List.length_filter_le _ _) ?_
 decide +kernel
theorem gQ_ok (hm:KP P m) (hk:k∈q9 P):kj k m=some (gQ m k):=by
 unfold gQ
 cases h:kj k m with
 | some x=>rfl
 | none=>
  have:=hm.q k
  unfold cfM at this
  rw[h] at this
  exact absurd this.symm (mem_ordP.1 hk).2
theorem gQ_q (hm:KP P m) (hk:k∈q9 P):(gQ m k).q=cf P k:=hm.val (jY (gQ_ok hm hk))
theorem gQ_z (hm:KP P m) (hP:OkP P) (hk:k∈q9 P):sz (gQ m k).q<=62:=by rw[gQ_q hm hk];exact qh (hP.sz.sz (zC _) k) ah
theorem pp_s (h:o=List.map (trmG m) (List.take j (q9 P))) (hj:j<(q9 P).length):o++[Trm.mk (txt (Qn.q (gQ m (List.getD (q9 P) j (0,0))))) (Prod.fst (List.getD (q9 P) j (0,0))) (Prod.snd (List.getD (q9 P) j (0,0)))]=List.map (trmG m) (List.take (j+1) (q9 P)):=by
 rw[h,List.take_succ_eq_append_getElem hj,qc,ze,zm hj];rfl
theorem pp_l (h:∀ i,i<j->je (Qn.q (gQ m (List.getD (q9 P) i (0,0))))=false) (hj:je (Qn.q (gQ m (List.getD (q9 P) j (0,0))))=false):∀ i,i<j+1->je (Qn.q (gQ m (List.getD (q9 P) i (0,0))))=false:=fun i hi=>by
 by_cases e:i=j
 ·rw[e];exact hj
 exact h i aa
theorem pl_1 (hm:KP P m) (hj:j<(q9 P).length) (h:je (Qn.q (gQ m (List.getD (q9 P) j (0,0))))=true):polL P=true:=by
 unfold polL
 rw[List.any_eq_true]
 exact⟨_,jf hj,by rw[<-gQ_q hm (jf hj)];exact h⟩
theorem pl_2 (hm:KP P m) (h:∀ i,i<j->je (Qn.q (gQ m (List.getD (q9 P) i (0,0))))=false) (hj:(q9 P).length<=j):polL P=false:=by
 unfold polL
 rw[List.any_eq_false]
 intro k hk
 obtain⟨i,hi,rfl⟩:=List.getElem_of_mem hk
 have:=h i aa
 rw[ze,zm hi] at this
 rw[<-gQ_q hm hk];simpa using this
theorem pp_1 (hm:KP P m) (_:∀ i,i<j->je (Qn.q (gQ m (List.getD (q9 P) i (0,0))))=false) (hj:j<(q9 P).length) (h:je (Qn.q (gQ m (List.getD (q9 P) j (0,0))))=true):[]=polT P:=by unfold polT;rw[pl_1 hm hj h];rfl
theorem pp_2 (hm:KP P m) (_:∀ i,i<j->je (Qn.q (gQ m (List.getD (q9 P) i (0,0))))=false) (hj:j<(q9 P).length) (h:je (Qn.q (gQ m (List.getD (q9 P) j (0,0))))=true):4=polE P:=by unfold polE;rw[pl_1 hm hj h];rfl
theorem pp_3 (hm:KP P m) (h0:o=List.map (trmG m) (List.take j (q9 P))) (h:∀ i,i<j->je (Qn.q (gQ m (List.getD (q9 P) i (0,0))))=false) (hj:(q9 P).length<=j):o=polT P:=by
 unfold polT
 rw[pl_2 hm h hj,h0,zB hj,cond_false]
 exact List.map_congr_left fun k hk=>by unfold trmG;rw[gQ_q hm hk]
theorem pp_4 (hm:KP P m) (h:∀ i,i<j->je (Qn.q (gQ m (List.getD (q9 P) i (0,0))))=false) (hj:(q9 P).length<=j):0=polE P:=by unfold polE;rw[pl_2 hm h hj];rfl
def evS (m:List (KI×Qn)) (x y:Qn):List KI->Qn->Qn
 | [],r=>r
 | k::l,r=>evS m x y l (Qn.add r (Qn.mul (Qn.mul (gQ m k) (qnP x k.1.toNat)) (qnP y k.2.toNat)))
def valM (m:List (KI×Qn)) (P:PL) (x y:Qn):Qn:=evS m x y (q9 P) frZ
def evR (P:PL) (a b:Rat):List KI->Rat->Rat
 | [],r=>r
 | k::l,r=>evR P a b l (r+cf P k*a ^ k.1.toNat*b ^ k.2.toNat)
def EvT (P:PL) (x y:Qn) (k:KI) (r:Rat):Prop:=k.1.toNat*sz x.q<=62/\k.2.toNat*sz y.q<=62/\sz (cf P k)+sz (x.q ^ k.1.toNat)<=62/\sz (cf P k*x.q ^ k.1.toNat)+sz (y.q ^ k.2.toNat)<=62/\sz r+sz (cf P k*x.q ^ k.1.toNat*y.q ^ k.2.toNat)<=62
def EvOk (P:PL) (x y:Qn):Prop:=(∀ j,j<(q9 P).length->EvT P x y ((q9 P).getD j (0,0)) (evR P x.q y.q ((q9 P).take j) 0))/\sz (evR P x.q y.q (q9 P) 0)<=62
theorem evS_app (l:List KI) (k:KI) (r:Qn):evS m x y (l++[k]) r=Qn.add (evS m x y l r) (Qn.mul (Qn.mul (gQ m k) (qnP x k.1.toNat)) (qnP y k.2.toNat)):=by
 induction l generalizing r with
 | nil=>rfl
 | cons a l ih=>exact ih _
theorem ev_s (h:r=evS m x y (List.take j (q9 P)) frZ) (hj:j<(q9 P).length):Qn.add r (Qn.mul (Qn.mul (gQ m (List.getD (q9 P) j (0,0))) (qnP x (Int.toNat (Prod.fst (List.getD (q9 P) j (0,0)))))) (qnP y (Int.toNat (Prod.snd (List.getD (q9 P) j (0,0))))))=evS m x y (List.take (j+1) (q9 P)) frZ:=by
 rw[List.take_succ_eq_append_getElem hj,evS_app,<-h,ze,zm hj];rfl
theorem ev_e (h:r=evS m x y (List.take j (q9 P)) frZ) (hj:(q9 P).length<=j):r=valM m P x y:=by rw[h,zB hj];rfl
theorem w191i (x:Qn) (z:Int) (h:0<=z/\z<=32/\z.toNat*sz x.q<=62):CKa 191 [.pv (.agg [pI (Qn.n x),jl,pI (Qn.d x),jl]),vI z] (.pv (.agg [pI (Qn.n (qnP x z.toNat)),jl,pI (Qn.d (qnP x z.toNat)),jl])):=by
 have:=w191 x z.toNat h.2.2 aa
 rwa [Int.toNat_of_nonneg h.1] at this
theorem ev_k (hz:EvOk P x y) (hk:k∈q9 P):∃ r,EvT P x y k r:=by
 obtain⟨j,hj,rfl⟩:=List.getElem_of_mem hk
 have:=hz.1 j hj
 rw[ze,zm hj] at this
 exact⟨_,this⟩
theorem ev_p (hz:EvOk P x y) (_:OkP P) (hk:k∈q9 P):(0<=k.1/\k.1<=32/\k.1.toNat*sz x.q<=62)/\(0<=k.2/\k.2<=32/\k.2.toNat*sz y.q<=62):=by
 obtain⟨⟨h1,h2,h3⟩,_⟩:=mem_ordP.1 hk
 obtain⟨r,g⟩:=ev_k hz hk
 exact⟨⟨h1,aa,g.1⟩,h2,aa,g.2.1⟩
theorem ev_m1 (hm:KP P m) (hz:EvOk P x y) (_:OkP P) (hk:k∈q9 P):sz (gQ m k).q+sz (qnP x k.1.toNat).q<=62:=by
 obtain⟨r,g⟩:=ev_k hz hk
 rw[gQ_q hm hk];exact g.2.2.1
theorem ev_m2 (hm:KP P m) (hz:EvOk P x y) (_:OkP P) (hk:k∈q9 P):sz (Qn.mul (gQ m k) (qnP x k.1.toNat)).q+sz (qnP y k.2.toNat).q<=62:=by
 obtain⟨r,g⟩:=ev_k hz hk
 rw[Qn.j6,gQ_q hm hk];exact g.2.2.2.1
theorem evS_q (hm:KP P m):∀ (l:List KI) (r:Qn),(∀ k∈l,k∈q9 P)->(evS m x y l r).q=evR P x.q y.q l r.q
 | [],_,_=>rfl
 | k::l,r,h=>by
  rw[evS,evR,evS_q hm l _ fun k hk=>h k (by simp[hk]),Qn.add_q,Qn.j6,Qn.j6,qnP_q,qnP_q,gQ_q hm (h k ao)]
theorem valM_s (hm:KP P m) (hz:EvOk P x y):sz (valM m P x y).q<=62:=by
 unfold valM
 rw[evS_q hm _ _ fun k hk=>hk];exact hz.2
theorem ev_a (hm:KP P m) (hz:EvOk P x y) (_:OkP P) (hj:j<(q9 P).length) (h:r=evS m x y (List.take j (q9 P)) frZ):sz r.q+sz (Qn.mul (Qn.mul (gQ m (List.getD (q9 P) j (0,0))) (qnP x (Int.toNat (Prod.fst (List.getD (q9 P) j (0,0)))))) (qnP y (Int.toNat (Prod.snd (List.getD (q9 P) j (0,0)))))).q<=62:=by
 have g:=(hz.1 j hj).2.2.2.2
 rw[Qn.j6,Qn.j6,gQ_q hm (jf (z:=(0,0)) hj),h,evS_q hm _ _ fun k hk=>zx hk]
 exact g
def canP (P:PL):PL:=(q9 P).map fun k=>(k,cf P k)
theorem cf_map {F:KI->Rat}:∀ {l:List KI},l.Nodup->cf (l.map fun k=>(k,F k)) k=if k∈l then F k else 0
 | [],_=>by simp[cf_nil]
 | a::l,h=>by
  rw[List.nodup_cons] at h
  rw[zA,jp,cf_map h.2]
  by_cases e:a=k
  ·subst e;simp[h.1,Rat.add_zero]
  simp[e,Ne.symm e,Rat.zero_add]
theorem can_eqv (hP:OkP P):Eqv (canP P) P:=fun k=>by
 unfold canP
 rw[cf_map (pw_nd ordP_pw)]
 by_cases h:k∈q9 P
 ·rw[if_pos h]
 rw[if_neg h]
 by_cases e:cf P k=0
 ·exact e.symm
 exact absurd (mem_ordP.2 ⟨hP.k32 k (by
  by_cases hk:k∈P.map (·.1)
  ·exact hk
  exact absurd (cf_no hk) e),e⟩) h
def evP (P:PL) (a b:Rat):Rat:=lin (fun k=>a ^ k.1.toNat*b ^ k.2.toNat) P
theorem valM_q (hm:KP P m) (hP:OkP P):(valM m P x y).q=evP P x.q y.q:=by
 have key:∀ (l:List KI) (r:Qn),(∀ k∈l,k∈q9 P)->(evS m x y l r).q=r.q+lin (fun k=>x.q ^ k.1.toNat*y.q ^ k.2.toNat) (l.map fun k=>(k,cf P k)):=by
  intro l
  induction l with
  | nil=>intro r _;simp[evS,lin,Rat.add_zero]
  | cons k l ih=>
   intro r h
   rw[evS,ih _ fun k hk=>h k (by simp[hk]),Qn.add_q,Qn.j6,Qn.j6,qnP_q,qnP_q,gQ_q hm (h k ao)]
   simp only[zA,lin]
   grind
 unfold valM evP
 rw[key _ _ fun k hk=>hk,show frZ.q=((0:Int):Rat) from rfl]
 rw[<-(can_eqv hP).lin]
 show ((0:Int):Rat)+lin _ (canP P)=_
 rw[Rat.intCast_zero,Rat.zero_add]
def DrOk (P:PL):Prop:=NB P 16777216
theorem DrOk.b (h:DrOk P):∃ B,NB P B/\32*B<=536870912:=⟨_,h,ah⟩
def DrI (m:List (KI×Qn)) (ax:Int) (n:Array Nat) (q:List (KI×Qn)):Prop:=VI m n/\KP (j1 ax (plM (visL m n))) q
theorem dr_0:DrI m ax #[] []:=⟨VI.nil _,KP.nil⟩
theorem der_app (A B:PL):j1 ax (A++B)=j1 ax A++j1 ax B:=List.flatMap_append
theorem dr_1:j1 ax (plM [(k,v)])=derT ax (k,v.q):=by simp[j1,plM]
theorem dr_s (hI:DrI m ax n q) (hk:m[i]? =some (k,v)) (hi:i∉n) (h:0<kax ax k) (hz:R64 (kax ax k)):DrI m ax (n.push i) (addK (kdec ax k) (Qn.mul v (Qn.ofI (kax ax k))) q):=by
 refine⟨hI.1.push hk hi,?_⟩
 rw[j4 hk,plM_app,der_app,dr_1]
 unfold derT
 rw[if_pos h]
 have:=hI.2.add (kdec ax k) (Qn.mul v (Qn.ofI (kax ax k)))
 rw[Qn.j6,ofI_q hz] at this
 exact this
theorem dr_n (hI:DrI m ax n q) (hk:m[i]? =some (k,v)) (hi:i∉n) (h:¬0<kax ax k):DrI m ax (n.push i) q:=by
 refine⟨hI.1.push hk hi,?_⟩
 rw[j4 hk,plM_app,der_app,dr_1]
 unfold derT
 rw[if_neg h,zS]
 exact hI.2
theorem de_b2 (hm:KP P m) (hP:OkP P) (hk:m[i]? =some (k,v)):0<=k.1/\k.1<=32/\0<=k.2/\k.2<=32:=by
 have:=ok_32 hm hP k (zF.2 ⟨_,List.mem_of_getElem? hk,rfl⟩)
 omega
theorem dr_v (hm:KP P m) (hd:DrOk P) (hk:m[i]? =some (k,v)) {z:Int} (hz: -1<=z/\z<=32):sz v.q<=30/\sz (v.q*(z:Rat))<=30:=by
 obtain⟨B,h,hB⟩:=hd.b
 obtain⟨y,e,hy⟩:=nb_v h hm hk
 rw[e]
 refine⟨sz_z aa,?_⟩
 rw[<-Rat.intCast_mul]
 refine sz_z ?_
 rw[Int.natAbs_mul]
 have:=Nat.mul_le_mul hy (show z.natAbs<=32 by omega)
 omega
theorem dr_m (hm:KP P m) (hd:DrOk P) (hk:m[i]? =some (k,v)) {z:Int} (hz: -1<=z/\z<=32):sz v.q+sz (Qn.ofI z).q<=62:=by
 have h2:=ofI_sz (j:=z) aa
 have:=(dr_v hm hd hk hz).1
 omega
theorem dr_a (hm:KP P m) (hP:OkP P) (hd:DrOk P) (hI:DrI m ax n q) (hk:m[i]? =some (k,v)) {z:Int} (hz: -1<=z/\z<=32) {K:KI}:∀ x,kj K q=some x->sz x.q+sz (Qn.mul v (Qn.ofI z)).q<=62:=by
 intro x hx
 have h1:=(dr_v hm hd hk hz).2
 obtain⟨B,h,hB⟩:=hd.b
 have h2:=((h.vis hm hI.1).der (ax:=ax) fun p hp=>by
  simp only[plM,zF] at hp
  obtain⟨b,hb,rfl⟩:=hp
  obtain⟨i',hi'⟩:=List.mem_iff_getElem?.1 (vis_mem hb)
  have hr:=de_b2 (k:=b.1) (v:=b.2) hm hP hi'
  unfold kax;split<;>(simp only;omega)).sz hB K
 rw[<-hI.2.val (jY hx)] at h2
 rw[Qn.j6,ofI_q bj]
 omega
theorem dr_e (hm:KP P m) (hI:DrI m ax n q) (ha:∀ i,i<m.length->i∈n):KP (j1 ax P) q:=by
 have hp:=plM_perm (hI.1.all ha)
 refine hI.2.congr (Eqv.der ax ((Eqv.perm hp).trans hm.eqv)) fun k hk=>?_
 have hkeys:∀ (A:PL) (k:KI),k∈(j1 ax A).map (·.1)↔∃ a∈A.map (·.1),0<kax ax a/\k=kdec ax a:=by
  intro A k
  simp only[j1,zF,List.mem_flatMap]
  constructor
  ·rintro⟨p,⟨a,ha,hp⟩,rfl⟩
   unfold derT at hp
   split at hp
   ·rename_i h;rw[zg] at hp;subst hp;exact⟨_,⟨a,ha,rfl⟩,h,rfl⟩
   cases hp
  rintro⟨_,⟨a,ha,rfl⟩,h,rfl⟩
  exact⟨_,⟨a,ha,by unfold derT;rw[if_pos h];exact zg.2 rfl⟩,rfl⟩
 rw[hkeys] at hk ⊢
 obtain⟨a,h1,h2,h3⟩:=hk
 exact⟨a,hm.keysP a ((hp.map (·.1)).mem_iff.1 h1),h2,h3⟩
end
theorem by111:ty111.info.bytes=32:=ae
theorem in111:tab.info? 111=some ty111.info:=ae
theorem w104' (hp:qX) (m:List (KI×Qn)) (P:PL) (hm:KP P m) (hP:OkP P):qD Tryz.prog 104 [.mref 1] (qw [(1,(kO eP m))]) (.tup [vL eY (polT P),vI (polE P)]) [(1,(kO eP m))]:=by
 refine cL 10 [(1,(kO eP m))] qf104 Z (nB Z) Z Z (kc (E Z (B.kg (enc:=eY) Z) (E Z (B.adopt 14 3 111 Z Z) (E Z (B.q6 (l:=[(1,(kO eP m))]) (w180 m P 1 hm (ok_32 hm hP) (ok_n hm hP) (ok_z hm hP)) Z Z ⟨rfl,trivial⟩ rfl rfl) (E Z (B.jW Z un243) (l2 (fun (k:Nat) (o:List Trm)=>[(0,.mref 1),(4,.aref 14 k),(8,vL eK (q9 P)),(9,vI ((List.length (q9 P):Nat):Int)),(10,vI ((k:Nat):Int))]) (fun k o=>[(1,(kO eP m)),(14,.arr k 3 111 (List.map eY o))]) (fun k o=>k<=List.length (q9 P)/\o=List.map (trmG m) (List.take k (q9 P))/\∀ j,j<k->je (Qn.q (gQ m (List.getD (q9 P) j (0,0))))=false) (fun k _=>List.length (q9 P)-k) 0 [] Z ?_ (sb Z Z Z) ?_))))))
 · exact⟨zw _,rfl,fun j hj=>aa⟩
 intro k o hI0
 have hq:=ok_q (P:=P) hP
 have hol:List.length o=k:=by rw[hI0.2.1,zJ,zn];omega
 refine Cp Z Z (fun h1=>?_) (fun h1=>?_)
 ·refine E Z (B.idx (z:=(0,0)) (i:=k) Z Z un243 sz151 (fun _=>rfl) Z ct) (E Z (B.getK0 (enc:=eP) (l:=m) (k:=(List.getD (q9 P) k (0,0))) (v:=(gQ m (List.getD (q9 P) k (0,0)))) kty Z Z Z in156 Z zP_ok (gQ_ok hm (jf aa))) (C Z (w181 (gQ m (List.getD (q9 P) k (0,0))) (gQ_z hm hP (jf aa))) Z Z Z (Cb Z Z (fun h2=>?_) (fun h2=>?_))))
  ·refine E Z (B.kg (enc:=eY) Z) ?_
   refine Rt Z ?_
   exact q5 (val0:=.tup [vL eY [],vI 4]) (out0:=[(1,(kO eP m))]) (.inr Z) ae cu bi
  refine E Z (B.getK0 (enc:=eP) (l:=m) (k:=(List.getD (q9 P) k (0,0))) (v:=(gQ m (List.getD (q9 P) k (0,0)))) kty Z Z Z in156 Z zP_ok (gQ_ok hm (jf aa))) (C Z (w162 hp (gQ m (List.getD (q9 P) k (0,0))) (gQ_z hm hP (jf aa))) Z Z Z (E Z (B.run Z) (E Z (B.run Z) (E Z (B.run (val:=.pv (.agg [pS (bsO (txt (Qn.q (gQ m (List.getD (q9 P) k (0,0)))))),pI (Prod.fst (List.getD (q9 P) k (0,0))),pI (Prod.snd (List.getD (q9 P) k (0,0)))])) (m:=[]) (rd:=[]) ae) (E Z (B.ja (val:=.pv (.slice (List.map eY [(Trm.mk (txt (Qn.q (gQ m (List.getD (q9 P) k (0,0))))) (Prod.fst (List.getD (q9 P) k (0,0))) (Prod.snd (List.getD (q9 P) k (0,0))))]))) (val0:=.aref 38 0) (m0:=[(38,.arr 0 3 111 [[pS (bsO (Trm.c (Trm.mk (txt (Qn.q (gQ m (List.getD (q9 P) k (0,0))))) (Prod.fst (List.getD (q9 P) k (0,0))) (Prod.snd (List.getD (q9 P) k (0,0)))))),pI (Trm.i (Trm.mk (txt (Qn.q (gQ m (List.getD (q9 P) k (0,0))))) (Prod.fst (List.getD (q9 P) k (0,0))) (Prod.snd (List.getD (q9 P) k (0,0))))),pI (Trm.j (Trm.mk (txt (Qn.q (gQ m (List.getD (q9 P) k (0,0))))) (Prod.fst (List.getD (q9 P) k (0,0))) (Prod.snd (List.getD (q9 P) k (0,0)))))]])]) (rd:=[]) ae (fun l=>Frz.arr l _ _ _ _ _) Z) (E Z (B.append (enc:=eY) (l:=o) (r:=[(Trm.mk (txt (Qn.q (gQ m (List.getD (q9 P) k (0,0))))) (Prod.fst (List.getD (q9 P) k (0,0))) (Prod.snd (List.getD (q9 P) k (0,0))))]) Z Z Z un23 in111 Z (fun _=>rfl) by111 ct) (Dr Z ae (E Z (B.add Z Z bj) (pk Z (L2 (k+1) (o++[(Trm.mk (txt (Qn.q (gQ m (List.getD (q9 P) k (0,0))))) (Prod.fst (List.getD (q9 P) k (0,0))) (Prod.snd (List.getD (q9 P) k (0,0))))]) ?_ ?_ (sb Z Z Z)))))))))))
  · exact⟨aa,pp_s hI0.2.1 aa,pp_l hI0.2.2 ab⟩
  · omega
 refine Fz 9 4 Z Z Z ?_
 refine Rt Z ?_
 exact q5 (val0:=.tup [vL eY o,vI 0]) (out0:=[(1,(kO eP m))]) (.inr Z) ae cu bi
theorem w104 (hp:qX) (m:List (KI×Qn)) (P:PL) (a:Nat) (hm:KP P m) (hP:OkP P):qD Tryz.prog 104 [.mref a] (qw [(a,(kO eP m))]) (.tup [vL eY (polT P),vI (polE P)]) [(a,(kO eP m))]:=by
 simpa [renM,DV.renL,DV.ren,MO.ren,r1_1] using (w104' hp m P hm hP).r1 1 a
theorem w115' (m:List (KI×Qn)) (P:PL) (x y:Qn) (hm:KP P m) (hP:OkP P) (hz:EvOk P x y):qD Tryz.prog 115 [.mref 1,.pv (.agg [pI (Qn.n x),.lit (.slice none 0 0),pI (Qn.d x),.lit (.slice none 0 0),pI (Qn.n y),.lit (.slice none 0 0),pI (Qn.d y),.lit (.slice none 0 0)])] (qw [(1,(kO eP m))]) (.pv (.agg [pI (Qn.n (valM m P x y)),.lit (.slice none 0 0),pI (Qn.d (valM m P x y)),.lit (.slice none 0 0)])) [(1,(kO eP m))]:=by
 refine cL 10 [(1,(kO eP m))] qf115 Z (nB Z) Z Z (kc (E Z (B.ja Z (fun l=>Frz.jU l Z) Z) (C Z (w100 0 bj) Z Z Z (E Z (B.ja Z (fun l=>Frz.jU l Z) Z) (E Z (B.q6 (l:=[(1,(kO eP m))]) (w180 m P 1 hm (ok_32 hm hP) (ok_n hm hP) (ok_z hm hP)) Z Z ⟨rfl,trivial⟩ rfl rfl) (E Z (B.jW Z un243) (l2 (fun (k:Nat) (r:Qn)=>[(0,.mref 1),(3,.bref 13 0),(4,.bref 14 0),(5,.bref 15 0),(10,vL eK (q9 P)),(11,vI ((List.length (q9 P):Nat):Int)),(12,vI ((k:Nat):Int))]) (fun _ r=>[(1,(kO eP m)),(13,.box 176 [vI (Qn.n x),.pv (.lit (.slice none 0 0)),vI (Qn.d x),.pv (.lit (.slice none 0 0)),vI (Qn.n y),.pv (.lit (.slice none 0 0)),vI (Qn.d y),.pv (.lit (.slice none 0 0))]),(14,.box 156 [vI 0,.pv (.lit (.slice none 0 0)),vI 0,.pv (.lit (.slice none 0 0))]),(15,.box 156 [vI (Qn.n r),.pv (.lit (.slice none 0 0)),vI (Qn.d r),.pv (.lit (.slice none 0 0))])]) (fun k r=>k<=List.length (q9 P)/\r=evS m x y (List.take k (q9 P)) frZ) (fun k _=>List.length (q9 P)-k) 0 frZ Z ?_ (sb Z Z Z) ?_)))))))
 · exact⟨zw _,rfl⟩
 intro k r hI0
 have hq:=ok_q (P:=P) hP
 refine Cp Z Z (fun h1=>?_) (fun h1=>?_)
 ·refine E Z (B.idx (z:=(0,0)) (i:=k) Z Z un243 sz151 (fun _=>rfl) Z aa) (E Z (B.getK0 (enc:=eP) (l:=m) (k:=(List.getD (q9 P) k (0,0))) (v:=(gQ m (List.getD (q9 P) k (0,0)))) kty Z Z Z in156 Z zP_ok (gQ_ok hm (jf aa))) (E Z (B.run Z) (C Z (w191i x (Prod.fst (List.getD (q9 P) k (0,0))) (ev_p hz hP (jf aa)).1) Z Z Z (C Z (w126 (gQ m (List.getD (q9 P) k (0,0))) (qnP x (Int.toNat (Prod.fst (List.getD (q9 P) k (0,0))))) (ev_m1 hm hz hP (jf aa))) Z Z Z (E Z (B.run Z) (C Z (w191i y (Prod.snd (List.getD (q9 P) k (0,0))) (ev_p hz hP (jf aa)).2) Z Z Z (C Z (w126 (Qn.mul (gQ m (List.getD (q9 P) k (0,0))) (qnP x (Int.toNat (Prod.fst (List.getD (q9 P) k (0,0)))))) (qnP y (Int.toNat (Prod.snd (List.getD (q9 P) k (0,0))))) (ev_m2 hm hz hP (jf aa))) Z Z Z (C Z (w125 r (Qn.mul (Qn.mul (gQ m (List.getD (q9 P) k (0,0))) (qnP x (Int.toNat (Prod.fst (List.getD (q9 P) k (0,0)))))) (qnP y (Int.toNat (Prod.snd (List.getD (q9 P) k (0,0)))))) (ev_a hm hz hP aa hI0.2)) Z Z Z (Dr Z ae (E Z (B.add Z Z bj) (pk Z (L2 (k+1) (Qn.add r (Qn.mul (Qn.mul (gQ m (List.getD (q9 P) k (0,0))) (qnP x (Int.toNat (Prod.fst (List.getD (q9 P) k (0,0)))))) (qnP y (Int.toNat (Prod.snd (List.getD (q9 P) k (0,0))))))) ?_ ?_ (sb Z Z Z)))))))))))))
  · exact⟨aa,ev_s hI0.2 aa⟩
  · omega
 refine Rt Z ?_
 exact q5 (val0:=.pv (.agg [pI (Qn.n r),.lit (.slice none 0 0),pI (Qn.d r),.lit (.slice none 0 0)])) (out0:=[(1,(kO eP m))]) (.inr Z) ae (by rw[ev_e hI0.2 aa]) bi
theorem w115 (m:List (KI×Qn)) (P:PL) (x y:Qn) (a:Nat) (hm:KP P m) (hP:OkP P) (hz:EvOk P x y):qD Tryz.prog 115 [.mref a,.pv (.agg [pI (Qn.n x),.lit (.slice none 0 0),pI (Qn.d x),.lit (.slice none 0 0),pI (Qn.n y),.lit (.slice none 0 0),pI (Qn.d y),.lit (.slice none 0 0)])] (qw [(a,(kO eP m))]) (.pv (.agg [pI (Qn.n (valM m P x y)),.lit (.slice none 0 0),pI (Qn.d (valM m P x y)),.lit (.slice none 0 0)])) [(a,(kO eP m))]:=by
 simpa [renM,DV.renL,DV.ren,MO.ren,r1_1] using (w115' m P x y hm hP hz).r1 1 a
theorem w117_0' (m:List (KI×Qn)) (P:PL) (hm:KP P m) (hP:OkP P) (hd:DrOk P):qD Tryz.prog 117 [.mref 1,vI 0] (qw [(1,(kO eP m))]) (.mref 20) [(1,(kO eP m)),(20,kR (j1 (0:Int) P))]:=by
 refine cL 10 [(1,(kO eP m))] qf117 Z (nB Z) Z Z (kc (E Z (B.newK (enc:=eP) Z Z) (E Z (B.rangeK (enc:=eP) (l:=m) kty Z Z Z Z) (l2 (fun (n:Array Nat) (q:List (KI×Qn))=>[(0,.mref 1),(1,vI 0),(5,.mref 20),(6,.clos (.func 119) [.mref 20] []),(14,.bref 24 0)]) (fun n q=>[(1,(kO eP m)),(20,(kO eP q)),(24,.miter 1 (m.length) n)]) (fun n q=>DrI m (0:Int) n q) (fun n _=>List.length m-Array.size n) (#[]) [] Z ?_ (sb Z Z Z) ?_))))
 · exact dr_0
 intro n q hI0
 refine tk 4 Z ?_
 refine TK.nextK (Y:=tab) (enc:=eP) (l:=m) Z Z Z Z Z (fun i1 k1 v1 hk1 hi1=>?_) (fun hall1=>?_)
 ·refine rc (CT Z Z (E Z (B.entryK (enc:=eP) (l:=m) Z Z Z hk1) (E Z (B.ja Z (fun l=>Frz.jU l Z) Z) (E Z (B.run Z) (Cp Z Z (fun h1=>?_) (fun h1=>?_))))))
  ·refine E Z (B.run Z) (E Z (B.sub Z Z cv) (E Z (B.run Z) (C Z (w100i (Prod.fst k1) cz) Z Z Z (C Z (w126 v1 (Qn.ofI (Prod.fst k1)) (dr_m hm hd hk1 cz)) Z Z Z (E Z (B.q6 (l:=[(20,(kO eP q))]) (w119 q (((Prod.fst k1)-1),(Prod.snd k1)) (Qn.mul v1 (Qn.ofI (Prod.fst k1))) 20 (dr_a hm hP hd hI0 hk1 cz)) Z Z ⟨rfl,trivial⟩ rfl rfl) (Dr Z ae (pk Z (L2 (Array.push n i1) (addK (((Prod.fst k1)-1),(Prod.snd k1)) (Qn.mul v1 (Qn.ofI (Prod.fst k1))) q) ?_ ?_ (sb Z Z Z)))))))))
   · (first|exact dr_s hI0 hk1 hi1 (show 0<kax (0:Int) k1 from (by assumption:0<Prod.fst k1)) c4|exact dr_n hI0 hk1 hi1 (show ¬0<kax (0:Int) k1 from (by assumption:¬0<Prod.fst k1)))
   · exact hI0.1.meas hk1 hi1
  refine pk Z (L2 (Array.push n i1) q ?_ ?_ (sb Z Z Z))
  · (first|exact dr_s hI0 hk1 hi1 (show 0<kax (0:Int) k1 from (by assumption:0<Prod.fst k1)) c4|exact dr_n hI0 hk1 hi1 (show ¬0<kax (0:Int) k1 from (by assumption:¬0<Prod.fst k1)))
  · exact hI0.1.meas hk1 hi1
 refine rc (CF Z Z ?_)
 refine tk 10 Z ?_
 refine TK.shutK (h:=20) (R':=fun kv=>∃ m,KP (j1 (0:Int) P) m/\kv=kvO eP m) Z (fun kv e=>⟨_,dr_e hm hI0 hall1,e⟩) ?_
 refine kc ?_
 refine Rt Z ?_
 exact q5 (val0:=.mref 20) (out0:=[(1,(kO eP m)),(20,(kR (j1 (0:Int) P)))]) (.inr Z) ae Z rfl
theorem w117_1' (m:List (KI×Qn)) (P:PL) (hm:KP P m) (hP:OkP P) (hd:DrOk P):qD Tryz.prog 117 [.mref 1,vI 1] (qw [(1,(kO eP m))]) (.mref 20) [(1,(kO eP m)),(20,kR (j1 (1:Int) P))]:=by
 refine cL 10 [(1,(kO eP m))] qf117 Z (nB Z) Z Z (kc (E Z (B.newK (enc:=eP) Z Z) (E Z (B.rangeK (enc:=eP) (l:=m) kty Z Z Z Z) (l2 (fun (n:Array Nat) (q:List (KI×Qn))=>[(0,.mref 1),(1,vI 1),(5,.mref 20),(6,.clos (.func 119) [.mref 20] []),(14,.bref 24 0)]) (fun n q=>[(1,(kO eP m)),(20,(kO eP q)),(24,.miter 1 (m.length) n)]) (fun n q=>DrI m (1:Int) n q) (fun n _=>List.length m-Array.size n) (#[]) [] Z ?_ (sb Z Z Z) ?_))))
 · exact dr_0
 intro n q hI0
 refine tk 4 Z ?_
 refine TK.nextK (Y:=tab) (enc:=eP) (l:=m) Z Z Z Z Z (fun i1 k1 v1 hk1 hi1=>?_) (fun hall1=>?_)
 ·refine rc (CT Z Z (E Z (B.entryK (enc:=eP) (l:=m) Z Z Z hk1) (E Z (B.ja Z (fun l=>Frz.jU l Z) Z) (E Z (B.run Z) (Cp Z Z (fun h1=>?_) (fun h1=>?_))))))
  ·refine E Z (B.run Z) (E Z (B.sub Z Z cv) (E Z (B.run Z) (C Z (w100i (Prod.snd k1) cz) Z Z Z (C Z (w126 v1 (Qn.ofI (Prod.snd k1)) (dr_m hm hd hk1 cz)) Z Z Z (E Z (B.q6 (l:=[(20,(kO eP q))]) (w119 q ((Prod.fst k1),((Prod.snd k1)-1)) (Qn.mul v1 (Qn.ofI (Prod.snd k1))) 20 (dr_a hm hP hd hI0 hk1 cz)) Z Z ⟨rfl,trivial⟩ rfl rfl) (Dr Z ae (pk Z (L2 (Array.push n i1) (addK ((Prod.fst k1),((Prod.snd k1)-1)) (Qn.mul v1 (Qn.ofI (Prod.snd k1))) q) ?_ ?_ (sb Z Z Z)))))))))
   · (first|exact dr_s hI0 hk1 hi1 (show 0<kax (1:Int) k1 from (by assumption:0<Prod.snd k1)) c5|exact dr_n hI0 hk1 hi1 (show ¬0<kax (1:Int) k1 from (by assumption:¬0<Prod.snd k1)))
   · exact hI0.1.meas hk1 hi1
  refine pk Z (L2 (Array.push n i1) q ?_ ?_ (sb Z Z Z))
  · (first|exact dr_s hI0 hk1 hi1 (show 0<kax (1:Int) k1 from (by assumption:0<Prod.snd k1)) c5|exact dr_n hI0 hk1 hi1 (show ¬0<kax (1:Int) k1 from (by assumption:¬0<Prod.snd k1)))
  · exact hI0.1.meas hk1 hi1
 refine rc (CF Z Z ?_)
 refine tk 10 Z ?_
 refine TK.shutK (h:=20) (R':=fun kv=>∃ m,KP (j1 (1:Int) P) m/\kv=kvO eP m) Z (fun kv e=>⟨_,dr_e hm hI0 hall1,e⟩) ?_
 refine kc ?_
 refine Rt Z ?_
 exact q5 (val0:=.mref 20) (out0:=[(1,(kO eP m)),(20,(kR (j1 (1:Int) P)))]) (.inr Z) ae Z rfl
theorem w117 (ax:Int) (m:List (KI×Qn)) (P:PL) (a b:Nat) (hab:a≠b) (ha:ax=0\/ax=1) (hm:KP P m) (hP:OkP P) (hd:DrOk P):qD Tryz.prog 117 [.mref a,vI ax] (qw [(a,(kO eP m))]) (.mref b) [(a,(kO eP m)),(b,kR (j1 ax P))]:=by
 rcases ha with rfl|rfl
 ·simpa [renM,DV.renL,DV.ren,MO.ren,r2_1 (show 1≠20 by decide) hab,r2_2] using (w117_0' m P hm hP hd).r2 1 20 a b
 simpa [renM,DV.renL,DV.ren,MO.ren,r2_1 (show 1≠20 by decide) hab,r2_2] using (w117_1' m P hm hP hd).r2 1 20 a b
end Go.Lens.Tb
end
section
namespace Go.Lens
variable [Lz]
section
variable {P:Program} {f:FuncId} {ds:List DV} {val:DV} {out out':List (Nat×MO)}
def WkL:List (Nat×MO)->List (Nat×MO)->Prop
 | [],[]=>True
 | p::l,q::l'=>(p.1=q.1/\p.2.refs=q.2.refs/\∀ G w,qY G w p.1 p.2->qY G w p.1 q.2)/\WkL l l'
 | _,_=>False
theorem WkL.keys:∀ {l l':List (Nat×MO)},WkL l l'->l.map (·.1)=l'.map (·.1)
 | [],[],_=>rfl
 | p::l,q::l',h=>by rw[zA,zA,h.1.1,WkL.keys h.2]
theorem WkL.mem:∀ {l l':List (Nat×MO)},WkL l l'->∀ {k o},(k,o)∈l'->∃ o0,(k,o0)∈l/\o0.refs=o.refs/\∀ G w,qY G w k o0->qY G w k o
 | [],[],_,_,_,hk=>by cases hk
 | [],q::l',h,_,_,_=>False.elim h
 | p::l,q::l',h,k,o,hk=>by
  rcases zG.1 hk with e|hk
  ·obtain⟨⟨a,b,c⟩,_⟩:=h
   obtain⟨p1,p2⟩:=p
   simp only at a b c
   subst e
   simp only at a b c
   subst a
   exact⟨p2,ql,b,c⟩
  obtain⟨o0,h1,h2⟩:=WkL.mem h.2 hk
  exact⟨o0,zO _ h1,h2⟩
theorem Stepped.wk {G:Gh} {w:World} {look:Nat->Option MO} {G':Gh} {w':World} {r:Value} (h:WkL out out') (S:Stepped G w look val out G' w' r):Stepped G w look val out' G' w' r:=by
 have hn:∀ k,k∈out'.map (·.1)↔k∈out.map (·.1):=fun k=>by rw[h.keys]
 refine⟨S.later,S.hval,fun k o hk=>?_,S.keeps,fun k hk=>S.old k (fun e=>hk ((hn k).2 e)),S.fresh,fun b k hk=>(S.own b k hk).imp (fun e=>(hn k).2 e) id,fun k hk=>(S.refs k hk).imp (fun e=>(hn k).2 e) id,fun k o hk j hj=>?_,S.newb,S.r0,S.r0m⟩
 ·obtain⟨o0,h1,_,h3⟩:=h.mem hk
  exact h3 _ _ (S.hms k o0 h1)
 obtain⟨o0,h1,h2,_⟩:=h.mem hk
 exact (S.refsM k o0 h1 j (by rw[h2];exact hj)).imp (fun e=>(hn j).2 e) id
theorem qD.wk {look:Nat->Option MO} (H:qD P f ds look val out) (h:WkL out out'):qD P f ds look val out':=
 ⟨H.refs,fun G w vs M hv=>(H.call G w vs M hv).mono fun _ _ ⟨G',S⟩=>⟨G',S.wk h⟩⟩
theorem wkK {k:Nat} {R R':List (PV×PV)->Prop} (h:∀ kv,R kv->R' kv) {l l':List (Nat×MO)} (hl:WkL l l'):WkL ((k,.kmap R)::l) ((k,.kmap R')::l'):=
 ⟨⟨rfl,rfl,fun G w H=>by
  simp only[qY] at H ⊢
  obtain⟨h1,es,kv,h2,h3⟩:=H
  exact⟨h1,es,kv,h kv h2,h3⟩⟩,hl⟩
theorem wkI {p:Nat×MO} {l l':List (Nat×MO)} (hl:WkL l l'):WkL (p::l) (p::l'):=⟨⟨rfl,rfl,fun _ _ H=>H⟩,hl⟩
theorem wk0:WkL [] []:=trivial
theorem qD.fam {l:List (Nat×MO)} {ι:Type} {h:Nat} {o:MO} {o':ι->MO} {p:ι->Prop} (hm:qw l h=some o) (hr0:∀ i,(o' i).refs=[]) (hr:∀ k∈DV.qP ds,∃ o,qw l k=some o)
  (ho:∀ (G:Gh) (w:World),qY G w h o->∃ i,p i/\qY G w h (o' i)) (k:∀ i,p i->qD P f ds (qw ((h,o' i)::l)) val out):qD P f ds (qw l) val out:=by
 have hd:∀ i k,(∃ o,qw l k=some o)↔∃ o,qw ((h,o' i)::l) k=some o:=by
  intro i k
  rw[qG]
  by_cases e:h=k
  ·subst e;simp[hm]
  simp[e]
 refine⟨hr,fun G w vs M hv=>?_⟩
 obtain⟨i,hp,H⟩:=ho G w (M.ms h o hm)
 have M':Zc G (qw ((h,o' i)::l)) w:=by
  refine⟨fun j u e=>?_,M.fresh,fun b j e=>(hd i j).1 (M.own b j e),fun j u x e hx=>?_,M.r0,M.r0m,M.baseLe,M.laid⟩
  ·rw[qG] at e
   split at e
   ·rename_i hj;cases e;subst hj;exact H
   exact M.ms j u e
  rw[qG] at e
  split at e
  ·cases e;rw[hr0] at hx;cases hx
  exact (hd i x).1 (M.refsM j u x e hx)
 refine ((k i hp).call G w vs M' hv).mono fun r w' ⟨G',S⟩=>⟨G',S.later,S.hval,S.hms,fun j u e=>?_,S.old,S.fresh,S.own,fun j hj=>(S.refs j hj).imp id (hd i j).2,fun a u ha j hj=>(S.refsM a u ha j hj).imp id (hd i j).2,S.newb,S.r0,S.r0m⟩
 obtain⟨u',e'⟩:=(hd i j).1 ⟨u,e⟩
 exact S.keeps j u' e'
theorem qD.famK {l:List (Nat×MO)} {h:Nat} {R:List (PV×PV)->Prop} (hm:qw l h=some (.kmap R)) (hr:∀ k∈DV.qP ds,∃ o,qw l k=some o)
  (k:∀ kv,R kv->qD P f ds (qw ((h,.kmap (fun x=>x=kv))::l)) val out):qD P f ds (qw l) val out:=
 qD.fam (o':=fun kv=>.kmap (fun x=>x=kv)) hm (fun _=>rfl) hr (fun G w H=>by
  simp only[qY] at H ⊢
  obtain⟨h1,es,kv,h2,h3⟩:=H
  exact⟨kv,h2,h1,es,kv,rfl,h3⟩) k
theorem qD.lk {l l':Nat->Option MO} (e:∀ h,l h=l' h) (H:qD P f ds l val out):qD P f ds l' val out:=by
 have:l=l':=funext e
 rw[<-this];exact H
end
section
variable [Fc] {P:Program} {Y:Tab} [qM P Y] {nb n:Nat} {Q:Exit->St->Prop} {K:List Fr} {ops:Array Oper} {B:List Oper}
theorem textRa (r:Option Nat) {l2:List Nat}:∀ {os:List Oper} {l:List Nat} {s:St} {es:List Ef},efsR P Y nb ops os s es->l.map (fun i=>ops[i]?)=os.map some->os.all (fun o=>dstOk n o.dst)=true->
  ∀ {G:Gh} {a:Act} {w:World} {Q:Exit->Act->World->Prop},Inv G s.vw a w->a.tmps.size=n->
  (∀ G' a' w',Inv G' (es.foldl stp s).vw a' w'->Since nb (qw s.ms) G w (qw (es.foldl stp s).ms) G' w'->a'.tmps.size=n->a'.defers=a.defers->wpOpsIn (fcR r) 0 P ops Q l2 a' w')->wpOpsIn (fcR r) 0 P ops Q (l++l2) a w
 | [],l,s,es,h,hl,_,G,a,w,Q,I,hn,hK=>by
  have:l=[]:=by cases l with|nil=>rfl|cons i l=>simp at hl
  subst this
  simp only[efsR] at h
  subst h
  exact hK G a w I (Since.refl _ _ _ _) hn rfl
 | o::os,l,s,es,h,hl,hda,G,a,w,Q,I,hn,hK=>by
  obtain⟨e,es',rfl,he,hes⟩:=h
  cases l with
  | nil=>simp at hl
  | cons i l=>
  simp only[zA,List.cons.injEq] at hl
  obtain⟨hi,hl⟩:=hl
  simp only[List.all_cons,zj] at hda
  have pd:∀ v,(a.put o.dst v).defers=a.defers:=fun v=>by cases hd:o.dst<;>rfl
  simp only[zR,wpOpsIn,hi]
  have key:=EfR.sound (P:=P) (π:=s) he hda.1 (fun _ _=>rfl) (fun _ _=>rfl) I hn (Q:=Q) (next:=wpOpsIn (fcR r) 0 P ops Q (l++l2)) ?_
  ·split
   ·rename_i hw;rw[if_pos hw] at key;exact key r
   rename_i hw;rw[if_neg hw] at key;exact⟨fun _ _=>trivial,key⟩
  intro G1 r w1 I1 Sn1
  rw[<-he.dst] at I1 Sn1
  refine textRa _ hes hl hda.2 (G:=G1) aV aU ?_
  intro G2 a2 w2 I2 Sn2 hn2 hd2
  exact hK G2 a2 w2 I2 (Sn1.trans Sn2) hn2 (hd2.trans (pd r))
def Cut (P:Program) (Y:Tab) (nb n:Nat) (Q:Exit->St->Prop) (K:List Fr) (ops:Array Oper) (B:List Oper) (h:Nat) (s:St):Prop:=
 ∃ R,qw s.ms h=some (.kmap R)/\∀ kv,R kv->RG P Y nb ops false B ⟨s.tm,(h,.kmap (fun x=>x=kv))::s.ms⟩ [] (PK P n nb Q K .normal)
theorem Cut.mk {h:Nat} {tm:List (Nat×DV)} {ms:List (Nat×MO)} {R:List (PV×PV)->Prop} (e:qw ms h=some (.kmap R)) (k:∀ kv,R kv->RG P Y nb ops false B ⟨tm,(h,.kmap (fun x=>x=kv))::ms⟩ [] (PK P n nb Q K .normal)):Cut P Y nb n Q K ops B h ⟨tm,ms⟩:=
 ⟨R,e,k⟩
theorem TK.cutK {id:Nat} {tm:List (Nat×DV)} {ms:List (Nat×MO)} (i h:Nat) (hda:jA n (.region id ops false)=true)
  (hA:RG P Y nb ops false (ops.toList.take i) ⟨tm,ms⟩ [] (PK P n nb Q (.lp (Cut P Y nb n Q K ops (ops.toList.drop i) h)::K) .normal)):TK P n nb Q (.region id ops false) K ⟨tm,ms⟩:=by
 obtain⟨es,hes,_,hq⟩:=hA
 obtain⟨R,hm,k⟩:Cut P Y nb n Q K ops (ops.toList.drop i) h (es.foldl stp ⟨tm,ms⟩):=by
  have:=hq
  simpa only[PK] using this
 intro G a w R0 I hn hK
 simp only[jA,zj] at hda
 have hsp:ops.toList.map some=(ops.toList.take i).map some++(ops.toList.drop i).map some:=by rw[<-qc,List.take_append_drop]
 have hidx:(List.range ops.size).map (fun i=>ops[i]?)=ops.toList.map some:=by
  apply List.ext_getElem?
  intro j
  simp only[qe]
  by_cases hj:j<ops.size
  ·simp[hj]
  simp[hj]
 obtain⟨l1,l2,hl,hl1,hl2⟩:∃ l1 l2,List.range ops.size=l1++l2/\l1.map (fun i=>ops[i]?)=(ops.toList.take i).map some/\l2.map (fun i=>ops[i]?)=(ops.toList.drop i).map some:=
  ⟨(List.range ops.size).take i,(List.range ops.size).drop i,(List.take_append_drop _ _).symm,by rw[List.map_take,hidx,List.map_take],by rw[List.map_drop,hidx,List.map_drop]⟩
 have hds:=hda.1
 rw[<-List.take_append_drop i ops.toList,List.all_append,zj] at hds
 refine wpIn_region ?_
 rw[hl]
 refine textRa (P:=P) _ hes hl1 hds.1 I hn ?_
 intro G1 a1 w1 I1 Sn1 hn1 hd1
 obtain⟨kv,hkv,H⟩:∃ kv,R kv/\qY G1 w1 h (.kmap (fun x=>x=kv)):=by
  have:=I1.ms h _ hm
  simp only[qY] at this ⊢
  obtain⟨h1,es,kv,h2,h3⟩:=this
  exact⟨kv,h2,h1,es,kv,rfl,h3⟩
 obtain⟨es2,hes2,_,hq2⟩:=k kv hkv
 generalize es.foldl stp ⟨tm,ms⟩=s1 at*
 obtain⟨tm1,ms1⟩:=s1
 have S:=q7 (m:=.kmap (fun x=>x=kv)) (val:=.dead) (r:=undef) I1.ctxS (B:=G1.ρ h) hm bc (w':=w1) Z Z Z Z (fun _ _=>rfl) aD bW ak am
 rw[Gh.qU] at S
 obtain⟨I2,Sn2⟩:=I1.eff (s:=⟨tm1,ms1⟩) (K:=nb) S none ao
 refine textR (P:=P) _ hes2 hl2 hds.2 (G:=G1) I2 hn1 ?_
 intro G' a' w' I' Sn' hn' hd'
 exact hK _ _ _ _ _ hq2 I' ((Sn1.trans Sn2).trans Sn') hn' (Mks.of (hd'.trans hd1))
end
end Go.Lens
end
section
namespace Go.Lens.Tb
open Go.Proofs Go.Lens.Un
variable [Lz] [Dn]
set_option maxRecDepth 100000
attribute [local irreducible] TK PK T RG EfR Body CG
theorem qD.k1 {f:FuncId} {ds:List DV} {val:DV} {out:List (Nat×MO)} {x:Nat} {P:PL} (hr:∀ k∈DV.qP ds,k=x) (H:∀ m,KP P m->qD Tryz.prog f ds (qw [(x,kO eP m)]) val out):qD Tryz.prog f ds (qw [(x,kR P)]) val out:=by
 refine qD.famK (h:=x) (by simp[qG];rfl) (fun k hk=>⟨kR P,by rw[hr k hk];simp[qG]⟩) ?_
 rintro kv ⟨m,hm,rfl⟩
 refine (H m hm).lk fun h=>?_
 by_cases e:x=h<;>simp[qG,e]
theorem qD.k2 {f:FuncId} {ds:List DV} {val:DV} {out:List (Nat×MO)} {x y:Nat} {P R:PL} (hxy:x≠y) (hr:∀ k∈DV.qP ds,k=x\/k=y) (H:∀ m o,KP P m->KP R o->qD Tryz.prog f ds (qw [(x,kO eP m),(y,kO eP o)]) val out):qD Tryz.prog f ds (qw [(x,kR P),(y,kR R)]) val out:=by
 have hl:∀ k,(k=x\/k=y)->∃ o,qw [(x,kR P),(y,kR R)] k=some o:=by
  rintro k (rfl|rfl)
  ·exact⟨kR P,by simp[qG]⟩
  exact⟨kR R,by simp[qG,hxy]⟩
 refine qD.famK (h:=x) (by simp[qG];rfl) (fun k hk=>hl k (hr k hk)) ?_
 rintro kv ⟨m,hm,rfl⟩
 refine qD.famK (h:=y) (by simp[qG,hxy];rfl) (fun k hk=>?_) ?_
 ·obtain⟨o,ho⟩:=hl k (hr k hk)
  by_cases e:x=k
  ·exact⟨_,by rw[qG,if_pos e]⟩
  exact⟨o,by rw[qG,if_neg e];exact ho⟩
 rintro kv ⟨o,ho,rfl⟩
 refine (H m o hm ho).lk fun h=>?_
 by_cases e:x=h
 ·subst e;simp[qG,hxy,Ne.symm hxy]
 by_cases e2:y=h<;>simp[qG,e,e2]
theorem w114a (f:List Trm) (a:Nat) (hl:List.length f<=1000000) (hc:qQ f=0):qD Tryz.prog 114 [vL eY f] (qw []) (.mref a) [(a,kO eP (sumM f))]:=by
 simpa [renM,DV.renL,DV.ren,MO.ren,r1_1] using (w114' f hl fun t ht=>(po_t hc ht).1).r1 7 a
theorem w114k (f:List Trm) (a:Nat) (hl:List.length f<=1000000) (hc:qQ f=0):qD Tryz.prog 114 [vL eY f] (qw []) (.mref a) [(a,kR (plF f))]:=
 (w114a f a hl hc).wk (wkK (fun _ h=>⟨_,kp_sum hc,h⟩) wk0)
theorem w104k (hp:qX) (P:PL) (a:Nat) (hP:OkP P):qD Tryz.prog 104 [.mref a] (qw [(a,kR P)]) (.tup [vL eY (polT P),vI (polE P)]) [(a,kR P)]:=
 qD.k1 c6 fun m hm=>(w104 hp m P a hm hP).wk (wkK (fun _ h=>⟨_,hm,h⟩) wk0)
theorem w117k (ax:Int) (P:PL) (a b:Nat) (hab:a≠b) (ha:ax=0\/ax=1) (hP:OkP P) (hd:DrOk P):qD Tryz.prog 117 [.mref a,vI ax] (qw [(a,kR P)]) (.mref b) [(a,kR P),(b,kR (j1 ax P))]:=
 qD.k1 c6 fun m hm=>(w117 ax m P a b hab ha hm hP hd).wk (wkK (fun _ h=>⟨_,hm,h⟩) (wkI wk0))
theorem w102k (P R:PL) (b:Qn) (x y z:Nat) (hxy:x≠y) (hxz:x≠z) (hyz:y≠z) (hz:PlZ P R (Qn.q b)):qD Tryz.prog 102 [.mref x,.mref y,.pv (eP b)] (qw [(x,kR P),(y,kR R)]) (.mref z) [(y,kR R),(x,kR P),(z,kR (P++scl (Qn.q b) R))]:=
 qD.k2 hxy c6 fun m o hm ho=>(w102 m o P R b x y z hxy hxz hyz hm ho hz).wk (wkK (fun _ h=>⟨_,ho,h⟩) (wkK (fun _ h=>⟨_,hm,h⟩) (wkI wk0)))
theorem w101k (P R:PL) (x y z:Nat) (hxy:x≠y) (hxz:x≠z) (hyz:y≠z) (hP:KB P) (hR:KB R) (hz:TiZ P R):qD Tryz.prog 101 [.mref x,.mref y] (qw [(x,kR P),(y,kR R)]) (.mref z) [(y,kR R),(x,kR P),(z,kR (qO P R))]:=
 qD.k2 hxy c6 fun m o hm ho=>(w101 m o P R x y z hxy hxz hyz hm ho hP hR hz).wk (wkK (fun _ h=>⟨_,ho,h⟩) (wkK (fun _ h=>⟨_,hm,h⟩) (wkI wk0)))
def erL {α:Type} (e:Int) (l:List α):List α:=if e≠0 then [] else l
def erE (e d:Int):Int:=if e≠0 then e else d
section
variable {α:Type} {e d:Int} {l:List α} {f g:List Trm} {x y:List UInt8}
theorem er_1 (h:e≠0):[]=erL e l:=by unfold erL;rw[if_pos h]
theorem er_2 (h:e≠0):e=erE e d:=by unfold erE;rw[if_pos h]
theorem er_3 (h:¬e≠0):l=erL e l:=by unfold erL;rw[if_neg h]
theorem er_4 (h:¬e≠0):d=erE e d:=by unfold erE;rw[if_neg h]
theorem va_0 (h:¬qB [qQ f,jg x,jg y]≠0):qQ f=0/\jg x=0/\jg y=0:=by
 have:=zi.1 h
 rw[kL,kL,kL] at this
 exact⟨this.1,this.2.1,this.2.2.1⟩
theorem va_f (h:¬qB [qQ f,jg x,jg y]≠0):qQ f=0:=(va_0 h).1
theorem va_x (h:¬qB [qQ f,jg x,jg y]≠0):jg x=0:=(va_0 h).2.1
theorem va_y (h:¬qB [qQ f,jg x,jg y]≠0):jg y=0:=(va_0 h).2.2
theorem va_k (h:¬qB [qQ f,jg x,jg y]≠0):KP (plF f) (sumM f):=kp_sum (va_f h)
theorem va_q (h:¬qB [qQ f,jg x,jg y]≠0) (hz:qQ f=0->OkP (plF f)/\EvOk (plF f) (qJ x) (qJ y)):(valM (sumM f) (plF f) (qJ x) (qJ y)).q=evP (plF f) (qJ x).q (qJ y).q:=valM_q (va_k h) (hz (va_f h)).1
theorem va_3 (h:¬qB [qQ f,jg x,jg y]≠0) (hz:qQ f=0->OkP (plF f)/\EvOk (plF f) (qJ x) (qJ y)):resT (valM (sumM f) (plF f) (qJ x) (qJ y)).q=erL (qB [qQ f,jg x,jg y]) (resT (evP (plF f) (qJ x).q (qJ y).q)):=by rw[va_q h hz];exact er_3 h
theorem va_4 (h:¬qB [qQ f,jg x,jg y]≠0) (hz:qQ f=0->OkP (plF f)/\EvOk (plF f) (qJ x) (qJ y)):resE (valM (sumM f) (plF f) (qJ x) (qJ y)).q=erE (qB [qQ f,jg x,jg y]) (resE (evP (plF f) (qJ x).q (qJ y).q)):=by rw[va_q h hz];exact er_4 h
theorem va_z (h:¬qB [qQ f,jg x,jg y]≠0) (hz:qQ f=0->OkP (plF f)/\EvOk (plF f) (qJ x) (qJ y)):sz (valM (sumM f) (plF f) (qJ x) (qJ y)).q<=62:=valM_s (va_k h) (hz (va_f h)).2
theorem ch_0 (h:¬jy f g≠0):qQ f=0/\qQ g=0:=by
 have:=zi.1 h
 unfold jy at this
 rw[kL,kL] at this
 exact⟨this.1,this.2.1⟩
theorem ch_f (h:¬jy f g≠0):qQ f=0:=(ch_0 h).1
theorem ch_g (h:¬jy f g≠0):qQ g=0:=(ch_0 h).2
theorem mu_k (h:¬jy f g≠0):KB (plF f)/\KB (plF g):=⟨fun k hk=>by have:=kb_f (ch_f h) k hk;omega,fun k hk=>by have:=kb_f (ch_g h) k hk;omega⟩
end
theorem w22 (hp:qX) (f:List Trm) (x y:List UInt8) (hlf:List.length f<=1000000) (hsf:∀ t∈f,List.length (Trm.c t)<=18) (hx:List.length x<=18) (hy:List.length y<=18) (hz:qQ f=0->OkP (plF f)/\EvOk (plF f) (qJ x) (qJ y)):CKa 22 [vL eY f,.pv (.agg [pS (bsO x),pS (bsO y)])] (.tup [vS (bsO (erL (qB [qQ f,jg x,jg y]) (resT (evP (plF f) (Qn.q (qJ x)) (Qn.q (qJ y)))))),vI (erE (qB [qQ f,jg x,jg y]) (resE (evP (plF f) (Qn.q (qJ x)) (Qn.q (qJ y)))))]):=by
 refine cL 10 [] qf22 Z (nB Z) Z Z (kc (C Z (w81 f hlf hsf) Z Z Z (C Z (w112 x hx) Z Z Z (C Z (w112 y hy) Z Z Z (E Z (B.ja (val:=.pv (.slice (List.map eI [(qQ f),(jg x),(jg y)]))) (val0:=.aref 25 0) (m0:=[(25,.arr 0 1 24 [[pI (qQ f)],[pI (jg x)],[pI (jg y)]])]) (rd:=[]) ae (fun l=>Frz.arr l _ _ _ _ _) Z) (C Z (w98 [(qQ f),(jg x),(jg y)] (nB Z)) Z Z Z (Dr Z ae (Cp Z Z (fun h1=>?_) (fun h1=>?_)))))))))
 ·refine Rt Z ?_
  exact q5 (val0:=.tup [vS (bsO []),vI (qB [(qQ f),(jg x),(jg y)])]) (out0:=[]) (.inr Z) ae c7 rfl
 refine E Z (B.q6 (l:=[]) (w114a f 31 hlf (va_f ab)) Z Z trivial Z Z) (C Z (w116 x (va_x ab)) Z Z Z (C Z (w116 y (va_y ab)) Z Z Z (E Z (B.run (val:=.pv (.agg [pI (Qn.n (qJ x)),.lit (.slice none 0 0),pI (Qn.d (qJ x)),.lit (.slice none 0 0),pI (Qn.n (qJ y)),.lit (.slice none 0 0),pI (Qn.d (qJ y)),.lit (.slice none 0 0)])) (m:=[]) (rd:=[]) ae) (E Z (B.q6 (l:=[(31,(kO eP (sumM f)))]) (w115 (sumM f) (plF f) (qJ x) (qJ y) 31 (va_k ab) (hz (va_f ab)).1 (hz (va_f ab)).2) Z Z ⟨rfl,trivial⟩ rfl rfl) (C Z (w113 hp (valM (sumM f) (plF f) (qJ x) (qJ y)) (va_z ab hz)) Z Z Z (Dr Z ae ?_))))))
 refine Rt Z ?_
 exact q5 (val0:=.tup [vS (bsO (resT (Qn.q (valM (sumM f) (plF f) (qJ x) (qJ y))))),vI (resE (Qn.q (valM (sumM f) (plF f) (qJ x) (qJ y))))]) (out0:=[]) (.inr Z) ae c7 rfl
def axB (s:List UInt8):Bool:=decide (s=[120])||decide (s=[121])
def axI (s:List UInt8):Int:=if s=[121] then 1 else 0
theorem axI_c (s:List UInt8):axI s=0\/axI s=1:=by unfold axI;split<;>simp
theorem B.lookAx (x:List UInt8) {P:Program} {Y:Tab} [qM P Y] {nb:Nat} {s:St} {dst:Option Tmp} {ty t:TypeId} {pos:String} {af:Array Edge} {gd:Option (Nat×Bool)} {m k:Operand} {h:Nat} {a b:ByteArray} {kt et:TypeId} {kd:TypeDesc} (hx:ev1 s m=.mref h) (hm:qw s.ms h=some (.map [.lit (.string a),.lit (.string b)] [.lit (.int .i64 0),.lit (.int .i64 1)])) (hy:ev1 s k=vS (bsO x))
  (und:Y.underlying t=some (.map kt et)) (uk:Y.underlying kt=some kd) (hz:(Y.info? et).bind (fun i=>i.zero.bind valPV)=some (.lit (.int .i64 0))) (hpk:plainKey kd (.lit (.string (bsO x)))=true) (hks:(plainKeys kd [.lit (.string a),.lit (.string b)]&&2==2)=true) (ha:a=bsO [120]) (hb:b=bsO [121]) :
  Body P Y nb s ⟨dst,.lookup t m k true,ty,pos,af,gd⟩ (.tup [vI (axI x),vB (axB x)]) [] [h]:=by
 subst ha hb
 have hf:kH (.lit (.string (bsO x))) [.lit (.string (bsO [120])),.lit (.string (bsO [121]))] [.lit (.int .i64 0),.lit (.int .i64 1)]=if x=[120] then some (.lit (.int .i64 0)) else if x=[121] then some (.lit (.int .i64 1)) else none:=by
  simp only[kH,bsO_toList,beq_iff_eq]
 have key:=B.lookK (P:=P) (nb:=nb) (dst:=dst) (ty:=ty) (pos:=pos) (af:=af) (gd:=gd) (z:=.lit (.int .i64 0)) hx hm (key:=.lit (.string (bsO x))) hy und uk hz hpk hks hf
 have e1:((if x=[120] then some (PV.lit (.int .i64 0)) else if x=[121] then some (.lit (.int .i64 1)) else none:Option PV).getD (.lit (.int .i64 0)))=.lit (.int .i64 (axI x)):=by
  unfold axI
  by_cases h1:x=[120]
  ·subst h1;simp
  by_cases h2:x=[121]<;>simp[h1,h2]
 have e2:(if x=[120] then some (PV.lit (.int .i64 0)) else if x=[121] then some (.lit (.int .i64 1)) else none:Option PV).isSome=axB x:=by
  unfold axB
  by_cases h1:x=[120]<;>by_cases h2:x=[121]<;>simp[h1,h2]
 rw[e1,e2] at key
 exact key
section
variable {f g:List Trm} {s:List UInt8} {n:Array Nat} {q:List (KI×Qn)} {i:Nat} {k:KI} {v t:Qn} {P:PL} {ax:Int}
theorem de_f (h:¬qB [qQ f,qR (!(axB s)) 13]≠0):qQ f=0:=by
 have:=zi.1 h
 rw[kL] at this
 exact this.1
theorem der_len (P:PL):(j1 ax P).length<=P.length:=by
 induction P with
 | nil=>exact zC _
 | cons a A ih=>
  show (derT ax a++j1 ax A).length<=_
  rw[za,zb]
  have:(derT ax a).length<=1:=by unfold derT;split<;>simp
  omega
theorem de_ok (h:¬qB [qQ f,qR (!(axB s)) 13]≠0) (hz:qQ f=0->OkP (plF f)/\DrOk (plF f)):OkP (j1 ax (plF f)):=by
 obtain⟨hP,hd⟩:=hz (de_f h)
 refine⟨fun k hk=>?_,qh (der_len _) hP.len,?_⟩
 ·simp only[j1,zF,List.mem_flatMap] at hk
  obtain⟨p,⟨a,ha,hp⟩,rfl⟩:=hk
  unfold derT at hp
  split at hp
  ·rename_i h0
   rw[zg] at hp;subst hp
   have:=hP.k32 a.1 (zF.2 ⟨a,ha,rfl⟩)
   unfold kax at h0
   unfold kdec
   split<;>simp_all<;>omega
  cases hp
 obtain⟨B,h,hB⟩:=hd.b
 refine (h.der fun p hp=>?_).le hB
 have:=hP.k32 p.1 (zF.2 ⟨p,hp,rfl⟩)
 unfold kax;split<;>omega
def TuI (m:List (KI×Qn)) (n:Array Nat) (q:List (KI×Qn)):Prop:=VI m n/\KP (turP (plM (visL m n))) q
theorem tur_app (A B:PL):turP (A++B)=turP A++turP B:=qc
theorem tu_0 {m:List (KI×Qn)}:TuI m #[] []:=⟨VI.nil _,KP.nil⟩
theorem tu_s {m:List (KI×Qn)} (hI:TuI m n q) (hk:m[i]? =some (k,v)) (hi:i∉n) (h:k.2%2=1):TuI m (n.push i) (addK (k.2,k.1) (Qn.neg v) q):=by
 refine⟨hI.1.push hk hi,?_⟩
 rw[j4 hk,plM_app,tur_app]
 have:=hI.2.add (k.2,k.1) (Qn.neg v)
 rw[Qn.neg_q] at this
 simpa [turP,turT,plM,h] using this
theorem tu_t {m:List (KI×Qn)} (hI:TuI m n q) (hk:m[i]? =some (k,v)) (hi:i∉n) (h:¬k.2%2=1):TuI m (n.push i) (addK (k.2,k.1) v q):=by
 refine⟨hI.1.push hk hi,?_⟩
 rw[j4 hk,plM_app,tur_app]
 have:=hI.2.add (k.2,k.1) v
 simpa [turP,turT,plM,h] using this
theorem tu_b (h:¬qQ f≠0) (hk:(sumM f)[i]? =some (k,v)):0<=k.1/\0<=k.2/\k.1+k.2<=16:=
 kb_f (zi.1 h) k ((kp_sum (zi.1 h)).mem k (zF.2 ⟨_,List.mem_of_getElem? hk,rfl⟩))
theorem tu_n (h:¬qQ f≠0) (hz:qQ f=0->OkP (plF f)/\DrOk (plF f)) (hk:(sumM f)[i]? =some (k,v)):sz v.q<=30:=by
 rw[(kp_sum (zi.1 h)).val (List.mem_of_getElem? hk)]
 exact (hz (zi.1 h)).1.sz.sz (zC _) k
theorem tu_n2 (h:¬qQ f≠0) (hz:qQ f=0->OkP (plF f)/\DrOk (plF f)) (hk:(sumM f)[i]? =some (k,v)):sz v.q<=62:=qh (tu_n h hz hk) ah
theorem tu_a (h:¬qQ f≠0) (hz:qQ f=0->OkP (plF f)/\DrOk (plF f)) (hI:TuI (sumM f) n q) (hk:(sumM f)[i]? =some (k,v)) {K:KI} {c:Qn} (hc:sz c.q<=sz v.q:=by first|exact zC _|(rw[Qn.neg_q,sz_neg];exact zC _)):∀ x,kj K q=some x->sz x.q+sz c.q<=62:=by
 intro x hx
 have h1:=tu_n h hz hk
 have h2:=((hz (zi.1 h)).1.sz.vis (kp_sum (zi.1 h)) hI.1).tur.sz (zC _) K
 rw[<-hI.2.val (jY hx)] at h2
 omega
theorem tu_e (h:¬qQ f≠0) (hI:TuI (sumM f) n q) (ha:∀ i,i<(sumM f).length->i∈n):KP (turP (plF f)) q:=by
 have hm:=kp_sum (zi.1 h)
 have hp:=plM_perm (hI.1.all ha)
 refine hI.2.congr (Eqv.tur ((Eqv.perm hp).trans hm.eqv)) fun k hk=>?_
 have hkeys:∀ (A:PL) (k:KI),k∈(turP A).map (·.1)↔∃ a∈A.map (·.1),k=(a.2,a.1):=by
  intro A k
  simp only[turP,List.map_map,zF,Function.comp,turT]
  constructor
  ·rintro⟨a,ha,rfl⟩;exact⟨_,⟨a,ha,rfl⟩,rfl⟩
  rintro⟨_,⟨a,ha,rfl⟩,rfl⟩;exact⟨a,ha,rfl⟩
 rw[hkeys] at hk ⊢
 obtain⟨a,h1,h2⟩:=hk
 exact⟨a,hm.keysP a ((hp.map (·.1)).mem_iff.1 h1),h2⟩
theorem tu_ok (h:¬qQ f≠0) (hz:qQ f=0->OkP (plF f)/\DrOk (plF f)):OkP (turP (plF f)):=by
 have hP:=(hz (zi.1 h)).1
 refine⟨fun k hk=>?_,by simpa [turP] using hP.len,hP.sz.tur⟩
 simp only[turP,List.map_map,zF,Function.comp,turT] at hk
 obtain⟨a,ha,rfl⟩:=hk
 have:=hP.k32 a.1 (zF.2 ⟨a,ha,rfl⟩)
 simp only;omega
end
theorem un178:tab.underlying 178=some (.map 9 3):=ae
theorem w24 (hp:qX) (f:List Trm) (s:List UInt8) (hlf:List.length f<=1000000) (hsf:∀ t∈f,List.length (Trm.c t)<=18) (hz:qQ f=0->OkP (plF f)/\DrOk (plF f)):CKa 24 [vL eY f,vS (bsO s)] (.tup [vL eY (erL (qB [qQ f,qR (!(axB s)) 13]) (polT (j1 (axI s) (plF f)))),vI (erE (qB [qQ f,qR (!(axB s)) 13]) (polE (j1 (axI s) (plF f))))]):=by
 refine cL 10 [] qf24 Z (nB Z) Z Z (kc (E Z (B.kg (enc:=eY) Z) (E Z (B.run Z) (E Z (B.run (val:=.dead) (m:=[(20,.map [.lit (.string (bsO [120]))] [.lit (.int .i64 0)])]) (rd:=[20]) ae) (E Z (B.run (val:=.dead) (m:=[(20,.map [.lit (.string (bsO [120])),.lit (.string (bsO [121]))] [.lit (.int .i64 0),.lit (.int .i64 1)])]) (rd:=[20]) ae) (E Z (B.lookAx s Z Z Z un178 un9 ae ae ae ae ae) (C Z (w81 f hlf hsf) Z Z Z (C Z (w99 (!(axB s)) 13) Z Z Z (E Z (B.ja (val:=.pv (.slice (List.map eI [(qQ f),(qR (!(axB s)) 13)]))) (val0:=.aref 31 0) (m0:=[(31,.arr 0 1 24 [[pI (qQ f)],[pI (qR (!(axB s)) 13)]])]) (rd:=[]) ae (fun l=>Frz.arr l _ _ _ _ _) Z) (C Z (w98 [(qQ f),(qR (!(axB s)) 13)] (nB Z)) Z Z Z (Cp Z Z (fun h1=>?_) (fun h1=>?_))))))))))))
 ·refine E Z (B.kg (enc:=eY) Z) ?_
  refine Rt Z ?_
  exact q5 (val0:=.tup [vL eY [],vI (qB [(qQ f),(qR (!(axB s)) 13)])]) (out0:=[]) (.inr Z) ae c8 rfl
 refine E Z (B.q6 (l:=[]) (w114k f 37 hlf (de_f ab)) Z Z trivial Z Z) (E Z (B.q6 (l:=[(37,(kR (plF f)))]) (w117k (axI s) (plF f) 37 39 ah (axI_c s) (hz (de_f ab)).1 (hz (de_f ab)).2) Z Z ⟨rfl,trivial⟩ rfl rfl) (E Z (B.q6 (l:=[(39,(kR (j1 (axI s) (plF f))))]) (w104k hp (j1 (axI s) (plF f)) 39 (de_ok ab hz)) Z Z ⟨rfl,trivial⟩ rfl rfl) ?_))
 refine Rt Z ?_
 exact q5 (val0:=.tup [vL eY (polT (j1 (axI s) (plF f))),vI (polE (j1 (axI s) (plF f)))]) (out0:=[]) (.inr Z) ae c8 rfl
theorem w25 (hp:qX) (f:List Trm) (hlf:List.length f<=1000000) (hsf:∀ t∈f,List.length (Trm.c t)<=18) (hz:qQ f=0->OkP (plF f)/\DrOk (plF f)):CKa 25 [vL eY f] (.tup [vL eY (erL (qQ f) (polT (turP (plF f)))),vI (erE (qQ f) (polE (turP (plF f))))]):=by
 refine cL 10 [] qf25 Z (nB Z) Z Z (kc (E Z (B.kg (enc:=eY) Z) (C Z (w81 f hlf hsf) Z Z Z (Cp Z Z (fun h1=>?_) (fun h1=>?_)))))
 ·refine E Z (B.kg (enc:=eY) Z) ?_
  refine Rt Z ?_
  exact q5 (val0:=.tup [vL eY [],vI (qQ f)]) (out0:=[]) (.inr Z) ae c8 rfl
 refine E Z (B.newK (enc:=eP) Z Z) (E Z (B.q6 (l:=[]) (w114a f 25 hlf (zi.1 ab)) Z Z trivial Z Z) (E Z (B.rangeK (enc:=eP) (l:=(sumM f)) kty Z Z Z Z) (l2 (fun (n:Array Nat) (q:List (KI×Qn))=>[(5,.mref 23),(16,.bref 26 0)]) (fun n q=>[(23,(kO eP q)),(25,(kO eP (sumM f))),(26,.miter 25 (List.length (sumM f)) n)]) (fun n q=>TuI (sumM f) n q) (fun n _=>List.length (sumM f)-Array.size n) (#[]) [] Z ?_ (sb Z Z Z) ?_)))
 · exact tu_0
 intro n q hI0
 refine tk 6 Z ?_
 refine TK.nextK (Y:=tab) (enc:=eP) (l:=(sumM f)) Z Z Z Z Z (fun i1 k1 v1 hk1 hi1=>?_) (fun hall1=>?_)
 ·refine rc (CT Z Z (E Z (B.entryK (enc:=eP) (l:=(sumM f)) Z Z Z hk1) (E Z (B.ja Z (fun l=>Frz.jU l Z) Z) (E Z (B.run Z) (E Z (B.remN Z Z (by have hb:=tu_b ab hk1;omega) ah) (Cp Z Z (fun h2=>?_) (fun h2=>?_)))))))
  ·refine C Z (w118 v1 (tu_n2 ab hz hk1)) Z Z Z (E Z (B.run Z) (E Z (B.run Z) (E Z (B.run (val:=.pv (.agg [pI (Prod.snd k1),pI (Prod.fst k1)])) (m:=[]) (rd:=[]) ae) (E Z (B.q6 (l:=[(23,(kO eP q))]) (w119 q ((Prod.snd k1),(Prod.fst k1)) (Qn.neg v1) 23 (tu_a ab hz hI0 hk1)) Z Z ⟨rfl,trivial⟩ rfl rfl) (pk Z (L2 (Array.push n i1) (addK ((Prod.snd k1),(Prod.fst k1)) (Qn.neg v1) q) ?_ ?_ (sb Z Z Z)))))))
   · first|exact tu_s hI0 hk1 hi1 ab|exact tu_t hI0 hk1 hi1 ab
   · exact hI0.1.meas hk1 hi1
  refine E Z (B.run Z) (E Z (B.run Z) (E Z (B.run (val:=.pv (.agg [pI (Prod.snd k1),pI (Prod.fst k1)])) (m:=[]) (rd:=[]) ae) (E Z (B.q6 (l:=[(23,(kO eP q))]) (w119 q ((Prod.snd k1),(Prod.fst k1)) v1 23 (tu_a ab hz hI0 hk1)) Z Z ⟨rfl,trivial⟩ rfl rfl) (pk Z (L2 (Array.push n i1) (addK ((Prod.snd k1),(Prod.fst k1)) v1 q) ?_ ?_ (sb Z Z Z))))))
  · first|exact tu_s hI0 hk1 hi1 ab|exact tu_t hI0 hk1 hi1 ab
  · exact hI0.1.meas hk1 hi1
 refine rc (CF Z Z ?_)
 refine tk 11 Z ?_
 refine TK.shutK (h:=23) (R':=fun kv=>∃ m,KP (turP (plF f)) m/\kv=kvO eP m) Z (fun kv e=>⟨_,tu_e ab hI0 hall1,e⟩) ?_
 refine kc (E Z (B.q6 (l:=[(23,(kR (turP (plF f))))]) (w104k hp (turP (plF f)) 23 (tu_ok ab hz)) Z Z ⟨rfl,trivial⟩ rfl rfl) ?_)
 refine Rt Z ?_
 exact q5 (val0:=.tup [vL eY (polT (turP (plF f))),vI (polE (turP (plF f)))]) (out0:=[]) (.inr Z) ae c8 rfl
def dq (k:Int):Rat:=(Zn k).q
def dF (k:KI):Rat:=if k.1%2=0/\k.2%2=0 then 2*dq (k.1-1)*dq (k.2-1) / (dq (k.1+k.2)*((k.1+k.2+2:Int):Rat)) else 0
def DiI (m:List (KI×Qn)) (n:Array Nat) (t:Qn):Prop:=VI m n/\t.q=lin dF (plM (visL m n))
def wP (D:Nat) (P:PL):PL:=P.map fun p=>(p.1,p.2*(dF p.1*(D:Rat)))
def DiOk (P R:PL):Prop:=NB P 4000/\NB R 4000/\(∀ k∈(qO P R).map (·.1),k.1+k.2<=16)/\NB (wP 10321920 (qO P R)) 274877906943
structure IZ (x:Qn) (n:Nat):Prop where
 d:x.q.den=1
 b:jk x.q.num.natAbs<=n
section
variable {x y:Qn} {a b:Nat}
theorem IZ.eq (h:IZ x a):x.q=((x.q.num:Int):Rat):=by
 have e:=q_mul x.q
 rw[h.d] at e
 rw[<-e];show _=x.q*((1:Int):Rat)
 rw[show ((1:Int):Rat)=1 from rfl,Rat.mul_one]
theorem IZ.of {z:Int} (h:x.q=(z:Rat)) (hb:jk z.natAbs<=a):IZ x a:=⟨by rw[h];rfl,by rw[h];exact hb⟩
theorem IZ.mul (hx:IZ x a) (hy:IZ y b):IZ (Qn.mul x y) (a+b):=by
 refine IZ.of (z:=x.q.num*y.q.num) ?_ (qh f_b (Nat.add_le_add hx.b hy.b))
 rw[Qn.j6,Rat.intCast_mul,<-hx.eq,<-hy.eq]
theorem IZ.bd (hx:IZ x a):jk x.d.natAbs=1:=by
 have:x.d=1:=by unfold Qn.d;rw[hx.d];rfl
 rw[this];rfl
theorem IZ.mu (hx:IZ x a) (hy:IZ y b) (h:a+b<=63):MuK x y:=⟨qh (Nat.add_le_add hx.b hy.b) h,by rw[hx.bd,hy.bd];decide⟩
theorem IZ.dv (hx:IZ x a) (hy:IZ y b) (h:a<=62) (g:b<=62):DvK x y:=by
 have:=hx.b
 have:=hy.b
 have:=hx.bd
 have:=hy.bd
 constructor
 ·show jk x.q.num.natAbs+_<=63;omega
 show _+jk y.q.num.natAbs<=63;omega
theorem IZ.le (h:IZ x a) (g:a<=b):IZ x b:=⟨h.d,qh h.b g⟩
end
def dqT (i j:Nat):Bool:=decide ((Zn ((i:Int)-1)).q.den=1)&&decide ((Zn ((j:Int)-1)).q.den=1)&&decide (jk (Zn ((i:Int)-1)).q.num.natAbs+jk (Zn ((j:Int)-1)).q.num.natAbs<=24)&&decide ((Zn ((i:Int)+j)).q.den=1)&&decide (jk (Zn ((i:Int)+j)).q.num.natAbs<=24)
theorem dqT_a:((List.range 17).all fun i=>(List.range (17-i)).all fun j=>dqT i j)=true:=ae
theorem dq_k {k:KI} (h1:0<=k.1) (h2:0<=k.2) (h:k.1+k.2<=16):∃ a b,a+b<=24/\IZ (Zn (k.1-1)) a/\IZ (Zn (k.2-1)) b/\IZ (Zn (k.1+k.2)) 24:=by
 have g:=zr.1 (zr.1 dqT_a k.1.toNat (List.mem_range.2 aa)) k.2.toNat (List.mem_range.2 aa)
 unfold dqT at g
 rw[show ((k.1.toNat:Nat):Int)=k.1 by omega,show ((k.2.toNat:Nat):Int)=k.2 by omega] at g
 simp only[zj,zf] at g
 obtain⟨⟨⟨⟨g1,g2⟩,g3⟩,g4⟩,g5⟩:=g
 exact⟨_,_,g3,⟨g1,zC _⟩,⟨g2,zC _⟩,⟨g4,g5⟩⟩
theorem rz_int {k:Int} (h:k≠0):(k:Rat)≠0:=fun e=>h (by
 have e2:((k:Int):Rat)=((0:Int):Rat):=e
 exact Rat.intCast_inj.1 e2)
theorem rz_mul {a b:Rat} (ha:a≠0) (hb:b≠0):a*b≠0:=fun e=>by rcases Rat.mul_eq_zero.1 e with h|h;exact ha h;exact hb h
theorem dbF_z:∀ (n:Nat) (k:Int) (r:Qn),k<=64->r.q≠0->(dblF n k r).q≠0
 | 0,_,_,_,h=>h
 | n+1,k,r,h1,h=>by
  rw[dblF]
  split
  ·refine dbF_z n _ _ aa ?_
   rw[Qn.j6,ofI_q bj]
   exact rz_mul h (rz_int aa)
  exact h
theorem dq_z {k:Int} (h:k<=64):(Zn k).q≠0:=dbF_z 11 k _ h (by rw[Qn.ofZ_q];exact rz_int ah)
section
variable {f g:List Trm} {n:Array Nat} {m:List (KI×Qn)} {i:Nat} {k:KI} {v t:Qn} {P:PL}
theorem di_ti (h:¬jy f g≠0) (hz:jy f g=0->DiOk (plF f) (plF g)):TiZ (plF f) (plF g):=have g:=hz (zi.1 h);⟨_,_,g.1,g.2.1,ah,ah,ah⟩
theorem di_v (h:¬jy f g≠0) (hz:jy f g=0->DiOk (plF f) (plF g)) (hm:KP (qO (plF f) (plF g)) m) (hk:m[i]? =some (k,v)):k.1+k.2<=16/\IZ v 24:=by
 obtain⟨g1,g2,g3,_⟩:=hz (zi.1 h)
 refine⟨g3 k (hm.mem k (zF.2 ⟨_,List.mem_of_getElem? hk,rfl⟩)),?_⟩
 obtain⟨z,e,hl⟩:=(g1.qO g2).cf k
 rw[<-hm.val (List.mem_of_getElem? hk)] at e
 exact IZ.of e (jb aa)
theorem di_b (h:¬jy f g≠0) (hz:jy f g=0->DiOk (plF f) (plF g)) (hm:KP (qO (plF f) (plF g)) m) (hk:m[i]? =some (k,v)):0<=k.1/\0<=k.2/\k.1+k.2<=16:=by
 have hd:=(di_v h hz hm hk).1
 obtain⟨a,ha,b,hb,rfl⟩:=prods_keys.1 (hm.mem k (zF.2 ⟨_,List.mem_of_getElem? hk,rfl⟩))
 have:=kb_f (ch_f h) a ha
 have:=kb_f (ch_g h) b hb
 unfold kadd at hd ⊢;simp only at hd ⊢;omega
theorem iz_2 {h2:R64 2}:IZ (Qn.ofZ 2 h2) 2:=IZ.of (z:=2) (Qn.ofZ_q h2) ah
theorem iz_i (hk:0<=k.1/\0<=k.2/\k.1+k.2<=16):IZ (Qn.ofI (k.1+k.2+2)) 5:=IZ.of (z:=k.1+k.2+2) (ofI_q bj) (jb aa)
theorem di_m (h:¬jy f g≠0) (hz:jy f g=0->DiOk (plF f) (plF g)) (hm:KP (qO (plF f) (plF g)) m) (hk:m[i]? =some (k,v)) {h2:R64 2}:MuK v (Qn.ofZ 2 h2)/\MuK (Qn.mul v (Qn.ofZ 2 h2)) (Zn (k.1-1))/\MuK (Qn.mul (Qn.mul v (Qn.ofZ 2 h2)) (Zn (k.1-1))) (Zn (k.2-1))/\MuK (Zn (k.1+k.2)) (Qn.ofI (k.1+k.2+2)):=by
 have hb:=di_b h hz hm hk
 have hv:=(di_v h hz hm hk).2
 obtain⟨a,b,hs,ha,hb1,hc⟩:=dq_k hb.1 hb.2.1 hb.2.2
 exact⟨hv.mu iz_2 ah,(hv.mul iz_2).mu ha aa,((hv.mul iz_2).mul ha).mu hb1 aa,hc.mu (iz_i hb) ah⟩
theorem di_d (h:¬jy f g≠0) (hz:jy f g=0->DiOk (plF f) (plF g)) (hm:KP (qO (plF f) (plF g)) m) (hk:m[i]? =some (k,v)) {h2:R64 2}:DvK (Qn.mul (Qn.mul (Qn.mul v (Qn.ofZ 2 h2)) (Zn (k.1-1))) (Zn (k.2-1))) (Qn.mul (Zn (k.1+k.2)) (Qn.ofI (k.1+k.2+2))):=by
 have hb:=di_b h hz hm hk
 have hv:=(di_v h hz hm hk).2
 obtain⟨a,b,hs,ha,hb1,hc⟩:=dq_k hb.1 hb.2.1 hb.2.2
 exact (((hv.mul iz_2).mul ha).mul hb1).dv (hc.mul (iz_i hb)) aa ah
theorem di_z (h:¬jy f g≠0) (hz:jy f g=0->DiOk (plF f) (plF g)) (hm:KP (qO (plF f) (plF g)) m) (hk:m[i]? =some (k,v)):(Qn.mul (Zn (k.1+k.2)) (Qn.ofI (k.1+k.2+2))).q≠0:=by
 have h4:=di_b h hz hm hk
 rw[Qn.j6,ofI_q bj]
 exact rz_mul (dq_z aa) (rz_int aa)
theorem cf_wP (D:Nat) (k:KI):∀ P:PL,cf (wP D P) k=cf P k*(dF k*(D:Rat))
 | []=>by rw[show wP D []=[] from rfl,cf_nil,Rat.zero_mul]
 | (a,c)::P=>by
  show cf ((a,c*(dF a*(D:Rat)))::wP D P) k=_
  rw[jp,jp,cf_wP D k P,Rat.add_mul]
  congr 1
  split
  ·rename_i e;rw[e]
  rw[Rat.zero_mul]
theorem lin_wP (D:Nat):∀ P:PL,lin (fun _=>1) (wP D P)=lin dF P*(D:Rat)
 | []=>by show (0:Rat)=0*_;rw[Rat.zero_mul]
 | (a,c)::P=>by
  show c*(dF a*(D:Rat))*1+lin (fun _=>1) (wP D P)=(c*dF a+lin dF P)*(D:Rat)
  rw[lin_wP D P,Rat.mul_one,Rat.add_mul,Rat.mul_assoc]
theorem lin1_z {P:PL} {B:Nat} (h:NB P B):∃ z:Int,lin (fun _=>1) P=(z:Rat)/\z.natAbs<=B:=by
 obtain⟨Z,rfl,hZ⟩:=h
 refine⟨(Z.map (·.2)).sum,?_,qh ?_ hZ⟩
 ·clear hZ
  induction Z with
  | nil=>rfl
  | cons a Z ih=>
   show (a.2:Rat)*1+lin (fun _=>1) (Z.map cI)=(((a.2+(Z.map (·.2)).sum:Int)):Rat)
   rw[ih,Rat.mul_one,Rat.intCast_add]
 clear hZ
 induction Z with
 | nil=>exact zC _
 | cons a Z ih=>
  have e:Un.l1 (a::Z)=a.2.natAbs+Un.l1 Z:=rfl
  rw[zA,List.sum_cons,e];omega
theorem nd_zD {x:Qn} {z:Int} (h:x.q*((10321920:Nat):Rat)=(z:Rat)) (hz:z.natAbs<=274877906943):jk x.n.natAbs<=38/\jk x.d.natAbs<=24:=by
 have:=nd_of (b:=((10321920:Nat):Int)) ah h
 exact⟨qh (bl_mono this.1) (jb aa),qh (bl_mono (show x.d.natAbs<=10321920 from this.2)) ah⟩
theorem di_t (h:¬jy f g≠0) (hz:jy f g=0->DiOk (plF f) (plF g)) (hm:KP (qO (plF f) (plF g)) m) (hI:DiI m n t):jk t.n.natAbs<=38/\jk t.d.natAbs<=24:=by
 have hB:=(hz (zi.1 h)).2.2.2
 have hv:NB (wP 10321920 (plM (visL m n))) 274877906943:=by
  refine hB.subP ?_ fun p hp=>?_
  ·unfold wP plM
   rw[List.map_map,List.map_map]
   exact vis_nd hI.1 hm.nd
  unfold wP plM at hp
  rw[List.map_map] at hp
  obtain⟨a,ha,rfl⟩:=zF.1 hp
  rw[cf_wP]
  show a.2.q*(dF a.1*(_:Rat))=cf _ a.1*_
  rw[hm.val (k:=a.1) (x:=a.2) (vis_mem ha)];rfl
 obtain⟨z,e,hl⟩:=lin1_z hv
 rw[lin_wP,<-hI.2] at e
 exact nd_zD e hl
theorem di_a (h:¬jy f g≠0) (hz:jy f g=0->DiOk (plF f) (plF g)) (hm:KP (qO (plF f) (plF g)) m) (hk:m[i]? =some (k,v)) (hI:DiI m n t) (hc:(bif decide (k.1%2=0) then decide (k.2%2=0) else false)=true) {h2:R64 2}:AdK t (Qn.dv (Qn.mul (Qn.mul (Qn.mul v (Qn.ofZ 2 h2)) (Zn (k.1-1))) (Zn (k.2-1))) (Qn.mul (Zn (k.1+k.2)) (Qn.ofI (k.1+k.2+2)))):=by
 have h1:=di_t h hz hm hI
 have h4:=di_b h hz hm hk
 have hB:=(hz (zi.1 h)).2.2.2
 obtain⟨z,e,hl⟩:=hB.cf k
 rw[cf_wP,<-hm.val (List.mem_of_getElem? hk),<-Rat.mul_assoc] at e
 have ed:(Qn.dv (Qn.mul (Qn.mul (Qn.mul v (Qn.ofZ 2 h2)) (Zn (k.1-1))) (Zn (k.2-1))) (Qn.mul (Zn (k.1+k.2)) (Qn.ofI (k.1+k.2+2)))).q=v.q*dF k:=by
  rw[Qn.dv_q]
  simp only[Qn.j6,Qn.ofZ_q]
  unfold dF
  rw[if_pos ⟨cg_1 hc,cg_2 hc⟩,ofI_q bj]
  unfold dq
  have e:((2:Int):Rat)=2:=rfl
  rw[e,Rat.div_def,Rat.div_def]
  grind
 rw[<-ed] at e
 have:=nd_zD e hl
 constructor<;>omega
theorem di_s (h:¬jy f g≠0) (hz:jy f g=0->DiOk (plF f) (plF g)) (hm:KP (qO (plF f) (plF g)) m) (hI:DiI m n t):sz t.q<=62:=by
 have:=di_t h hz hm hI
 exact Nat.max_le.2 ⟨by have:=this.1;show jk t.n.natAbs<=62;omega,by have:=this.2;have e:jk t.d.natAbs=jk t.q.den:=congrArg jk (Int.natAbs_natCast _);omega⟩
theorem di_0:DiI m #[] (Qn.ofZ 0 bj):=⟨VI.nil _,by rw[Qn.ofZ_q];rfl⟩
theorem ev_b2 (h:(bif decide (k.1%2=0) then decide (k.2%2=0) else false)=true):k.1%2=0/\k.2%2=0:=⟨cg_1 h,cg_2 h⟩
theorem di_1 (h:¬jy f g≠0) (hz:jy f g=0->DiOk (plF f) (plF g)) (hm:KP (qO (plF f) (plF g)) m) (hI:DiI m n t) (hk:m[i]? =some (k,v)) (hi:i∉n) (hc:(bif decide (k.1%2=0) then decide (k.2%2=0) else false)=true) {h2:R64 2}:DiI m (n.push i) (Qn.add t (Qn.dv (Qn.mul (Qn.mul (Qn.mul v (Qn.ofZ 2 h2)) (Zn (k.1-1))) (Zn (k.2-1))) (Qn.mul (Zn (k.1+k.2)) (Qn.ofI (k.1+k.2+2))))):=by
 refine⟨hI.1.push hk hi,?_⟩
 have h4:=di_b h hz hm hk
 rw[j4 hk,plM_app,lin_app,<-hI.2,Qn.add_q,Qn.dv_q]
 simp only[Qn.j6,Qn.ofZ_q,plM,zA,z6,lin]
 unfold dF
 rw[if_pos (ev_b2 hc),ofI_q bj]
 unfold dq
 have e:((2:Int):Rat)=2:=rfl
 rw[e,Rat.div_def,Rat.div_def]
 grind
theorem di_2 (_:¬jy f g≠0) (_:KP (qO (plF f) (plF g)) m) (hI:DiI m n t) (hk:m[i]? =some (k,v)) (hi:i∉n) (hc:(bif decide (k.1%2=0) then decide (k.2%2=0) else false)=false):DiI m (n.push i) t:=by
 refine⟨hI.1.push hk hi,?_⟩
 rw[j4 hk,plM_app,lin_app,<-hI.2]
 have:dF k=0:=by unfold dF;rw[if_neg (cg_4 hc)]
 simp only[plM,zA,z6,lin,this]
 grind
theorem di_q (hm:KP (qO (plF f) (plF g)) m) (hI:DiI m n t) (ha:∀ i,i<m.length->i∈n):t.q=lin dF (qO (plF f) (plF g)):=by
 rw[hI.2]
 exact ((Eqv.perm (plM_perm (hI.1.all ha))).trans hm.eqv).lin _
theorem di_3 (h:¬jy f g≠0) (hm:KP (qO (plF f) (plF g)) m) (hI:DiI m n t) (ha:∀ i,i<m.length->i∈n):resT t.q=erL (jy f g) (resT (lin dF (qO (plF f) (plF g)))):=by rw[di_q hm hI ha];exact er_3 h
theorem di_4 (h:¬jy f g≠0) (hm:KP (qO (plF f) (plF g)) m) (hI:DiI m n t) (ha:∀ i,i<m.length->i∈n):resE t.q=erE (jy f g) (resE (lin dF (qO (plF f) (plF g)))):=by rw[di_q hm hI ha];exact er_4 h
end
theorem w33 (hp:qX) (f g:List Trm) (hlf:List.length f<=1000000) (hsf:∀ t∈f,List.length (Trm.c t)<=18) (hlg:List.length g<=1000000) (hsg:∀ t∈g,List.length (Trm.c t)<=18) (hz:jy f g=0->DiOk (plF f) (plF g)):CKa 33 [vL eY f,vL eY g] (.tup [vS (bsO (erL (jy f g) (resT (lin dF (qO (plF f) (plF g)))))),vI (erE (jy f g) (resE (lin dF (qO (plF f) (plF g)))))]):=by
 refine cL 10 [] qf33 Z (nB Z) Z Z (kc (C Z (w124 f g hlf hsf hlg hsg) Z Z Z (Cp Z Z (fun h1=>?_) (fun h1=>?_))))
 ·refine Rt Z ?_
  exact q5 (val0:=.tup [vS (bsO []),vI (jy f g)]) (out0:=[]) (.inr Z) ae c9 rfl
 refine C Z (w100 0 bj) Z Z Z (E Z (B.ja Z (fun l=>Frz.jU l Z) Z) ?_)
 refine tk 5 Z ?_
 refine TK.cutK (Y:=tab) 5 33 Z ?_
 refine rc (E Z (B.q6 (l:=[]) (w114k f 30 hlf (ch_f ab)) Z Z trivial Z Z) (E Z (B.q6 (l:=[]) (w114k g 32 hlg (ch_g ab)) Z Z trivial Z Z) (E Z (B.q6 (l:=[(30,(kR (plF f))),(32,(kR (plF g)))]) (w101k (plF f) (plF g) 30 32 33 ah ah ah (mu_k ab).1 (mu_k ab).2 (di_ti ab hz)) Z Z ⟨rfl,rfl,trivial⟩ rfl rfl) (pk Z (Cut.mk Z (fun kv1 hkv1=>?_))))))
 obtain⟨m1,hm1,rfl⟩:=hkv1
 refine rc (E Z (B.rangeK (enc:=eP) (l:=m1) kty Z Z Z Z) (l2 (fun (n:Array Nat) (t:Qn)=>[(7,.bref 17 0),(24,.bref 34 0)]) (fun n t=>[(17,.box 156 [vI (Qn.n t),.pv (.lit (.slice none 0 0)),vI (Qn.d t),.pv (.lit (.slice none 0 0))]),(33,(kO eP m1)),(34,.miter 33 (m1.length) n)]) (fun n t=>DiI m1 n t) (fun n _=>List.length m1-Array.size n) (#[]) (Qn.ofZ 0 bj) Z ?_ (sb Z Z Z) ?_))
 · exact di_0
 intro n t hI0
 refine tk 6 Z ?_
 refine TK.nextK (Y:=tab) (enc:=eP) (l:=m1) Z Z Z Z Z (fun i1 k1 v1 hk1 hi1=>?_) (fun hall1=>?_)
 ·refine rc (CT Z Z (E Z (B.entryK (enc:=eP) (l:=m1) Z Z Z hk1) (E Z (B.ja Z (fun l=>Frz.jU l Z) Z) (E Z (B.run Z) (E Z (B.run Z) (Dr Z ae (E Z (B.remN Z Z cA ah) (Eg Z Z (fun hc=>B.move Z) Z (Eg Z Z (fun hc=>B.remN (qz Z hc) Z cA ah) Z (Eg Z Z (fun hc=>B.eql (qz Z hc) Z) Z (E Z (B.pick Z Z Z (gdB Z) Z (q0 _)) (Cb Z Z (fun h2=>?_) (fun h2=>?_)))))))))))))
  ·refine C Z (w100 2 bj) Z Z Z (C Z (w126x v1 (Qn.ofZ 2 bj) (di_m ab hz hm1 hk1 (h2:=by unfold R64;omega)).1) Z Z Z (E Z (B.sub Z Z cB) (C Z (w127 ((Prod.fst k1)-1) cA) Z Z Z (C Z (w126x (Qn.mul v1 (Qn.ofZ 2 bj)) (Zn ((Prod.fst k1)-1)) (di_m ab hz hm1 hk1 (h2:=by unfold R64;omega)).2.1) Z Z Z (E Z (B.sub Z Z cB) (C Z (w127 ((Prod.snd k1)-1) cA) Z Z Z (C Z (w126x (Qn.mul (Qn.mul v1 (Qn.ofZ 2 bj)) (Zn ((Prod.fst k1)-1))) (Zn ((Prod.snd k1)-1)) (di_m ab hz hm1 hk1 (h2:=by unfold R64;omega)).2.2.1) Z Z Z (E Z (B.add Z Z cB) (C Z (w127 ((Prod.fst k1)+(Prod.snd k1)) cA) Z Z Z (E Z (B.add Z Z cB) (E Z (B.add Z Z cB) (C Z (w100i (((Prod.fst k1)+(Prod.snd k1))+2) cA) Z Z Z (C Z (w126x (Zn ((Prod.fst k1)+(Prod.snd k1))) (Qn.ofI (((Prod.fst k1)+(Prod.snd k1))+2)) (di_m ab hz hm1 hk1 (h2:=by unfold R64;omega)).2.2.2) Z Z Z ?_)))))))))))))
   refine C Z (w128e (Qn.mul (Qn.mul (Qn.mul v1 (Qn.ofZ 2 bj)) (Zn ((Prod.fst k1)-1))) (Zn ((Prod.snd k1)-1))) (Qn.mul (Zn ((Prod.fst k1)+(Prod.snd k1))) (Qn.ofI (((Prod.fst k1)+(Prod.snd k1))+2))) (di_d ab hz hm1 hk1) (di_z ab hz hm1 hk1)) Z Z Z (C Z (w125x t (Qn.dv (Qn.mul (Qn.mul (Qn.mul v1 (Qn.ofZ 2 bj)) (Zn ((Prod.fst k1)-1))) (Zn ((Prod.snd k1)-1))) (Qn.mul (Zn ((Prod.fst k1)+(Prod.snd k1))) (Qn.ofI (((Prod.fst k1)+(Prod.snd k1))+2)))) (di_a ab hz hm1 hk1 hI0 ab)) Z Z Z (Dr Z ae (pk Z (L2 (Array.push n i1) (Qn.add t (Qn.dv (Qn.mul (Qn.mul (Qn.mul v1 (Qn.ofZ 2 bj)) (Zn ((Prod.fst k1)-1))) (Zn ((Prod.snd k1)-1))) (Qn.mul (Zn ((Prod.fst k1)+(Prod.snd k1))) (Qn.ofI (((Prod.fst k1)+(Prod.snd k1))+2))))) ?_ ?_ (sb Z Z Z)))))
   · first|exact di_1 ab hz hm1 hI0 hk1 hi1 ab|exact di_2 ab hm1 hI0 hk1 hi1 ab
   · exact hI0.1.meas hk1 hi1
  refine pk Z (L2 (Array.push n i1) t ?_ ?_ (sb Z Z Z))
  · first|exact di_1 ab hz hm1 hI0 hk1 hi1 ab|exact di_2 ab hm1 hI0 hk1 hi1 ab
  · exact hI0.1.meas hk1 hi1
 refine rc (CF Z Z (C Z (w113 hp t (di_s ab hz hm1 hI0)) Z Z Z ?_))
 refine Rt Z ?_
 exact q5 (val0:=.tup [vS (bsO (resT (Qn.q t))),vI (resE (Qn.q t))]) (out0:=[]) (.inr Z) ae c9 rfl
end Go.Lens.Tb
end
section
namespace Go.Lens
variable [Lz]
section
variable {P:Program} {Y:Tab} [qM P Y] {nb:Nat} {s:St} {dst:Option Tmp} {ty:TypeId} {pos:String} {af:Array Edge} {gd:Option (Nat×Bool)} {t:TypeId} {x y:Operand}
theorem B.idxG {g n len:Nat} {m:Int} {e:TypeId} (ht:Y.underlying t=some (.array len e)) (hs:szT Y e=some 1) (hy:ev1 s y=.pv (.lit (.int .i64 m))) (h1:1<len) (hn:m=(n:Int)) (hlt:n<len) :
  Body P Y nb s ⟨dst,.indexAddr t (.global g) y,ty,pos,af,gd⟩ (.pv (.lit (.pointer (some ⟨g,n,none⟩)))) [] []:=by
 subst hn
 refine .inr (km.of fun σ G a w hv _ I=>?_)
 have hY:=hv y aY
 rw[hy] at hY
 obtain⟨hY,_⟩:=qA hY
 have hx:a.eval (.global g)=.pointer (some ⟨g,0,none⟩):=rfl
 have hrun:(Instr.indexAt t (.pointer (some ⟨g,0,none⟩)) (.int .i64 (n:Int))).run P w=.ok (.pointer (some ⟨g,n,none⟩)) w:=by
  have hl:¬len<=1:=aa
  simp only[Instr.indexAt,qt,asIntOf,qu,qI ht,qr,Instr.sureAddr,Int.natCast_nonneg,Int.ofNat_lt,hlt,and_self,qp,Sem.run_ite,qV hs,Addr.add_lit,hl,zU,Nat.zero_add,Nat.mul_one]
 refine⟨.pointer (some ⟨g,n,none⟩),w,G,.inl ?_,qH I.ctxS (by simp[qx,qN,isLit]) (fun k hk=>by simp[DV.refs] at hk)⟩
 simp only[execOp,hx,hY,qt,hrun,qr,qu]
theorem B.loadG {g n:Nat} {tab:List Int} {T:TypeId} {fr:Nat×Nat} (hx:ev1 s x=.pv (.lit (.pointer (some ⟨g,n,none⟩)))) (hL:Lz.L g=some (.cells (tab.map fun z=>Value.int .i64 z).toArray T fr)) (ha:aggT Y t=some false) (hlt:n<tab.length) :
  Body P Y nb s ⟨dst,.load t x,ty,pos,af,gd⟩ (.pv (.lit (.int .i64 (tab.getD n 0)))) [] []:=by
 refine .inr (km.of fun σ G a w hv _ I=>?_)
 have hX:=hv x aY
 rw[hx] at hX
 obtain⟨hX,_⟩:=qA hX
 have hc:w.cell? ⟨g,n,none⟩=some (.int .i64 (tab.getD n 0)):=by
  simp only[World.cell?,(I.laid _ _ hL).2]
  simp[ze,zm hlt]
 have hrun:(Instr.loadAt t (.pointer (some ⟨g,n,none⟩))).run P w=.ok (.int .i64 (tab.getD n 0)) w:=by
  simp only[Instr.loadAt,qt,Instr.sureAddr,qu,qr]
  exact j9 ha hc
 refine⟨.int .i64 (tab.getD n 0),w,G,.inl ?_,qH I.ctxS (by simp[qx,qN,isLit]) (fun k hk=>by simp[DV.refs] at hk)⟩
 simp only[execOp,hX,qt,hrun,qr,qu]
end
section
variable [Fc] {P:Program} {Y:Tab} [qM P Y] {nb n:Nat} {ops ops':Array Oper} {p q:Nat}
def seqB (ops:Array Oper):Array Bool->List Nat->Bool
 | listed,[]=>(Region.ready .any ops listed).isEmpty
 | listed,i::l=>(Region.ready .any ops listed==[i])&&seqB ops (listed.setIfInBounds i true) l
theorem any_seq (r:Option Nat):∀ {os:List Oper} {l:List Nat} {listed:Array Bool} {s:St} {es:List Ef},efsR P Y nb ops os s es->l.map (fun i=>ops[i]?)=os.map some->os.all (fun o=>dstOk n o.dst)=true->seqB ops listed l=true->
  ∀ {G:Gh} {a:Act} {w:World} {Q:Exit->Act->World->Prop},Inv G s.vw a w->a.tmps.size=n->
  (∀ G' a' w',Inv G' (es.foldl stp s).vw a' w'->Since nb (qw s.ms) G w (qw (es.foldl stp s).ms) G' w'->a'.tmps.size=n->a'.defers=a.defers->Q .normal a' w')->wpAnyIn (fcR r) 0 P .any ops Q l.length listed a w
 | [],l,listed,s,es,h,hl,_,hq,G,a,w,Q,I,hn,hK=>by
  have:l=[]:=by cases l with|nil=>rfl|cons i l=>simp at hl
  subst this
  simp only[efsR] at h
  subst h
  simp only[seqB,List.isEmpty_iff] at hq
  exact⟨hq,hK G a w I (Since.refl _ _ _ _) hn rfl⟩
 | o::os,l,listed,s,es,h,hl,hda,hq,G,a,w,Q,I,hn,hK=>by
  obtain⟨e,es',rfl,he,hes⟩:=h
  cases l with
  | nil=>simp at hl
  | cons i l=>
  simp only[zA,List.cons.injEq] at hl
  obtain⟨hi,hl⟩:=hl
  simp only[List.all_cons,zj] at hda
  simp only[seqB,zj,beq_iff_eq] at hq
  obtain⟨hq1,hq2⟩:=hq
  have pd:∀ v,(a.put o.dst v).defers=a.defers:=fun v=>by cases hd:o.dst<;>rfl
  refine⟨fun hr=>(by rw[hq1] at hr;cases hr),fun j hj=>?_⟩
  rw[hq1,zg] at hj
  subst hj
  have key:=EfR.sound (P:=P) (π:=s) he hda.1 (fun _ _=>rfl) (fun _ _=>rfl) I hn (Q:=Q) (next:=wpAnyIn (fcR r) 0 P .any ops Q l.length (listed.setIfInBounds j true)) ?_
  ·unfold wpOpIn
   rw[hi]
   simp only
   split
   ·rename_i hw;rw[if_pos hw] at key;exact key r
   rename_i hw;rw[if_neg hw] at key;exact⟨fun _ _=>trivial,key⟩
  intro G1 v w1 I1 Sn1
  rw[<-he.dst] at I1 Sn1
  refine any_seq r hes hl hda.2 hq2 (G:=G1) aV aU ?_
  intro G2 a2 w2 I2 Sn2 hn2 hd2
  exact hK G2 a2 w2 I2 (Sn1.trans Sn2) hn2 (hd2.trans (pd v))
def Fork (P:Program) (Y:Tab) (nb n:Nat) (ops ops':Array Oper) (p q:Nat) (s:St) (es:List Ef) (QF:St->Prop):Prop:=
 ∀ listed:Array Bool,listed.size=ops.size->Down ops' (fun k=>listed.getD k false)->listed.getD p false=false->q∈Region.ready .any ops listed->
  ∃ (oq:Oper) (e:Ef) (l:List Nat) (es2:List Ef),ops[q]? =some oq/\dstOk n oq.dst=true/\l.length+1=listed.toList.count false/\EfR P Y nb ops (stK s es (fun k=>listed.getD k false) ops.size) oq e/\
   efsR P Y nb ops (l.filterMap (fun i=>ops[i]?)) (stp (stK s es (fun k=>listed.getD k false) ops.size) e) es2/\l.map (fun i=>ops[i]?)=(l.filterMap (fun i=>ops[i]?)).map some/\(l.filterMap (fun i=>ops[i]?)).all (fun o=>dstOk n o.dst)=true/\seqB ops (listed.setIfInBounds q true) l=true/\
   QF (es2.foldl stp (stp (stK s es (fun k=>listed.getD k false) ops.size) e))
theorem fork_any {s:St} {es:List Ef} {QF:St->Prop} (hes:efsR P Y nb ops' ops'.toList s es) (hds:ops'.toList.all (fun o=>dstOk n o.dst)=true) (hsl:slotsOk ops'=true) (hef:efPairs ops' 0 es=true) (hsz':ops'.size=ops.size) (hps:p<ops.size)
  (hr1:∀ (listed:Array Bool) (i:Nat),i∈Region.ready .any ops listed->i∈Region.ready .any ops' listed\/(i=q/\listed.getD p false=false)) (hr2:∀ (listed:Array Bool) (i:Nat),i∈Region.ready .any ops' listed->i∈Region.ready .any ops listed)
  (hw:∀ {F:Fence} {Q:Exit->Act->World->Prop} {i:Nat} {next:Act->World->Prop} {a:Act} {w:World},wpOpIn F 0 P ops' Q i next a w->wpOpIn F 0 P ops Q i next a w)
  (hA:QF (es.foldl stp s)) (hB:Fork P Y nb n ops ops' p q s es QF) {Q:Exit->Act->World->Prop} (r:Option Nat) :
  ∀ (fuel:Nat) (listed:Array Bool),listed.size=ops.size->listed.toList.count false=fuel->Down ops' (fun k=>listed.getD k false)->
  ∀ {G:Gh} {a:Act} {w:World},Inv G (stK s es (fun k=>listed.getD k false) ops.size).vw a w->a.tmps.size=n->
  (∀ sF G' a' w',QF sF->Inv G' sF.vw a' w'->Since nb (qw (stK s es (fun k=>listed.getD k false) ops.size).ms) G w (qw sF.ms) G' w'->a'.tmps.size=n->a'.defers=a.defers->Q .normal a' w')->
  wpAnyIn (fcR r) 0 P .any ops Q fuel listed a w:=by
 intro fuel
 induction fuel with
 | zero=>
  intro listed hsz hc D G a w I hn hK
  have h0:=drawnR_any (P:=P) hes hds hsl hef r 0 listed (by rw[hsz'];exact hsz) hc D (Q:=Q) cC hn (fun G' a' w' I' Sn=>hK _ G' a' w' hA I' (by rw[hsz'] at Sn;exact Sn))
  refine⟨?_,h0.2⟩
  refine List.eq_nil_iff_forall_not_mem.2 fun i hi=>?_
  rcases hr1 listed i hi with h|⟨rfl,h⟩
  ·rw[h0.1] at h;cases h
  have hp:p<listed.size:=aa
  have:false∈listed.toList:=by
   have e:listed[p]=false:=by simpa [zD,hp] using h
   rw[<-e];exact Array.getElem_mem_toList hp
  have:=List.count_pos_iff.2 this
  omega
 | succ fuel ih=>
  intro listed hsz hc D G a w I hn hK
  have h0:=drawnR_any (P:=P) hes hds hsl hef r (fuel+1) listed (by rw[hsz'];exact hsz) hc D (Q:=Q) cC hn (fun G' a' w' I' Sn=>hK _ G' a' w' hA I' (by rw[hsz'] at Sn;exact Sn))
  refine⟨fun hr=>h0.1 (List.eq_nil_iff_forall_not_mem.2 fun i hi=>by have:=hr2 listed i hi;rw[hr] at this;cases this),fun i hi=>?_⟩
  by_cases hi':i∈Region.ready .any ops' listed
  ·refine hw ?_
   unfold Region.ready at hi'
   obtain⟨hi1,hi2⟩:=List.mem_filter.1 hi'
   have hin:=List.mem_range.1 hi1
   have hil:i<listed.size:=aa
   simp only[zj,Bool.not_eq_true'] at hi2
   obtain⟨h1,h2⟩:=hi2
   have h1':listed.getD i false=false:=by simpa [zD,hil] using h1
   have ho:ops'[i]? =some ops'[i]:=Array.getElem?_eq_getElem hin
   rw[ho] at h2
   simp only[qf,zQ] at h2
   rw[<-Array.all_toList] at h2
   have hr:∀ e∈ops'[i].after.toList,Region.binds .any e=true->listed.getD e.on false=true:=by
    intro e he hb
    have:=zr.1 h2 e he
    rw[hb] at this
    simpa using this
   have hS:∀ k,(listed.setIfInBounds i true).getD k false=(listed.getD k false||Nat.beq k i):=by
    intro k
    simp only[zD,Array.getElem?_setIfInBounds]
    by_cases hk:i=k
    ·subst hk;simp[hil]
    have:Nat.beq k i=false:=Bool.eq_false_iff.mpr fun h=>hk (zE h).symm
    simp[hk,this]
   have hSf:(fun k=>(listed.setIfInBounds i true).getD k false)=(fun k=>listed.getD k false||Nat.beq k i):=funext hS
   refine drawnR_step (P:=P) hes hds hsl hef D ho h1' hr cC hn ?_ r
   rw[hsz']
   intro G' a' w' I' Sn hn' hd'
   refine ih (listed.setIfInBounds i true) (by simp[hsz]) ?_ ?_ (by rw[hSf];exact I') hn' ?_
   ·have:=count_set (l:=listed.toList) (i:=i) (by
      have:listed[i]? =some false:=by
       rw[Array.getElem?_eq_getElem hil]
       simpa [zD,hil] using h1'
      simpa using this)
    rw[Array.toList_setIfInBounds];omega
   ·rw[hSf]
    intro j o2 hj ho2 e2 he2 hb2
    simp only[Bool.or_eq_true] at hj ⊢
    rcases hj with hj|hj
    ·exact .inl (D j o2 hj ho2 e2 he2 hb2)
    have:=zE hj
    subst this
    rw[ho] at ho2;cases ho2
    exact .inl (hr e2 he2 hb2)
   intro sF G2 a2 w2 hq2 I2 Sn2 hn2 hd2
   rw[hSf] at Sn2
   exact hK sF G2 a2 w2 hq2 I2 (Sn.trans Sn2) hn2 (hd2.trans hd')
  rcases hr1 listed i hi with h|⟨rfl,h⟩
  ·exact absurd h hi'
  have hp:listed.getD p false=false:=h
  obtain⟨oq,e,l,es2,k1,k2,k3,k4,k5,k6,k7,k8,k9⟩:=hB listed hsz D hp hi
  have hl:l.length=fuel:=aa
  have pd:∀ v,(a.put oq.dst v).defers=a.defers:=fun v=>by cases hd:oq.dst<;>rfl
  have key:=EfR.sound (P:=P) k4 k2 (fun _ _=>rfl) (fun _ _=>rfl) I hn (Q:=Q) (next:=wpAnyIn (fcR r) 0 P .any ops Q fuel (listed.setIfInBounds i true)) ?_
  ·unfold wpOpIn
   rw[k1]
   simp only
   split
   ·rename_i hw;rw[if_pos hw] at key;exact key r
   rename_i hw;rw[if_neg hw] at key;exact⟨fun _ _=>trivial,key⟩
  intro G1 v w1 I1 Sn1
  rw[<-k4.dst] at I1 Sn1
  rw[<-hl]
  refine any_seq r k5 k6 k7 k8 (G:=G1) (by rw[<-k4.dst];exact I1) aU ?_
  intro G2 a2 w2 I2 Sn2 hn2 hd2
  exact hK _ G2 a2 w2 k9 I2 (Sn1.trans Sn2) hn2 (hd2.trans (pd v))
def addE (ops:Array Oper) (p q:Nat):Array Oper:=ops.modify q fun o=>{ o with after:=o.after.push ⟨p,.data⟩ }
theorem addE_get (i:Nat):(addE ops p q)[i]? =if q=i then (ops[i]?).map (fun o=>{ o with after:=o.after.push ⟨p,.data⟩ }) else ops[i]? :=Array.getElem?_modify
theorem addE_size:(addE ops p q).size=ops.size:=by simp[addE]
theorem addE_ready {listed:Array Bool} {i:Nat}:i∈Region.ready .any (addE ops p q) listed↔i∈Region.ready .any ops listed/\(i=q->listed.getD p false=true):=by
 unfold Region.ready
 rw[List.mem_filter,List.mem_filter,addE_size,addE_get]
 by_cases e:q=i
 ·subst e
  cases h:ops[q]? with
  | none=>simp
  | some o=>
   simp only[qp,qf,zQ,Array.all_push,zj,forall_const]
   have:Region.binds .any ⟨p,.data⟩=true:=rfl
   simp only[this,Bool.not_true,Bool.false_or]
   constructor
   ·rintro⟨h1,h2,h3,h4⟩;exact⟨⟨h1,h2,h3⟩,h4⟩
   rintro⟨⟨h1,h2,h3⟩,h4⟩;exact⟨h1,h2,h3,h4⟩
 rw[if_neg e]
 simp[Ne.symm e]
theorem addE_yield (ts:Array Value):yielded (addE ops p q) ts=yielded ops ts:=by
 funext j
 unfold yielded
 rw[addE_get]
 by_cases e:q=j
 ·rw[if_pos e]
  cases ops[j]?<;>rfl
 rw[if_neg e]
theorem addE_wp {F:Fence} {Q:Exit->Act->World->Prop} {i:Nat} {next:Act->World->Prop} {a:Act} {w:World} (h:wpOpIn F 0 P (addE ops p q) Q i next a w):wpOpIn F 0 P ops Q i next a w:=by
 unfold wpOpIn at h ⊢
 rw[addE_get,addE_yield] at h
 by_cases e:q=i
 ·rw[if_pos e] at h
  cases ho:ops[i]? with
  | none=>rw[ho] at h;exact h
  | some o=>
   rw[ho] at h
   obtain⟨d,op,ty,pos,af,gd⟩:=o
   exact h
 rw[if_neg e] at h;exact h
theorem TK.fork (hm:P.follows .mixedOrders=true) {id:Nat} {s s0:St} {K:List Fr} {es:List Ef} {Q:Exit->St->Prop} (p q:Nat) (hps:p<ops.size) (hda:jA n (.region id (addE ops p q) true)=true) (hes:efsR P Y nb (addE ops p q) (addE ops p q).toList s es) (hef:efPairs (addE ops p q) 0 es=true)
  (hA:Wk nb (es.foldl stp s) s0) (hB:Fork P Y nb n ops (addE ops p q) p q s es (fun s'=>Wk nb s' s0)) (k:PK P n nb Q K .normal s0):TK P n nb Q (.region id ops true) K s:=by
 intro G a w R I hn hK
 simp only[jA,zj] at hda
 have hsl:slotsOk (addE ops p q)=true:=by simpa using hda.2
 refine wpIn_region_any hm ?_
 have h0:∀ k,(Array.replicate ops.size false).getD k false=false:=by
  intro k
  simp only[zD,Array.getElem?_replicate]
  split<;>rfl
 have hst:stK s es (fun k=>(Array.replicate ops.size false).getD k false) ops.size=s:=by
  rw[stK_congr (S':=fun _=>false) (fun k _=>h0 k)]
  have:∀ m,stK s es (fun _=>false) m=s:=by
   intro m
   induction m with
   | zero=>rfl
   | succ m ih=>simp only[stK];split<;>simp[ih]
  exact this _
 refine fork_any (P:=P) hes hda.1 hsl hef addE_size hps (fun listed i hi=>by by_cases e:i=q->listed.getD p false=true;exact .inl (addE_ready.2 ⟨hi,e⟩);(have e2:=Classical.not_imp.1 e;exact .inr ⟨e2.1,by simpa using e2.2⟩)) (fun listed i hi=>(addE_ready.1 hi).1) addE_wp (QF:=fun s'=>Wk nb s' s0) hA hB _ ops.size _ ao ao ?_ (G:=G) ?_ hn ?_
 ·intro j o hj;have hj':(Array.replicate ops.size false).getD j false=true:=hj;rw[h0] at hj';cases hj'
 ·rw[hst];exact I.drew _
 rw[hst]
 intro sF G0 a' w' hq I0 Sn0 hn' hd'
 obtain⟨G',I',Sn1⟩:=hq I0
 have Sn:=Sn0.trans Sn1
 exact hK _ _ _ _ _ k I' ⟨⟨Sn.later.base,Sn.later.R0,Sn.later.R0c,Sn.later.R0m,Sn.later.os,Sn.later.tape,Sn.later.output,Sn.later.size,Sn.later.cold,fun e=>qh (Nat.le_succ _) (Sn.later.drawn e)⟩,Sn.keeps,Sn.newb⟩ hn' (Mks.of hd')
theorem Wk.trans {s s1 s2:St} (h:Wk nb s s1) (k:Wk nb s1 s2):Wk nb s s2:=fun I=>by
 obtain⟨G1,I1,S1⟩:=h I
 obtain⟨G2,I2,S2⟩:=k I1
 exact⟨G2,I2,S1.trans S2⟩
theorem wk_shutK {s:St} {h:Nat} {R R':List (PV×PV)->Prop} (hm:qw s.ms h=some (.kmap R)) (hR:∀ kv,R kv->R' kv):Wk nb s ⟨s.tm,(h,.kmap R')::s.ms⟩:=fun {G a w} I=>by
 have H:qY G w h (.kmap R'):=by
  have:=I.ms h _ hm
  simp only[qY] at this ⊢
  obtain⟨h1,es,kv,h2,h3⟩:=this
  exact⟨h1,es,kv,hR kv h2,h3⟩
 have S:=q7 (m:=.kmap R') (val:=.dead) (r:=undef) I.ctxS (B:=G.ρ h) hm bc (w':=w) Z Z Z Z (fun _ _=>rfl) aD bW ak am
 rw[Gh.qU] at S
 obtain⟨I1,Sn1⟩:=I.eff (s:=s) (K:=nb) S none ao
 exact⟨G,I1,Sn1⟩
theorem ready_after {listed:Array Bool} {i:Nat} (h:i∈Region.ready .any ops listed) {o:Oper} (ho:ops[i]? =some o):listed.getD i true=false/\∀ e∈o.after.toList,Region.binds .any e=true->listed.getD e.on false=true:=by
 unfold Region.ready at h
 have h2:=(List.mem_filter.1 h).2
 rw[ho] at h2
 simp only[zj,Bool.not_eq_true',qf,zQ] at h2
 obtain⟨h1,h2⟩:=h2
 rw[<-Array.all_toList] at h2
 refine⟨h1,fun e he hb=>?_⟩
 have:=zr.1 h2 e he
 rw[hb] at this
 simpa using this
end
end Go.Lens
end
section
namespace Go.Lens.Tb
open Go.Proofs Go.Lens.Un
variable [Lz] [Dn]
set_option maxRecDepth 100000
attribute [local irreducible] TK PK T RG EfR Body CG
def facL:List Int:=[1,1,2,6,24,120,720,5040,40320]
def jE (z:Int):Int:=facL.getD z.toNat 0
def FacLaid:Prop:=∃ T fr,Lz.L 0=some (.cells (facL.map fun z=>Value.int .i64 z).toArray T fr)
theorem B.loadF (hf:FacLaid) {P:Program} {Y:Tab} [qM P Y] {nb:Nat} {s:St} {dst:Option Tmp} {ty t:TypeId} {pos:String} {af:Array Edge} {gd:Option (Nat×Bool)} {x:Operand} {m:Int} (hx:ev1 s x=.pv (.lit (.pointer (some ⟨0,m.toNat,none⟩)))) (ha:aggT Y t=some false) (hlt:m.toNat<9) :
  Body P Y nb s ⟨dst,.load t x,ty,pos,af,gd⟩ (vI (jE m)) [] []:=by
 obtain⟨T,fr,h⟩:=hf
 exact B.loadG hx h ha hlt
theorem fac_b (z:Int):0<=jE z/\jE z<=40320:=by
 unfold jE
 rcases Nat.lt_or_ge z.toNat 9 with h|h
 ·have:∀ n,n<9->0<=facL.getD n 0/\facL.getD n 0<=40320:=ah
  exact this _ h
 rw[ze,qg h];decide
theorem fac_p {z:Int} (h:z<=8):1<=jE z:=by
 unfold jE
 have:∀ n,n<9->1<=facL.getD n 0:=ah
 exact this _ aa
theorem ra_m2 (a b:Int):0<=jE a*jE b/\jE a*jE b<=40320*40320:=
 ⟨Int.mul_nonneg (fac_b a).1 (fac_b b).1,Int.mul_le_mul (fac_b a).2 (fac_b b).2 (fac_b b).1 ah⟩
theorem ra_m3 (a b c:Int):0<=jE a*jE b*jE c/\jE a*jE b*jE c<=40320*40320*40320:=
 ⟨Int.mul_nonneg (ra_m2 a b).1 (fac_b c).1,Int.mul_le_mul (ra_m2 a b).2 (fac_b c).2 (fac_b c).1 ah⟩
theorem jQ (a b:Int):R64 (jE a*jE b):=by have:=ra_m2 a b;unfold R64;omega
theorem jR (a b c:Int):R64 (jE a*jE b*jE c):=by have:=ra_m3 a b c;unfold R64;omega
theorem ra_s1 (a:Int):Sm (jE a):=by have:=fac_b a;unfold Sm;omega
theorem ra_s3 (a b c:Int):Sm (jE a*jE b*jE c):=by have:=ra_m3 a b c;unfold Sm;omega
def mkQ (a b:Int):Qn:=Qn.make a b
theorem ofR_q {a b:Int}:(mkQ a b).q=(a:Rat) / (b:Rat):=rfl
theorem w179z (a b:Int) (ha:Sm a) (hb:Sm b) (h0:b≠0):CKa 179 [.pv (.agg [pI a,jl]),.pv (.agg [pI b,jl])] (.pv (eP (mkQ a b))):=w179 a b ha hb h0
theorem ra_n {a b c d:Int}:sz (mkQ (jE a) (jE b*jE c*jE d)).q<=62:=by
 refine qh (sz_div _ _) ?_
 have h1:sz ((jE a:Int):Rat)<=16:=qh (sz_int _) (Nat.max_le.2 ⟨jb (by have:=fac_b a;omega),ah⟩)
 have h2:sz ((jE b*jE c*jE d:Int):Rat)<=46:=qh (sz_int _) (Nat.max_le.2 ⟨jb (by have:=ra_m3 b c d;omega),ah⟩)
 omega
theorem w101e (P R S:PL) (x y z:Nat) (hxy:x≠y) (hxz:x≠z) (hyz:y≠z) (hP:KB P) (hR:KB R) (hz:TiZ P R) (hS:qO P R=S):qD Tryz.prog 101 [.mref x,.mref y] (qw [(x,kR P),(y,kR R)]) (.mref z) [(y,kR R),(x,kR P),(z,kR S)]:=by
 subst hS;exact w101k P R x y z hxy hxz hyz hP hR hz
theorem w102e (P R S:PL) (b:Qn) (x y z:Nat) (hxy:x≠y) (hxz:x≠z) (hyz:y≠z) (hz:PlZ P R (Qn.q b)) (hS:P++scl (Qn.q b) R=S):qD Tryz.prog 102 [.mref x,.mref y,.pv (eP b)] (qw [(x,kR P),(y,kR R)]) (.mref z) [(y,kR R),(x,kR P),(z,kR S)]:=by
 subst hS;exact w102k P R b x y z hxy hxz hyz hz
def sqP:PL:=[((2,0),1),((0,2),1)]
def powP (c:Rat):Nat->PL
 | 0=>[((0,0),c)]
 | j+1=>qO (powP c j) sqP
def crR (n k s:Int):Rat:=(if s%2=1 then -1 else 1)*((jE (n-s):Int) / (jE s*jE ((n+k) / 2-s)*jE ((n-k) / 2-s):Int))
def radP (n k:Int):Nat->PL
 | 0=>[]
 | i+1=>radP n k i++scl 1 (powP (crR n k ((i:Nat):Int)) (Int.toNat ((n-k) / 2-((i:Nat):Int))))
def radQ (n k:Int):PL:=radP n k (Int.toNat ((n-k) / 2+1))
def RaN (n k:Int):Prop:=0<=k/\k<=n/\n<=8/\(n-k)%2=0
section
variable {n k:Int} {i j:Nat} {b e:Bool} {c:Rat} {P:PL}
theorem kp_sq {h1 h2:R64 1}:KP sqP (Zk (0,2) (Qn.ofZ 1 h1) (Zk (2,0) (Qn.ofZ 1 h2) [])):=by
 have:=(KP.nil.add (2,0) (Qn.ofZ 1 h2)).add (0,2) (Qn.ofZ 1 h1)
 simpa [Qn.ofZ_q,sqP,addK,Zk,kj] using this
theorem kp_sq2 {h1 h2:R64 1}:KP sqP (Zk (2,0) (Qn.ofZ 1 h1) (Zk (0,2) (Qn.ofZ 1 h2) [])):=by
 have:=(KP.nil.add (0,2) (Qn.ofZ 1 h2)).add (2,0) (Qn.ofZ 1 h1)
 have h:KP [((0,2),1),((2,0),1)] (Zk (2,0) (Qn.ofZ 1 h1) (Zk (0,2) (Qn.ofZ 1 h2) [])):=by simpa [Qn.ofZ_q,addK,Zk,kj] using this
 refine h.congr (Eqv.perm (List.Perm.swap _ _ _)) fun k hk=>?_
 simp[sqP] at hk ⊢
 exact hk.symm
theorem fk_9 {listed:Array Bool} (hs:listed.size=9) (h0:listed.getD 0 false=true) (h2:listed.getD 2 false=true) (h3:listed.getD 3 false=false) (h4:listed.getD 4 false=true) (h5:listed.getD 5 false=true) (h6:listed.getD 6 true=false)
  (h7:listed.getD 7 false=true->listed.getD 3 false=true) (h8:listed.getD 8 false=true->listed.getD 7 false=true):∃ b,listed= #[true,b,true,false,true,true,false,false,false]:=by
 obtain⟨l⟩:=listed
 match l,hs with
 | [a0,a1,a2,a3,a4,a5,a6,a7,a8],_=>
  simp at h0 h2 h3 h4 h5 h6 h7 h8
  subst h0 h2 h3 h4 h5 h6
  refine⟨a1,?_⟩
  cases a7
  ·cases a8
   ·rfl
   simp at h8
  simp at h7
abbrev es103:List Ef:=[⟨some 10,.mref 20,[(20,kO eP ([]:List (KI×Qn)))],[]⟩,⟨some 11,.pv (.agg [pI 2,pI 0]),[],[]⟩,⟨some 12,.pv (eP (Qn.ofZ 1 bj)),[],[]⟩,⟨none,.dead,[(20,kO eP (Zk (2,0) (Qn.ofZ 1 bj) []))],[20]⟩,
 ⟨some 13,.pv (.agg [pI 0,pI 2]),[],[]⟩,⟨some 14,.pv (eP (Qn.ofZ 1 bj)),[],[]⟩,⟨none,.dead,[(20,kO eP (Zk (0,2) (Qn.ofZ 1 bj) (Zk (2,0) (Qn.ofZ 1 bj) [])))],[20]⟩,⟨some 15,.mref 20,[],[]⟩,⟨some 5,.mref 20,[],[]⟩]
theorem kp_c {v:Qn} (h:v.q=c):KP (powP c 0) (Zk (0,0) v []):=by
 have:=KP.nil.add (0,0) v
 rw[h] at this
 exact this
theorem ra_d (hn:RaN n k) (hi:i<=Int.toNat ((n-k) / 2+1)) (h:(i:Int)<(n-k) / 2+1):jE (i:Int)*jE ((n+k) / 2-(i:Int))*jE ((n-k) / 2-(i:Int))≠0:=by
 unfold RaN at hn
 have h1:=fac_p (z:=(i:Int)) aa
 have h2:=fac_p (z:=(n+k) / 2-(i:Int)) aa
 have h3:=fac_p (z:=(n-k) / 2-(i:Int)) aa
 exact Int.mul_ne_zero (Int.mul_ne_zero aa aa) aa
theorem ra_o (hn:RaN n k) (hI:i<=Int.toNat ((n-k) / 2+1)/\false=decide (i%2=0)) (h:(i:Int)<(n-k) / 2+1):(Qn.neg (mkQ (jE (n-(i:Int))) (jE (i:Int)*jE ((n+k) / 2-(i:Int))*jE ((n-k) / 2-(i:Int))))).q=crR n k (i:Int):=by
 have h2:¬i%2=0:=of_decide_eq_false hI.2.symm
 rw[Qn.neg_q,ofR_q,crR,if_pos aa]
 grind
theorem ra_e (hn:RaN n k) (hI:i<=Int.toNat ((n-k) / 2+1)/\true=decide (i%2=0)) (h:(i:Int)<(n-k) / 2+1):(mkQ (jE (n-(i:Int))) (jE (i:Int)*jE ((n+k) / 2-(i:Int))*jE ((n-k) / 2-(i:Int)))).q=crR n k (i:Int):=by
 have h2:i%2=0:=of_decide_eq_true hI.2.symm
 rw[ofR_q,crR,if_neg aa]
 grind
theorem ra_od (h:false=decide (i%2=0)):(i:Int)%2=1:=by have:=of_decide_eq_false h.symm;omega
theorem ra_ev (h:true=decide (i%2=0)):¬(i:Int)%2=1:=by have:=of_decide_eq_true h.symm;omega
theorem ra_bf (h:false=decide (i%2=0)):true=decide ((i+1)%2=0):=by have:=of_decide_eq_false h.symm;exact (zl aa).symm
theorem ra_bt (h:true=decide (i%2=0)):false=decide ((i+1)%2=0):=by have:=of_decide_eq_true h.symm;exact (zk aa).symm
theorem pw_key:∀ {j:Nat} {a:KI},a∈(powP c j).map (·.1)->0<=a.1/\0<=a.2/\a.1+a.2=2*(j:Int)
 | 0,a,h=>by simp[powP] at h;subst h;simp
 | j+1,a,h=>by
  obtain⟨x,hx,y,hy,rfl⟩:=prods_keys.1 h
  have:=pw_key hx
  simp[sqP] at hy
  rcases hy with rfl|rfl<;>(unfold kadd;simp only;omega)
theorem pw_len:∀ (j:Nat),(powP c j).length=2 ^ j
 | 0=>rfl
 | j+1=>by rw[powP,prods_len,pw_len j,Nat.pow_succ];rfl
theorem ra_j (hn:RaN n k) (hj:j<=Int.toNat ((n-k) / 2-(i:Int))):j<=4:=by unfold RaN at hn;omega
theorem dc {p:Prop} [Decidable p] (h:decide p=true):p:=of_decide_eq_true h
theorem cr_f:∀ n,n<9->∀ k,k<n+1->∀ s,s<(n-k) / 2+1->(n-k)%2=0->(crR ((n:Nat):Int) ((k:Nat):Int) ((s:Nat):Int)).den=1/\(crR ((n:Nat):Int) ((k:Nat):Int) ((s:Nat):Int)).num.natAbs*2 ^ ((n-k) / 2-s)<=2000:=dc ae
theorem sq_nb:NB sqP 2:=(dc ae:NbD sqP 2).nb
theorem pw_nb {C:Nat} (h:NB [((0,0),c)] C):∀ j,NB (powP c j) (C*2 ^ j)
 | 0=>by rw[Nat.pow_zero,Nat.mul_one];exact h
 | j+1=>by rw[Nat.pow_succ,<-Nat.mul_assoc];exact (pw_nb h j).qO sq_nb
theorem pw_N (hn:RaN n k) (hi:(i:Int)<(n-k) / 2+1) (hj:j<=Int.toNat ((n-k) / 2-(i:Int))):NB (powP (crR n k (i:Int)) j) 2000:=by
 obtain⟨h1,h2,h3,h4⟩:=hn
 obtain⟨a,rfl⟩:=Int.eq_ofNat_of_zero_le (Int.le_trans h1 h2)
 obtain⟨b,rfl⟩:=Int.eq_ofNat_of_zero_le h1
 have g:=cr_f a aa b aa i aa aa
 refine (pw_nb (C:=(crR (a:Int) (b:Int) (i:Int)).num.natAbs) (NB.of (fun p hp=>by rw[zg.1 hp];exact g.1) ao) j).le (qh (Nat.mul_le_mul_left _ (Nat.pow_le_pow_right ah aa)) g.2)
theorem ra_k (hn:RaN n k) (hj:j<=Int.toNat ((n-k) / 2-(i:Int))):KB (powP (crR n k (i:Int)) j)/\KB sqP:=by
 have h4:=ra_j hn hj
 refine⟨fun a ha=>?_,fun a ha=>?_⟩
 ·have:=pw_key ha;omega
 simp[sqP] at ha;rcases ha with rfl|rfl<;>decide
theorem ra_m (hn:RaN n k) (hj:j<=Int.toNat ((n-k) / 2-(i:Int))) (hi:(i:Int)<(n-k) / 2+1):TiZ (powP (crR n k (i:Int)) j) sqP:=⟨_,_,pw_N hn hi hj,sq_nb,ah,ah,ah⟩
theorem rad_N (hn:RaN n k):∀ i,i<=Int.toNat ((n-k) / 2+1)->NB (radP n k i) (2000*i)
 | 0,_=>NB.nil
 | i+1,h=>by rw[Nat.mul_succ];exact (rad_N hn i aa).app ((pw_N hn cD (zC _)).sc (.inl Z))
theorem ra_z (hn:RaN n k) (hi:i<=Int.toNat ((n-k) / 2+1)) (hj:j<=Int.toNat ((n-k) / 2-(i:Int))) (hl:(i:Int)<(n-k) / 2+1) {h1:R64 1}:PlZ (radP n k i) (powP (crR n k (i:Int)) j) (Qn.q (Qn.ofZ 1 h1)):=⟨_,_,rad_N hn i hi,pw_N hn hl hj,by unfold RaN at hn;omega,.inl rfl⟩
theorem ra_s (hx:¬(j:Int)<(n-k) / 2-(i:Int)) (hj:j<=Int.toNat ((n-k) / 2-(i:Int))) {h1:R64 1}:radP n k i++scl (Qn.q (Qn.ofZ 1 h1)) (powP (crR n k (i:Int)) j)=radP n k (i+1):=by
 have:j=Int.toNat ((n-k) / 2-(i:Int)):=aa
 rw[Qn.ofZ_q,radP,this];rfl
theorem ra_leaf {p:Prop} (hx:¬(i:Int)<(n-k) / 2+1) (hn:RaN n k) (hI:i<=Int.toNat ((n-k) / 2+1)/\b=decide (i%2=0)) (he:e=decide (((n-k) / 2+1)%2=0)) (h:e=b->i=Int.toNat ((n-k) / 2+1)->p):p:=by
 unfold RaN at hn
 refine h ?_ aa
 rw[he,hI.2]
 exact decide_eq_decide.2 aa
end
theorem un242:tab.underlying 242=some (.array 9 3):=ae
theorem w103' (hf:FacLaid) (n k:Int) (e:Bool) (hn:RaN n k) (he:e=decide (((n-k) / 2+1)%2=0)):qD Tryz.prog 103 [vI n,vI k] (qw []) (.mref (bif e then 26 else 88)) [((bif e then 26 else 88),(kR (radP n k (Int.toNat ((n-k) / 2+1)))))]:=by
 refine cL 10 [] qf103 Z (nB Z) Z Z (kc ?_)
 refine tk 1 Z ?_
 refine TK.fork mixed 3 6 (es:=es103) (s0:=⟨[(0,vI n),(1,vI k),(5,.mref 20)],[(20,kR sqP)]⟩) ah ae ⟨_,_,rfl,EfR.on Z (B.newK (enc:=eP) Z Z),_,_,rfl,EfR.on Z (B.run (val:=.pv (.agg [pI 2,pI 0])) (m:=[]) (rd:=[]) ae),_,_,rfl,EfR.on Z (B.call (w100 1 bj) Z Z Z),_,_,rfl,EfR.on Z (B.insK (enc:=eP) (l:=[]) (k:=(2,0)) (v:=(Qn.ofZ 1 bj)) kty Z Z Z Z),_,_,rfl,EfR.on Z (B.run (val:=.pv (.agg [pI 0,pI 2])) (m:=[]) (rd:=[]) ae),_,_,rfl,EfR.on Z (B.call (w100 1 bj) Z Z Z),_,_,rfl,EfR.on Z (B.insK (enc:=eP) (l:=[((2,0),(Qn.ofZ 1 bj))]) (k:=(0,2)) (v:=(Qn.ofZ 1 bj)) kty Z Z Z Z),_,_,rfl,EfR.on Z (B.run Z),_,_,rfl,EfR.on Z (B.run Z),rfl⟩ ae (Wk.trans (wk_shutK (h:=20) Z (fun kv e=>⟨_,kp_sq,e⟩)) (sb Z Z Z).wk) (fun listed hsz D hp hq=>?_) ?_
 · obtain⟨h6,ha⟩:=ready_after hq rfl
   have h5:listed.getD 5 false=true:=ha ⟨5,.data⟩ (.tail _ (.tail _ (.head _))) rfl
   obtain⟨b,rfl⟩:=fk_9 hsz (ha ⟨0,.data⟩ (.head _) rfl) (D 5 _ h5 rfl ⟨2,_⟩ (.head _) rfl) hp (ha ⟨4,.data⟩ (.tail _ (.head _)) rfl) h5 h6 (fun h=>D 7 _ h rfl ⟨3,.data⟩ (.tail _ (.tail _ (.tail _ (.head _)))) rfl) (fun h=>D 8 _ h rfl ⟨7,.data⟩ (.head _) rfl)
   cases b
   · exact⟨_,_,[1,3,7,8],_,rfl,rfl,rfl,EfR.on Z (B.insK (enc:=eP) (l:=[]) (k:=(0,2)) (v:=(Qn.ofZ 1 bj)) kty Z Z Z Z),⟨_,_,rfl,EfR.on Z (B.run (val:=.pv (.agg [pI 2,pI 0])) (m:=[]) (rd:=[]) ae),_,_,rfl,EfR.on Z (B.insK (enc:=eP) (l:=[((0,2),(Qn.ofZ 1 bj))]) (k:=(2,0)) (v:=(Qn.ofZ 1 bj)) kty Z Z Z Z),_,_,rfl,EfR.on Z (B.run Z),_,_,rfl,EfR.on Z (B.run Z),rfl⟩,rfl,rfl,ae,Wk.trans (wk_shutK (h:=20) Z (fun kv e=>⟨_,kp_sq2,e⟩)) (sb Z Z Z).wk⟩
   · exact⟨_,_,[3,7,8],_,rfl,rfl,rfl,EfR.on Z (B.insK (enc:=eP) (l:=[]) (k:=(0,2)) (v:=(Qn.ofZ 1 bj)) kty Z Z Z Z),⟨_,_,rfl,EfR.on Z (B.insK (enc:=eP) (l:=[((0,2),(Qn.ofZ 1 bj))]) (k:=(2,0)) (v:=(Qn.ofZ 1 bj)) kty Z Z Z Z),_,_,rfl,EfR.on Z (B.run Z),_,_,rfl,EfR.on Z (B.run Z),rfl⟩,rfl,rfl,ae,Wk.trans (wk_shutK (h:=20) Z (fun kv e=>⟨_,kp_sq2,e⟩)) (sb Z Z Z).wk⟩
 refine pc (E Z (B.newK (enc:=eP) Z Z) ?_)
 refine tk 3 Z ?_
 refine TK.shutK (h:=26) (R':=fun kv=>∃ m,KP (radP n k 0) m/\kv=kvO eP m) Z (fun kv e=>⟨_,KP.nil,e⟩) ?_
 refine kc (E Z (B.sub Z Z cE) (E Z (B.quoN Z Z cD ah cE) (E Z (B.add Z Z cE) (l2 (fun (i:Nat) (b:Bool)=>[(0,vI n),(1,vI k),(5,.mref 20),(6,.mref (bif b then 26 else 88)),(21,vI (((n-k) / 2)+1)),(22,vI ((i:Nat):Int))]) (fun i b=>[(20,(kR sqP)),((bif b then 26 else 88),(kR (radP n k i)))]) (fun i b=>i<=Int.toNat ((n-k) / 2+1)/\b=decide (i%2=0)) (fun i _=>Int.toNat ((n-k) / 2+1)-i) 0 true Z ?_ (sb Z Z Z) ?_))))
 · exact⟨zw _,rfl⟩
 intro i b hI0
 cases b
 ·refine Cp Z Z (fun h1=>?_) (fun h1=>?_)
  ·refine E Z (B.sub Z Z cE) (E Z (B.idxG (n:=Int.toNat (n-((i:Nat):Int))) un242 Z Z ah cD cD) (E Z (B.loadF hf (m:=(n-((i:Nat):Int))) Z Z cD) (C Z (w177 (jE (n-((i:Nat):Int)))) Z Z Z (E Z (B.idxG (n:=Int.toNat ((i:Nat):Int)) un242 Z Z ah cD cD) (E Z (B.loadF hf (m:=((i:Nat):Int)) Z Z cD) (E Z (B.add Z Z cE) (E Z (B.quoN Z Z cD ah cE) (E Z (B.sub Z Z cE) (E Z (B.idxG (n:=Int.toNat (((n+k) / 2)-((i:Nat):Int))) un242 Z Z ah cD cD) (E Z (B.loadF hf (m:=(((n+k) / 2)-((i:Nat):Int))) Z Z cD) (E Z (B.mul Z Z cE) (E Z (B.sub Z Z cE) (E Z (B.quoN Z Z cD ah cE) ?_)))))))))))))
   refine E Z (B.sub Z Z cE) (E Z (B.idxG (n:=Int.toNat (((n-k) / 2)-((i:Nat):Int))) un242 Z Z ah cD cD) (E Z (B.loadF hf (m:=(((n-k) / 2)-((i:Nat):Int))) Z Z cD) (E Z (B.mul Z Z cE) (C Z (w177 (((jE ((i:Nat):Int))*(jE (((n+k) / 2)-((i:Nat):Int))))*(jE (((n-k) / 2)-((i:Nat):Int))))) Z Z Z (C Z (w179z (jE (n-((i:Nat):Int))) (((jE ((i:Nat):Int))*(jE (((n+k) / 2)-((i:Nat):Int))))*(jE (((n-k) / 2)-((i:Nat):Int)))) (ra_s1 _) (ra_s3 _ _ _) (ra_d hn hI0.1 ab)) Z Z Z (E Z (B.ja Z (fun l=>Frz.jU l Z) Z) (Dr Z ae (E Z (B.remN Z Z cD ah) (Cp Z Z (fun h2=>?_) (fun h2=>?_))))))))))
   ·refine C Z (w118 (mkQ (jE (n-((i:Nat):Int))) (((jE ((i:Nat):Int))*(jE (((n+k) / 2)-((i:Nat):Int))))*(jE (((n-k) / 2)-((i:Nat):Int))))) ra_n) Z Z Z (E Z (B.newK (enc:=eP) Z Z) (E Z (B.run (val:=.pv (.agg [pI 0,pI 0])) (m:=[]) (rd:=[]) ae) (E Z (B.insK (enc:=eP) (l:=[]) (k:=(0,0)) (v:=(Qn.neg (mkQ (jE (n-((i:Nat):Int))) (((jE ((i:Nat):Int))*(jE (((n+k) / 2)-((i:Nat):Int))))*(jE (((n-k) / 2)-((i:Nat):Int))))))) kty Z Z Z Z) ?_)))
    refine tk 10 Z ?_
    refine TK.shutK (h:=69) (R':=fun kv=>∃ m,KP (powP (crR n k ((i:Nat):Int)) 0) m/\kv=kvO eP m) Z (fun kv e=>⟨_,kp_c (ra_o hn hI0 ab),e⟩) ?_
    refine kc (E Z (B.sub Z Z cE) (E Z (B.quoN Z Z cD ah cE) (E Z (B.sub Z Z cE) (l2 (fun (j:Nat) (b2:Bool)=>[(0,vI n),(1,vI k),(5,.mref 20),(6,.mref 88),(9,.mref (bif b2 then 69 else 83)),(21,vI (((n-k) / 2)+1)),(22,vI ((i:Nat):Int)),(68,vI (((n-k) / 2)-((i:Nat):Int))),(69,vI ((j:Nat):Int))]) (fun j b2=>[(20,(kR sqP)),((bif b2 then 69 else 83),(kR (powP (crR n k ((i:Nat):Int)) j))),(88,(kR (radP n k i)))]) (fun j _=>j<=Int.toNat ((n-k) / 2-((i:Nat):Int))) (fun j _=>Int.toNat ((n-k) / 2-((i:Nat):Int))-j) 0 true Z ?_ (sb Z Z Z) ?_))))
    · exact zw _
    intro j b2 hI1
    cases b2
    ·refine Cp Z Z (fun h3=>?_) (fun h3=>?_)
     ·refine E Z (B.q6 (l:=[(83,(kR (powP (crR n k ((i:Nat):Int)) j))),(20,(kR sqP))]) (w101e (powP (crR n k ((i:Nat):Int)) j) sqP (powP (crR n k ((i:Nat):Int)) (j+1)) 83 20 69 ah ah ah (ra_k hn hI1).1 (ra_k hn hI1).2 (ra_m hn hI1 ab) Z) Z Z ⟨rfl,rfl,trivial⟩ rfl rfl) (E Z (B.add Z Z cE) (pk Z (L2 (j+1) true ?_ ?_ (sb Z Z Z))))
      · omega
      · omega
     refine C Z (w100 1 bj) Z Z Z (E Z (B.q6 (l:=[(88,(kR (radP n k i))),(83,(kR (powP (crR n k ((i:Nat):Int)) j)))]) (w102e (radP n k i) (powP (crR n k ((i:Nat):Int)) j) (radP n k (i+1)) (Qn.ofZ 1 bj) 88 83 26 ah ah ah (ra_z hn hI0.1 hI1 ab) (ra_s ab hI1)) Z Z ⟨rfl,rfl,trivial⟩ rfl rfl) (E Z (B.add Z Z cE) (pk Z (L2 (i+1) true ?_ ?_ (sb Z Z Z)))))
     · exact⟨aa,by first|exact ra_bf hI0.2|exact ra_bt hI0.2⟩
     · omega
    refine Cp Z Z (fun h4=>?_) (fun h4=>?_)
    ·refine E Z (B.q6 (l:=[(69,(kR (powP (crR n k ((i:Nat):Int)) j))),(20,(kR sqP))]) (w101e (powP (crR n k ((i:Nat):Int)) j) sqP (powP (crR n k ((i:Nat):Int)) (j+1)) 69 20 83 ah ah ah (ra_k hn hI1).1 (ra_k hn hI1).2 (ra_m hn hI1 ab) Z) Z Z ⟨rfl,rfl,trivial⟩ rfl rfl) (E Z (B.add Z Z cE) (pk Z (L2 (j+1) false ?_ ?_ (sb Z Z Z))))
     · omega
     · omega
    refine C Z (w100 1 bj) Z Z Z (E Z (B.q6 (l:=[(88,(kR (radP n k i))),(69,(kR (powP (crR n k ((i:Nat):Int)) j)))]) (w102e (radP n k i) (powP (crR n k ((i:Nat):Int)) j) (radP n k (i+1)) (Qn.ofZ 1 bj) 88 69 26 ah ah ah (ra_z hn hI0.1 hI1 ab) (ra_s ab hI1)) Z Z ⟨rfl,rfl,trivial⟩ rfl rfl) (E Z (B.add Z Z cE) (pk Z (L2 (i+1) true ?_ ?_ (sb Z Z Z)))))
    · exact⟨aa,by first|exact ra_bf hI0.2|exact ra_bt hI0.2⟩
    · omega
   exact absurd (ra_od hI0.2) h2
  refine Rt Z ?_
  exact ra_leaf ab hn hI0 he (fun e1 e2=>by subst e1;exact q5 (val0:=.mref 88) (out0:=[(88,(kR (radP n k i)))]) (.inr Z) ae Z (by rw[e2];rfl))
 refine Cp Z Z (fun h5=>?_) (fun h5=>?_)
 ·refine E Z (B.sub Z Z cE) (E Z (B.idxG (n:=Int.toNat (n-((i:Nat):Int))) un242 Z Z ah cD cD) (E Z (B.loadF hf (m:=(n-((i:Nat):Int))) Z Z cD) (C Z (w177 (jE (n-((i:Nat):Int)))) Z Z Z (E Z (B.idxG (n:=Int.toNat ((i:Nat):Int)) un242 Z Z ah cD cD) (E Z (B.loadF hf (m:=((i:Nat):Int)) Z Z cD) (E Z (B.add Z Z cE) (E Z (B.quoN Z Z cD ah cE) (E Z (B.sub Z Z cE) (E Z (B.idxG (n:=Int.toNat (((n+k) / 2)-((i:Nat):Int))) un242 Z Z ah cD cD) (E Z (B.loadF hf (m:=(((n+k) / 2)-((i:Nat):Int))) Z Z cD) (E Z (B.mul Z Z cE) (E Z (B.sub Z Z cE) (E Z (B.quoN Z Z cD ah cE) ?_)))))))))))))
  refine E Z (B.sub Z Z cE) (E Z (B.idxG (n:=Int.toNat (((n-k) / 2)-((i:Nat):Int))) un242 Z Z ah cD cD) (E Z (B.loadF hf (m:=(((n-k) / 2)-((i:Nat):Int))) Z Z cD) (E Z (B.mul Z Z cE) (C Z (w177 (((jE ((i:Nat):Int))*(jE (((n+k) / 2)-((i:Nat):Int))))*(jE (((n-k) / 2)-((i:Nat):Int))))) Z Z Z (C Z (w179z (jE (n-((i:Nat):Int))) (((jE ((i:Nat):Int))*(jE (((n+k) / 2)-((i:Nat):Int))))*(jE (((n-k) / 2)-((i:Nat):Int)))) (ra_s1 _) (ra_s3 _ _ _) (ra_d hn hI0.1 ab)) Z Z Z (E Z (B.ja Z (fun l=>Frz.jU l Z) Z) (Dr Z ae (E Z (B.remN Z Z cD ah) (Cp Z Z (fun h6=>?_) (fun h6=>?_))))))))))
  ·exact absurd h6 (ra_ev hI0.2)
  refine E Z (B.newK (enc:=eP) Z Z) (E Z (B.run (val:=.pv (.agg [pI 0,pI 0])) (m:=[]) (rd:=[]) ae) (E Z (B.insK (enc:=eP) (l:=[]) (k:=(0,0)) (v:=(mkQ (jE (n-((i:Nat):Int))) (((jE ((i:Nat):Int))*(jE (((n+k) / 2)-((i:Nat):Int))))*(jE (((n-k) / 2)-((i:Nat):Int)))))) kty Z Z Z Z) ?_))
  refine tk 10 Z ?_
  refine TK.shutK (h:=69) (R':=fun kv=>∃ m,KP (powP (crR n k ((i:Nat):Int)) 0) m/\kv=kvO eP m) Z (fun kv e=>⟨_,kp_c (ra_e hn hI0 ab),e⟩) ?_
  refine kc (E Z (B.sub Z Z cE) (E Z (B.quoN Z Z cD ah cE) (E Z (B.sub Z Z cE) (l2 (fun (j:Nat) (b2:Bool)=>[(0,vI n),(1,vI k),(5,.mref 20),(6,.mref 26),(9,.mref (bif b2 then 69 else 83)),(21,vI (((n-k) / 2)+1)),(22,vI ((i:Nat):Int)),(68,vI (((n-k) / 2)-((i:Nat):Int))),(69,vI ((j:Nat):Int))]) (fun j b2=>[(20,(kR sqP)),(26,(kR (radP n k i))),((bif b2 then 69 else 83),(kR (powP (crR n k ((i:Nat):Int)) j)))]) (fun j _=>j<=Int.toNat ((n-k) / 2-((i:Nat):Int))) (fun j _=>Int.toNat ((n-k) / 2-((i:Nat):Int))-j) 0 true Z ?_ (sb Z Z Z) ?_))))
  · exact zw _
  intro j b2 hI1
  cases b2
  ·refine Cp Z Z (fun h7=>?_) (fun h7=>?_)
   ·refine E Z (B.q6 (l:=[(83,(kR (powP (crR n k ((i:Nat):Int)) j))),(20,(kR sqP))]) (w101e (powP (crR n k ((i:Nat):Int)) j) sqP (powP (crR n k ((i:Nat):Int)) (j+1)) 83 20 69 ah ah ah (ra_k hn hI1).1 (ra_k hn hI1).2 (ra_m hn hI1 ab) Z) Z Z ⟨rfl,rfl,trivial⟩ rfl rfl) (E Z (B.add Z Z cE) (pk Z (L2 (j+1) true ?_ ?_ (sb Z Z Z))))
    · omega
    · omega
   refine C Z (w100 1 bj) Z Z Z (E Z (B.q6 (l:=[(26,(kR (radP n k i))),(83,(kR (powP (crR n k ((i:Nat):Int)) j)))]) (w102e (radP n k i) (powP (crR n k ((i:Nat):Int)) j) (radP n k (i+1)) (Qn.ofZ 1 bj) 26 83 88 ah ah ah (ra_z hn hI0.1 hI1 ab) (ra_s ab hI1)) Z Z ⟨rfl,rfl,trivial⟩ rfl rfl) (E Z (B.add Z Z cE) (pk Z (L2 (i+1) false ?_ ?_ (sb Z Z Z)))))
   · exact⟨aa,by first|exact ra_bf hI0.2|exact ra_bt hI0.2⟩
   · omega
  refine Cp Z Z (fun h8=>?_) (fun h8=>?_)
  ·refine E Z (B.q6 (l:=[(69,(kR (powP (crR n k ((i:Nat):Int)) j))),(20,(kR sqP))]) (w101e (powP (crR n k ((i:Nat):Int)) j) sqP (powP (crR n k ((i:Nat):Int)) (j+1)) 69 20 83 ah ah ah (ra_k hn hI1).1 (ra_k hn hI1).2 (ra_m hn hI1 ab) Z) Z Z ⟨rfl,rfl,trivial⟩ rfl rfl) (E Z (B.add Z Z cE) (pk Z (L2 (j+1) false ?_ ?_ (sb Z Z Z))))
   · omega
   · omega
  refine C Z (w100 1 bj) Z Z Z (E Z (B.q6 (l:=[(26,(kR (radP n k i))),(69,(kR (powP (crR n k ((i:Nat):Int)) j)))]) (w102e (radP n k i) (powP (crR n k ((i:Nat):Int)) j) (radP n k (i+1)) (Qn.ofZ 1 bj) 26 69 88 ah ah ah (ra_z hn hI0.1 hI1 ab) (ra_s ab hI1)) Z Z ⟨rfl,rfl,trivial⟩ rfl rfl) (E Z (B.add Z Z cE) (pk Z (L2 (i+1) false ?_ ?_ (sb Z Z Z)))))
  · exact⟨aa,by first|exact ra_bf hI0.2|exact ra_bt hI0.2⟩
  · omega
 refine Rt Z ?_
 exact ra_leaf ab hn hI0 he (fun e1 e2=>by subst e1;exact q5 (val0:=.mref 26) (out0:=[(26,(kR (radP n k i)))]) (.inr Z) ae Z (by rw[e2];rfl))
theorem w103 (hf:FacLaid) (n k:Int) (a:Nat) (hn:RaN n k):qD Tryz.prog 103 [vI n,vI k] (qw []) (.mref a) [(a,kR (radQ n k))]:=by
 have key:=w103' hf n k _ hn rfl
 generalize (bif decide (((n-k) / 2+1)%2=0) then 26 else 88)=x at key
 simpa [renM,DV.renL,DV.ren,MO.ren,r1_1,radQ] using key.r1 x a
end Go.Lens.Tb
end
section
namespace Go.Lens
variable [Lz]
section
variable {P:Program} {Y:Tab} [qM P Y] {nb:Nat} {s:St} {dst:Option Tmp} {ty u:TypeId} {pos:String} {af:Array Edge} {gd:Option (Nat×Bool)} {t:TypeId} {x y:Operand} {a b:Int}
theorem B.subW (hx:ev1 s x=lit (.int .i64 a)) (hy:ev1 s y=lit (.int .i64 b)):Body P Y nb s ⟨dst,.binOp .sub t x y u,ty,pos,af,gd⟩ (lit (.int .i64 (wr64 (a-b)))) [] []:=by
 refine .inr (km.of fun σ G a' w hv hl I=>?_)
 have hX:=hv x aY
 have hY:=hv y aY
 rw[hx] at hX;rw[hy] at hY
 have eX:=(qA hX).1
 have eY:=(qA hY).1
 refine⟨.int .i64 (wr64 (a-b)),w,G,.inl ?_,qH I.ctxS (qL Z) (fun k hk=>by simp[lit,DV.refs] at hk)⟩
 rw[<-wrap_i64]
 have hg:eqGuard .sub t x y (.int .i64 a) (.int .i64 b)=(Pure.pure ():Sem Unit):=by simp[eqGuard]
 simp only[execOp,qt,eX,eY,hg]
 simp[binOp,Op.intArith]
theorem B.idxB {h c n len:Nat} {m:Int} {e:TypeId} {o:MO} (ht:Y.underlying t=some (.array len e)) (hs:szT Y e=some 1) (hx:ev1 s x=.bref h c) (hm:qw s.ms h=some o) (hy:ev1 s y=lit (.int .i64 m)) (h1:1<len) (hn:m=(n:Int)) (hlt:n<len) :
  Body P Y nb s ⟨dst,.indexAddr t x y,ty,pos,af,gd⟩ (.bref h (c+n)) [] [h]:=by
 subst hn
 refine .inr (km.of fun σ G a w hv hl I=>?_)
 have hX:=hv x aY
 have hY:=hv y aY
 rw[hx] at hX;rw[hy] at hY
 have hY:=(qA hY).1
 have hlk:qw σ.ms h=some o:=by rw[hl h (.inl ao)];exact hm
 simp only[qx] at hX
 obtain⟨ha,b,hb,hX⟩:=hX
 have hrun:(Instr.indexAt t (.pointer (some ⟨b,c,none⟩)) (.int .i64 (n:Int))).run P w=.ok (.pointer (some ⟨b,c+n,none⟩)) w:=by
  have hl:¬len<=1:=aa
  simp only[Instr.indexAt,qt,asIntOf,qu,qI ht,qr,Instr.sureAddr,Int.natCast_nonneg,Int.ofNat_lt,hlt,and_self,qp,Sem.run_ite,qV hs,Addr.add_lit,hl,zU,Nat.mul_one]
 refine⟨.pointer (some ⟨b,c+n,none⟩),w,G,.inl ?_,qH I.ctxS ?_ (fun k hk=>?_)⟩
 ·simp only[execOp,hX,hY,qt,hrun,qr,qu]
 ·simp only[qx];exact⟨ha,b,hb,rfl⟩
 simp[DV.refs] at hk;subst hk;exact⟨o,hlk⟩
theorem B.jN {h c k:Nat} {T:TypeId} {ds:List DV} (hx:ev1 s x=.bref h c) (hm:qw s.ms h=some (.box T ds)) (ha:aggT Y t=some false) (hs:szT Y t=some 1) (hd:ds[c]? =some (.mref k)) :
  Body P Y nb s ⟨dst,.load t x,ty,pos,af,gd⟩ (.mref k) [] [h]:=by
 refine .inr (km.of fun σ G a w hv hl I=>?_)
 have hX:=hv x aY
 rw[hx] at hX
 have hlk:qw σ.ms h=some (.box T ds):=by rw[hl h (.inl ao)];exact hm
 have hcl:=(List.getElem?_eq_some_iff.1 hd).1
 have hq:Zh Y t (qw σ.ms) (.bref h c)=some (true,.mref k):=by
  unfold Zh
  simp[ha,hs,hlk,hcl,(List.getElem?_eq_some_iff.1 hd).2]
 obtain⟨r,h1,h2⟩:=kX (P:=P) I.ctxS.sees hq hX
 refine⟨r,w,G,.inl ?_,qH I.ctxS h2 (fun j hj=>?_)⟩
 ·simp only[execOp,qt,h1,qr,qu]
 refine I.refsM h _ j hlk ?_
 have hk:(DV.mref k)∈ds:=List.mem_of_getElem? hd
 have:∀ (l:List DV),DV.mref k∈l->∀ j∈(DV.mref k).refs,j∈DV.qP l:=by
  intro l
  induction l with
  | nil=>intro h;cases h
  | cons d l ih=>
   intro h j hj
   rcases zG.1 h with rfl|h
   ·simp[DV.qP];exact .inl hj
   simp[DV.qP];exact .inr (ih h j hj)
 exact this ds hk j hj
end
end Go.Lens
end
section
namespace Go.Lens.Tb
open Go.Proofs Go.Lens.Un
variable [Lz] [Dn]
set_option maxRecDepth 100000
attribute [local irreducible] TK PK T RG EfR Body CG
section
variable [Fc] {n nb:Nat} {Q:Exit->St->Prop} {K:List Fr} {c:Cg} {ops:Array Oper} {dr:Bool} {os:List Oper} {tm:List (Nat×DV)} {ms m:List (Nat×MO)} {acc:List Ef} {dst:Option Tmp} {op:Op} {ty:TypeId} {pos:String} {af:Array Edge} {val:DV} {rd:List Nat}
theorem EK (k:Nat) (e:go n nb 9999 k c=.r ops dr (⟨dst,op,ty,pos,af,none⟩::os) tm ms acc K) (h:Body Tryz.prog tab nb ⟨tm,ms⟩ ⟨dst,op,ty,pos,af,none⟩ val m rd) (kk:CG n nb Q (nx ops dr os tm dst val m ms rd acc K)):CG n nb Q c:=
 go_ok (k:=k) (by rw[e];unfold CG;exact RO h (nx_ok kk))
end
abbrev zX:PL:=[((1,0),1)]
abbrev zY:PL:=[((0,1),1)]
def zPw:Nat->PL×PL
 | 0=>([((0,0),1)],[])
 | j+1=>(qO (zPw j).1 zX++scl ((-1:Int):Rat) (qO (zPw j).2 zY),qO (zPw j).1 zY++scl ((1:Int):Rat) (qO (zPw j).2 zX))
def zeE (n m:Int):Int:=if qF n 0 8≠0 then qF n 0 8 else qB [qF m (0-n) n,qR (decide (Int.tmod (wr64 (n-m)) 2≠0)) 18]
def zeP (n m:Int):PL:=qO (radQ n (max m (0-m))) (if m<0 then (zPw (Int.toNat (max m (0-m)))).2 else (zPw (Int.toNat (max m (0-m)))).1)
section
variable {n m:Int} {j:Nat} {d:Int} {α:Type} {l:List α} {A B:PL}
theorem kp_k {k:KI} {h:R64 1}:KP [(k,1)] (Zk k (Qn.ofZ 1 h) []):=by
 have:=KP.nil.add k (Qn.ofZ 1 h)
 rw[Qn.ofZ_q] at this
 exact this
theorem ze_b0 (h:¬qF n 0 8≠0):0<=n/\n<=8:=wi_0.1 (zi.1 h)
theorem ze_b (h:¬qF n 0 8≠0) (h2:¬qB [qF m (0-n) n,qR (decide (Int.tmod (wr64 (n-m)) 2≠0)) 18]≠0):0<=n/\n<=8/\ -n<=m/\m<=n/\(n-m)%2=0:=by
 have hb:=ze_b0 h
 have h3:=zi.1 h2
 rw[kL,kL,wi_0,wh_0 ah,zH] at h3
 obtain⟨h3,h4,_⟩:=h3
 have h4:=zi.1 h4
 have e:wr64 (n-m)=n-m:=by unfold wr64;omega
 rw[e,Int.tmod_eq_emod_of_nonneg aa] at h4
 omega
theorem ze_n (h:¬qF n 0 8≠0) (h2:¬qB [qF m (0-n) n,qR (decide (Int.tmod (wr64 (n-m)) 2≠0)) 18]≠0):RaN n (max m (0-m)):=by
 have:=ze_b h h2
 unfold RaN
 omega
theorem ze_s1 {h:R64 (-1)}:qO (zPw j).1 zX++scl (Qn.q (Qn.ofZ (-1) h)) (qO (zPw j).2 zY)=(zPw (j+1)).1:=by rw[Qn.ofZ_q];rfl
theorem ze_s2 {h:R64 1}:qO (zPw j).1 zY++scl (Qn.q (Qn.ofZ 1 h)) (qO (zPw j).2 zX)=(zPw (j+1)).2:=by rw[Qn.ofZ_q];rfl
def ZI (j N:Nat) (A:PL):Prop:=A.length<=N/\(∀ a∈A.map (·.1),0<=a.1/\0<=a.2/\a.1+a.2=(j:Int))/\NB A N
theorem nb_k {k:KI}:NB [(k,1)] 1:=NB.of (fun p hp=>by rw[zg.1 hp];rfl) ao
theorem ZI.pr {N:Nat} {k:KI} (h:ZI j N A) (hk:0<=k.1/\0<=k.2/\k.1+k.2=1):ZI (j+1) N (qO A [(k,1)]):=by
 obtain⟨h1,h2,h3⟩:=h
 refine⟨by rw[prods_len];simpa using h1,fun a ha=>?_,by have:=h3.qO (nb_k (k:=k));rwa [Nat.mul_one] at this⟩
 obtain⟨x,hx,y,hy,rfl⟩:=prods_keys.1 ha
 have:=h2 x hx
 simp at hy;subst hy
 unfold kadd;simp only;omega
theorem ZI.ap {N M:Nat} {b:Rat} (h:ZI j N A) (g:ZI j M B) (hb:b=1\/b= -1):ZI j (N+M) (A++scl b B):=by
 obtain⟨h1,h2,h3⟩:=h
 obtain⟨g1,g2,g3⟩:=g
 refine⟨by rw[za];simp only[scl,zJ];omega,fun a ha=>?_,h3.app (g3.sc hb)⟩
 rw[qc,zI,scl_keys] at ha
 exact ha.elim (h2 a) (g2 a)
theorem rm1:((-1:Int):Rat)= -1:=rfl
theorem zPw_i:∀ j,ZI j (2 ^ j) (zPw j).1/\ZI j (2 ^ j) (zPw j).2
 | 0=>⟨⟨zC _,fun a ha=>by simp[zPw] at ha;subst ha;simp,nb_k⟩,⟨zw _,fun a ha=>(by cases ha),NB.nil.le (zw _)⟩⟩
 | j+1=>by
  obtain⟨h1,h2⟩:=zPw_i j
  rw[Nat.pow_succ,Nat.mul_two]
  exact⟨(h1.pr (k:=(1,0)) ah).ap (h2.pr (k:=(0,1)) ah) (.inr rm1),(h1.pr (k:=(0,1)) ah).ap (h2.pr (k:=(1,0)) ah) (.inl Z)⟩
theorem ZI.KB {N:Nat} (h:ZI j N A) (hj:j<=16):KB A:=fun k hk=>by have:=h.2.1 k hk;omega
def ZC (A B:PL):Prop:=KB A/\KB B/\TiZ A B
theorem p256 (hj:j<=8):2 ^ j<=256:=Nat.pow_le_pow_right (n:=2) ah hj
theorem ZI.C {k:KI} (h:ZI j (2 ^ j) A) (hj:j<=7) (hk:0<=k.1/\0<=k.2/\k.1+k.2=1):ZC A [(k,1)]:=
 ⟨h.KB aa,fun a ha=>by simp at ha;subst ha;omega,_,_,h.2.2.le (p256 aa),nb_k,ah,ah,ah⟩
theorem ze_k (hj:j<8):ZC (zPw j).1 zX/\ZC (zPw j).2 zY/\ZC (zPw j).1 zY/\ZC (zPw j).2 zX:=by
 obtain⟨h1,h2⟩:=zPw_i j
 exact⟨h1.C aa ah,h2.C aa ah,h1.C aa ah,h2.C aa ah⟩
theorem ze_p (hj:j<8) {h1:R64 (-1)} {h2:R64 1}:PlZ (qO (zPw j).1 zX) (qO (zPw j).2 zY) (Qn.q (Qn.ofZ (-1) h1))/\PlZ (qO (zPw j).1 zY) (qO (zPw j).2 zX) (Qn.q (Qn.ofZ 1 h2)):=by
 obtain⟨a1,a2⟩:=zPw_i j
 have:=p256 (j:=j) aa
 exact⟨⟨_,_,(a1.pr ah).2.2,(a2.pr ah).2.2,aa,.inr rm1⟩,⟨_,_,(a1.pr ah).2.2,(a2.pr ah).2.2,aa,.inl rfl⟩⟩
theorem rad_i {k:Int} (hn:RaN n k):∀ i,i<=Int.toNat ((n-k) / 2+1)->(radP n k i).length<=16*i/\(∀ a∈(radP n k i).map (·.1),0<=a.1/\0<=a.2/\a.1+a.2<=n-k)
 | 0,_=>⟨by simp[radP],fun a ha=>by simp[radP] at ha⟩
 | i+1,hi=>by
  obtain⟨h1,h2⟩:=rad_i hn i aa
  have h4:=pw_len (c:=crR n k (i:Int)) (Int.toNat ((n-k) / 2-(i:Int)))
  rw[radP]
  refine⟨?_,fun a ha=>?_⟩
  ·rw[za]
   simp only[scl,zJ]
   rw[h4]
   have:2 ^ Int.toNat ((n-k) / 2-(i:Int))<=2 ^ 4:=Nat.pow_le_pow_right ah cD
   omega
  rw[qc,zI,scl_keys] at ha
  rcases ha with ha|ha
  ·exact h2 a ha
  have:=pw_key ha;unfold RaN at hn;omega
theorem rad_f {k:Int} (hn:RaN n k):(radQ n k).length<=80/\(∀ a∈(radQ n k).map (·.1),0<=a.1/\0<=a.2/\a.1+a.2<=n-k)/\NB (radQ n k) 10000:=by
 obtain⟨h1,h2⟩:=rad_i hn _ (zC _)
 have h3:=rad_N hn _ (zC _)
 unfold RaN at hn
 exact⟨qh h1 aa,h2,h3.le aa⟩
theorem zP_A (h:A=(zPw j).1\/A=(zPw j).2):ZI j (2 ^ j) A:=by rcases h with rfl|rfl;exact (zPw_i j).1;exact (zPw_i j).2
theorem ze_f (h:¬qF n 0 8≠0) (h2:¬qB [qF m (0-n) n,qR (decide (Int.tmod (wr64 (n-m)) 2≠0)) 18]≠0) (hj:j=Int.toNat (max m (0-m))) (hA:A=(zPw j).1\/A=(zPw j).2):ZC (radQ n (max m (0-m))) A:=by
 have hn:=ze_n h h2
 have hA:=zP_A hA
 have h8:j<=8:=by unfold RaN at hn;omega
 exact⟨fun k hk=>by have:=(rad_f hn).2.1 k hk;unfold RaN at hn;omega,hA.KB aa,_,_,(rad_f hn).2.2,hA.2.2.le (p256 h8),ah,ah,ah⟩
theorem ze_o (h:¬qF n 0 8≠0) (h2:¬qB [qF m (0-n) n,qR (decide (Int.tmod (wr64 (n-m)) 2≠0)) 18]≠0) (hj:j=Int.toNat (max m (0-m))) (hA:A=(zPw j).1\/A=(zPw j).2):OkP (qO (radQ n (max m (0-m))) A):=by
 have hn:=ze_n h h2
 have hA:=zP_A hA
 have h8:j<=8:=by unfold RaN at hn;omega
 refine⟨fun k hk=>?_,?_,((rad_f hn).2.2.qO (hA.2.2.le (p256 h8))).le ah⟩
 ·obtain⟨a,ha,b,hb,rfl⟩:=prods_keys.1 hk
  have:=(rad_f hn).2.1 a ha
  have:=hA.2.1 b hb
  unfold RaN at hn
  unfold kadd;simp only;omega
 rw[prods_len]
 exact qh (Nat.mul_le_mul (rad_f hn).1 (qh hA.1 (p256 h8))) ah
theorem ze_1 (h:qF n 0 8≠0):[]=erL (zeE n m) l:=by
 have:zeE n m=qF n 0 8:=by unfold zeE;rw[if_pos h]
 rw[this];exact er_1 h
theorem ze_2 (h:qF n 0 8≠0):qF n 0 8=erE (zeE n m) d:=by
 have:zeE n m=qF n 0 8:=by unfold zeE;rw[if_pos h]
 rw[this];exact er_2 h
theorem ze_e (h:¬qF n 0 8≠0):zeE n m=qB [qF m (0-n) n,qR (decide (Int.tmod (wr64 (n-m)) 2≠0)) 18]:=by unfold zeE;rw[if_neg h]
theorem ze_3 (h:¬qF n 0 8≠0) (h2:qB [qF m (0-n) n,qR (decide (Int.tmod (wr64 (n-m)) 2≠0)) 18]≠0):[]=erL (zeE n m) l:=by rw[ze_e h];exact er_1 h2
theorem ze_4 (h:¬qF n 0 8≠0) (h2:qB [qF m (0-n) n,qR (decide (Int.tmod (wr64 (n-m)) 2≠0)) 18]≠0):qB [qF m (0-n) n,qR (decide (Int.tmod (wr64 (n-m)) 2≠0)) 18]=erE (zeE n m) d:=by rw[ze_e h];exact er_2 h2
theorem ze_q (hj:j=Int.toNat (max m (0-m))) (hA:(m<0/\A=(zPw j).2)\/(¬m<0/\A=(zPw j).1)):qO (radQ n (max m (0-m))) A=zeP n m:=by
 subst hj
 unfold zeP
 rcases hA with ⟨h,rfl⟩|⟨h,rfl⟩
 ·rw[if_pos h]
 rw[if_neg h]
theorem ze_5 (h:¬qF n 0 8≠0) (h2:¬qB [qF m (0-n) n,qR (decide (Int.tmod (wr64 (n-m)) 2≠0)) 18]≠0) (hj:j=Int.toNat (max m (0-m))) (hA:(m<0/\A=(zPw j).2)\/(¬m<0/\A=(zPw j).1)):polT (qO (radQ n (max m (0-m))) A)=erL (zeE n m) (polT (zeP n m)):=by
 rw[ze_q hj hA,ze_e h];exact er_3 h2
theorem ze_6 (h:¬qF n 0 8≠0) (h2:¬qB [qF m (0-n) n,qR (decide (Int.tmod (wr64 (n-m)) 2≠0)) 18]≠0) (hj:j=Int.toNat (max m (0-m))) (hA:(m<0/\A=(zPw j).2)\/(¬m<0/\A=(zPw j).1)):polE (qO (radQ n (max m (0-m))) A)=erE (zeE n m) (polE (zeP n m)):=by
 rw[ze_q hj hA,ze_e h];exact er_4 h2
end
theorem un160:tab.underlying 160=some (.array 2 159):=ae
theorem w16 (hp:qX) (hf:FacLaid) (n m:Int):CKa 16 [vI n,vI m] (.tup [vL eY (erL (zeE n m) (polT (zeP n m))),vI (erE (zeE n m) (polE (zeP n m)))]):=by
 refine cL 10 [] qf16 Z (nB Z) Z Z (kc (E Z (B.kg (enc:=eY) Z) (C Z (w97 n 0 8) Z Z Z (Cp Z Z (fun h1=>?_) (fun h1=>?_)))))
 ·refine E Z (B.kg (enc:=eY) Z) ?_
  refine Rt Z ?_
  exact q5 (val0:=.tup [vL eY [],vI (qF n 0 8)]) (out0:=[]) (.inr Z) ae dQ rfl
 refine E Z (B.neg Z cH) (C Z (w97 m (0-n) n) Z Z Z (E Z (B.subW Z Z) (E Z (B.rem Z Z aa) (C Z (w99 (decide ((Int.tmod (wr64 (n-m)) 2)≠0)) 18) Z Z Z (E Z (B.ja (val:=.pv (.slice (List.map eI [(qF m (0-n) n),(qR (decide ((Int.tmod (wr64 (n-m)) 2)≠0)) 18)]))) (val0:=.aref 39 0) (m0:=[(39,.arr 0 1 24 [[pI (qF m (0-n) n)],[pI (qR (decide ((Int.tmod (wr64 (n-m)) 2)≠0)) 18)]])]) (rd:=[]) ae (fun l=>Frz.arr l _ _ _ _ _) Z) (C Z (w98 [(qF m (0-n) n),(qR (decide ((Int.tmod (wr64 (n-m)) 2)≠0)) 18)] (nB Z)) Z Z Z (Cp Z Z (fun h2=>?_) (fun h2=>?_))))))))
 ·refine E Z (B.kg (enc:=eY) Z) ?_
  refine Rt Z ?_
  exact q5 (val0:=.tup [vL eY [],vI (qB [(qF m (0-n) n),(qR (decide ((Int.tmod (wr64 (n-m)) 2)≠0)) 18)])]) (out0:=[]) (.inr Z) ae dQ rfl
 refine E Z (B.neg Z cH) (E Z (B.max Z Z) (E Z (B.newK (enc:=eP) Z Z) (E Z (B.run (val:=.pv (.agg [pI 1,pI 0])) (m:=[]) (rd:=[]) ae) (C Z (w100 1 bj) Z Z Z (E Z (B.insK (enc:=eP) (l:=[]) (k:=(1,0)) (v:=(Qn.ofZ (1) bj)) kty Z Z Z Z) (E Z (B.newK (enc:=eP) Z Z) (E Z (B.run (val:=.pv (.agg [pI 0,pI 1])) (m:=[]) (rd:=[]) ae) (C Z (w100 1 bj) Z Z Z (E Z (B.insK (enc:=eP) (l:=[]) (k:=(0,1)) (v:=(Qn.ofZ (1) bj)) kty Z Z Z Z) (Dr Z ae ?_))))))))))
 refine tk 9 Z ?_
 refine TK.shutK (h:=48) (R':=fun kv=>∃ m,KP zX m/\kv=kvO eP m) Z (fun kv e=>⟨_,kp_k,e⟩) ?_
 refine TK.shutK (h:=52) (R':=fun kv=>∃ m,KP zY m/\kv=kvO eP m) Z (fun kv e=>⟨_,kp_k,e⟩) ?_
 refine kc (E Z (B.newK (enc:=eP) Z Z) (E Z (B.run (val:=.pv (.agg [pI 0,pI 0])) (m:=[]) (rd:=[]) ae) (C Z (w100 1 bj) Z Z Z (E Z (B.insK (enc:=eP) (l:=[]) (k:=(0,0)) (v:=(Qn.ofZ (1) bj)) kty Z Z Z Z) (E Z (B.newK (enc:=eP) Z Z) (E Z (B.run Z) ?_))))))
 refine tk 10 Z ?_
 refine TK.shutK (h:=56) (R':=fun kv=>∃ m,KP (zPw 0).1 m/\kv=kvO eP m) Z (fun kv e=>⟨_,kp_k,e⟩) ?_
 refine TK.shutK (h:=60) (R':=fun kv=>∃ m,KP (zPw 0).2 m/\kv=kvO eP m) Z (fun kv e=>⟨_,KP.nil,e⟩) ?_
 refine kc (l2 (fun (j:Nat) (b:Bool)=>[(0,vI n),(1,vI m),(8,vI (max m (0-m))),(9,.mref 48),(10,.mref 52),(11,.bref 21 0),(52,vI (max m (0-m))),(53,vI ((j:Nat):Int))]) (fun j b=>[(21,.box 160 [.mref (bif b then 56 else 74),.mref (bif b then 60 else 84)]),(48,(kR zX)),(52,(kR zY)),((bif b then 56 else 74),(kR (zPw j).1)),((bif b then 60 else 84),(kR (zPw j).2))]) (fun j _=>j<=Int.toNat (max m (0-m))) (fun j _=>Int.toNat (max m (0-m))-j) 0 true Z ?_ (sb Z Z Z) ?_)
 · exact zw _
 intro j b hI0
 have hb0:=ze_b ab ab
 cases b
 ·refine Cp Z Z (fun h3=>?_) (fun h3=>?_)
  ·refine E Z (B.idxB (n:=0) un160 Z Z Z Z ah Z ah) ?_
   first|refine EK 0 Z (B.jN Z Z Z Z Z) ?_|refine EK 1 Z (B.jN Z Z Z Z Z) ?_|refine EK 2 Z (B.jN Z Z Z Z Z) ?_
   refine E Z (B.q6 (l:=[(74,(kR (zPw j).1)),(48,(kR zX))]) (w101e (zPw j).1 zX (qO (zPw j).1 zX) 74 48 68 ah ah ah (ze_k (j:=j) aa).1.1 (ze_k (j:=j) aa).1.2.1 (ze_k (j:=j) aa).1.2.2 Z) Z Z ⟨rfl,rfl,trivial⟩ rfl rfl) (E Z (B.idxB (n:=1) un160 Z Z Z Z ah Z ah) ?_)
   first|refine EK 0 Z (B.jN Z Z Z Z Z) ?_|refine EK 1 Z (B.jN Z Z Z Z Z) ?_|refine EK 2 Z (B.jN Z Z Z Z Z) ?_
   refine E Z (B.q6 (l:=[(84,(kR (zPw j).2)),(52,(kR zY))]) (w101e (zPw j).2 zY (qO (zPw j).2 zY) 84 52 72 ah ah ah (ze_k (j:=j) aa).2.1.1 (ze_k (j:=j) aa).2.1.2.1 (ze_k (j:=j) aa).2.1.2.2 Z) Z Z ⟨rfl,rfl,trivial⟩ rfl rfl) (C Z (w100 (-1) bj) Z Z Z (E Z (B.q6 (l:=[(68,(kR (qO (zPw j).1 zX))),(72,(kR (qO (zPw j).2 zY)))]) (w102e (qO (zPw j).1 zX) (qO (zPw j).2 zY) (zPw (j+1)).1 (Qn.ofZ ((-1)) bj) 68 72 56 ah ah ah (ze_p (j:=j) (h1:=by unfold R64;omega) (h2:=by unfold R64;omega) aa).1 ze_s1) Z Z ⟨rfl,rfl,trivial⟩ rfl rfl) (E Z (B.idxB (n:=0) un160 Z Z Z Z ah Z ah) ?_)))
   first|refine EK 0 Z (B.jN Z Z Z Z Z) ?_|refine EK 1 Z (B.jN Z Z Z Z Z) ?_|refine EK 2 Z (B.jN Z Z Z Z Z) ?_
   refine E Z (B.q6 (l:=[(74,(kR (zPw j).1)),(52,(kR zY))]) (w101e (zPw j).1 zY (qO (zPw j).1 zY) 74 52 78 ah ah ah (ze_k (j:=j) aa).2.2.1.1 (ze_k (j:=j) aa).2.2.1.2.1 (ze_k (j:=j) aa).2.2.1.2.2 Z) Z Z ⟨rfl,rfl,trivial⟩ rfl rfl) (E Z (B.idxB (n:=1) un160 Z Z Z Z ah Z ah) ?_)
   first|refine EK 0 Z (B.jN Z Z Z Z Z) ?_|refine EK 1 Z (B.jN Z Z Z Z Z) ?_|refine EK 2 Z (B.jN Z Z Z Z Z) ?_
   refine E Z (B.q6 (l:=[(84,(kR (zPw j).2)),(48,(kR zX))]) (w101e (zPw j).2 zX (qO (zPw j).2 zX) 84 48 82 ah ah ah (ze_k (j:=j) aa).2.2.2.1 (ze_k (j:=j) aa).2.2.2.2.1 (ze_k (j:=j) aa).2.2.2.2.2 Z) Z Z ⟨rfl,rfl,trivial⟩ rfl rfl) (C Z (w100 1 bj) Z Z Z (E Z (B.q6 (l:=[(78,(kR (qO (zPw j).1 zY))),(82,(kR (qO (zPw j).2 zX)))]) (w102e (qO (zPw j).1 zY) (qO (zPw j).2 zX) (zPw (j+1)).2 (Qn.ofZ (1) bj) 78 82 60 ah ah ah (ze_p (j:=j) (h1:=by unfold R64;omega) (h2:=by unfold R64;omega) aa).2 ze_s2) Z Z ⟨rfl,rfl,trivial⟩ rfl rfl) (E Z (B.run Z) (Dr Z ae (E Z (B.add Z Z cH) (pk Z (L2 (j+1) true ?_ ?_ (sb Z Z Z))))))))
   · omega
   · omega
  refine E Z (B.idxB (n:=0) un160 Z Z Z Z ah Z ah) ?_
  first|refine EK 0 Z (B.jN Z Z Z Z Z) ?_|refine EK 1 Z (B.jN Z Z Z Z Z) ?_|refine EK 2 Z (B.jN Z Z Z Z Z) ?_
  refine Cp Z Z (fun h4=>?_) (fun h4=>?_)
  ·refine E Z (B.idxB (n:=1) un160 Z Z Z Z ah Z ah) ?_
   first|refine EK 0 Z (B.jN Z Z Z Z Z) ?_|refine EK 1 Z (B.jN Z Z Z Z Z) ?_|refine EK 2 Z (B.jN Z Z Z Z Z) ?_
   refine E Z (B.q6 (l:=[]) (w103 hf n (max m (0-m)) 95 (ze_n ab ab)) Z Z trivial Z Z) (E Z (B.q6 (l:=[(95,(kR (radQ n (max m (0-m))))),(84,(kR (zPw j).2))]) (w101e (radQ n (max m (0-m))) (zPw j).2 (qO (radQ n (max m (0-m))) (zPw j).2) 95 84 97 ah ah ah (ze_f (j:=j) ab ab aa cJ).1 (ze_f (j:=j) ab ab aa cJ).2.1 (ze_f (j:=j) ab ab aa cJ).2.2 Z) Z Z ⟨rfl,rfl,trivial⟩ rfl rfl) (E Z (B.q6 (l:=[(97,(kR (qO (radQ n (max m (0-m))) (zPw j).2)))]) (w104k hp (qO (radQ n (max m (0-m))) (zPw j).2) 97 (ze_o (j:=j) ab ab aa cJ)) Z Z ⟨rfl,trivial⟩ rfl rfl) ?_))
   refine Rt Z ?_
   exact q5 (val0:=.tup [vL eY (polT (qO (radQ n (max m (0-m))) (zPw j).2)),vI (polE (qO (radQ n (max m (0-m))) (zPw j).2))]) (out0:=[]) (.inr Z) ae dQ rfl
  refine E Z (B.q6 (l:=[]) (w103 hf n (max m (0-m)) 95 (ze_n ab ab)) Z Z trivial Z Z) (E Z (B.q6 (l:=[(95,(kR (radQ n (max m (0-m))))),(74,(kR (zPw j).1))]) (w101e (radQ n (max m (0-m))) (zPw j).1 (qO (radQ n (max m (0-m))) (zPw j).1) 95 74 97 ah ah ah (ze_f (j:=j) ab ab aa cJ).1 (ze_f (j:=j) ab ab aa cJ).2.1 (ze_f (j:=j) ab ab aa cJ).2.2 Z) Z Z ⟨rfl,rfl,trivial⟩ rfl rfl) (E Z (B.q6 (l:=[(97,(kR (qO (radQ n (max m (0-m))) (zPw j).1)))]) (w104k hp (qO (radQ n (max m (0-m))) (zPw j).1) 97 (ze_o (j:=j) ab ab aa cJ)) Z Z ⟨rfl,trivial⟩ rfl rfl) ?_))
  refine Rt Z ?_
  exact q5 (val0:=.tup [vL eY (polT (qO (radQ n (max m (0-m))) (zPw j).1)),vI (polE (qO (radQ n (max m (0-m))) (zPw j).1))]) (out0:=[]) (.inr Z) ae dQ rfl
 refine Cp Z Z (fun h5=>?_) (fun h5=>?_)
 ·refine E Z (B.idxB (n:=0) un160 Z Z Z Z ah Z ah) ?_
  first|refine EK 0 Z (B.jN Z Z Z Z Z) ?_|refine EK 1 Z (B.jN Z Z Z Z Z) ?_|refine EK 2 Z (B.jN Z Z Z Z Z) ?_
  refine E Z (B.q6 (l:=[(56,(kR (zPw j).1)),(48,(kR zX))]) (w101e (zPw j).1 zX (qO (zPw j).1 zX) 56 48 68 ah ah ah (ze_k (j:=j) aa).1.1 (ze_k (j:=j) aa).1.2.1 (ze_k (j:=j) aa).1.2.2 Z) Z Z ⟨rfl,rfl,trivial⟩ rfl rfl) (E Z (B.idxB (n:=1) un160 Z Z Z Z ah Z ah) ?_)
  first|refine EK 0 Z (B.jN Z Z Z Z Z) ?_|refine EK 1 Z (B.jN Z Z Z Z Z) ?_|refine EK 2 Z (B.jN Z Z Z Z Z) ?_
  refine E Z (B.q6 (l:=[(60,(kR (zPw j).2)),(52,(kR zY))]) (w101e (zPw j).2 zY (qO (zPw j).2 zY) 60 52 72 ah ah ah (ze_k (j:=j) aa).2.1.1 (ze_k (j:=j) aa).2.1.2.1 (ze_k (j:=j) aa).2.1.2.2 Z) Z Z ⟨rfl,rfl,trivial⟩ rfl rfl) (C Z (w100 (-1) bj) Z Z Z (E Z (B.q6 (l:=[(68,(kR (qO (zPw j).1 zX))),(72,(kR (qO (zPw j).2 zY)))]) (w102e (qO (zPw j).1 zX) (qO (zPw j).2 zY) (zPw (j+1)).1 (Qn.ofZ ((-1)) bj) 68 72 74 ah ah ah (ze_p (j:=j) (h1:=by unfold R64;omega) (h2:=by unfold R64;omega) aa).1 ze_s1) Z Z ⟨rfl,rfl,trivial⟩ rfl rfl) (E Z (B.idxB (n:=0) un160 Z Z Z Z ah Z ah) ?_)))
  first|refine EK 0 Z (B.jN Z Z Z Z Z) ?_|refine EK 1 Z (B.jN Z Z Z Z Z) ?_|refine EK 2 Z (B.jN Z Z Z Z Z) ?_
  refine E Z (B.q6 (l:=[(56,(kR (zPw j).1)),(52,(kR zY))]) (w101e (zPw j).1 zY (qO (zPw j).1 zY) 56 52 78 ah ah ah (ze_k (j:=j) aa).2.2.1.1 (ze_k (j:=j) aa).2.2.1.2.1 (ze_k (j:=j) aa).2.2.1.2.2 Z) Z Z ⟨rfl,rfl,trivial⟩ rfl rfl) (E Z (B.idxB (n:=1) un160 Z Z Z Z ah Z ah) ?_)
  first|refine EK 0 Z (B.jN Z Z Z Z Z) ?_|refine EK 1 Z (B.jN Z Z Z Z Z) ?_|refine EK 2 Z (B.jN Z Z Z Z Z) ?_
  refine E Z (B.q6 (l:=[(60,(kR (zPw j).2)),(48,(kR zX))]) (w101e (zPw j).2 zX (qO (zPw j).2 zX) 60 48 82 ah ah ah (ze_k (j:=j) aa).2.2.2.1 (ze_k (j:=j) aa).2.2.2.2.1 (ze_k (j:=j) aa).2.2.2.2.2 Z) Z Z ⟨rfl,rfl,trivial⟩ rfl rfl) (C Z (w100 1 bj) Z Z Z (E Z (B.q6 (l:=[(78,(kR (qO (zPw j).1 zY))),(82,(kR (qO (zPw j).2 zX)))]) (w102e (qO (zPw j).1 zY) (qO (zPw j).2 zX) (zPw (j+1)).2 (Qn.ofZ (1) bj) 78 82 84 ah ah ah (ze_p (j:=j) (h1:=by unfold R64;omega) (h2:=by unfold R64;omega) aa).2 ze_s2) Z Z ⟨rfl,rfl,trivial⟩ rfl rfl) (E Z (B.run Z) (Dr Z ae (E Z (B.add Z Z cH) (pk Z (L2 (j+1) false ?_ ?_ (sb Z Z Z))))))))
  · omega
  · omega
 refine E Z (B.idxB (n:=0) un160 Z Z Z Z ah Z ah) ?_
 first|refine EK 0 Z (B.jN Z Z Z Z Z) ?_|refine EK 1 Z (B.jN Z Z Z Z Z) ?_|refine EK 2 Z (B.jN Z Z Z Z Z) ?_
 refine Cp Z Z (fun h6=>?_) (fun h6=>?_)
 ·refine E Z (B.idxB (n:=1) un160 Z Z Z Z ah Z ah) ?_
  first|refine EK 0 Z (B.jN Z Z Z Z Z) ?_|refine EK 1 Z (B.jN Z Z Z Z Z) ?_|refine EK 2 Z (B.jN Z Z Z Z Z) ?_
  refine E Z (B.q6 (l:=[]) (w103 hf n (max m (0-m)) 95 (ze_n ab ab)) Z Z trivial Z Z) (E Z (B.q6 (l:=[(95,(kR (radQ n (max m (0-m))))),(60,(kR (zPw j).2))]) (w101e (radQ n (max m (0-m))) (zPw j).2 (qO (radQ n (max m (0-m))) (zPw j).2) 95 60 97 ah ah ah (ze_f (j:=j) ab ab aa cJ).1 (ze_f (j:=j) ab ab aa cJ).2.1 (ze_f (j:=j) ab ab aa cJ).2.2 Z) Z Z ⟨rfl,rfl,trivial⟩ rfl rfl) (E Z (B.q6 (l:=[(97,(kR (qO (radQ n (max m (0-m))) (zPw j).2)))]) (w104k hp (qO (radQ n (max m (0-m))) (zPw j).2) 97 (ze_o (j:=j) ab ab aa cJ)) Z Z ⟨rfl,trivial⟩ rfl rfl) ?_))
  refine Rt Z ?_
  exact q5 (val0:=.tup [vL eY (polT (qO (radQ n (max m (0-m))) (zPw j).2)),vI (polE (qO (radQ n (max m (0-m))) (zPw j).2))]) (out0:=[]) (.inr Z) ae dQ rfl
 refine E Z (B.q6 (l:=[]) (w103 hf n (max m (0-m)) 95 (ze_n ab ab)) Z Z trivial Z Z) (E Z (B.q6 (l:=[(95,(kR (radQ n (max m (0-m))))),(56,(kR (zPw j).1))]) (w101e (radQ n (max m (0-m))) (zPw j).1 (qO (radQ n (max m (0-m))) (zPw j).1) 95 56 97 ah ah ah (ze_f (j:=j) ab ab aa cJ).1 (ze_f (j:=j) ab ab aa cJ).2.1 (ze_f (j:=j) ab ab aa cJ).2.2 Z) Z Z ⟨rfl,rfl,trivial⟩ rfl rfl) (E Z (B.q6 (l:=[(97,(kR (qO (radQ n (max m (0-m))) (zPw j).1)))]) (w104k hp (qO (radQ n (max m (0-m))) (zPw j).1) 97 (ze_o (j:=j) ab ab aa cJ)) Z Z ⟨rfl,trivial⟩ rfl rfl) ?_))
 refine Rt Z ?_
 exact q5 (val0:=.tup [vL eY (polT (qO (radQ n (max m (0-m))) (zPw j).1)),vI (polE (qO (radQ n (max m (0-m))) (zPw j).1))]) (out0:=[]) (.inr Z) ae dQ rfl
end Go.Lens.Tb
end
