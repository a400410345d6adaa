/- A part of the proof of PupilProductsCardSaid, without conditions. -/
import Derived.Test.YtpfnmbpfhlllaaaGreatDoorP7
import Derived.Test.YtpfnmbpfhlllaaaGreatDoorP6
import Derived.Test.YtpfnmbpfhlllaaaGreatDoorP9
set_option linter.unusedVariables false
set_option linter.unusedSimpArgs false
set_option linter.unusedSectionVars false
set_option maxRecDepth 100000
set_option maxHeartbeats 4000000
section
namespace Go.Lens.Tb
open Go.Proofs Go.Lens.Un
variable [Lz] [Dn] [Kr]
attribute [local irreducible] TK PK T RG EfR Body CG
open Un Un.R
section
variable {f:List Trm} {x y s:Nb} {P W:PL} {E:Int} {u v:Rat}
theorem fs_l (h:shF f=true):f.length<=12/\∀ t∈f,t.c.length<=40:=by
 unfold shF shFA at h
 simp only[zj,Bool.not_eq_true',zG,zr,zf] at h
 exact⟨aa,h.2⟩
theorem fs_m (h:shF f=true):f.length<=1000000:=by have:=(fs_l h).1;omega
theorem sz_any (h:s.length<=40):sz (jP s).q<=161:=by
 by_cases hc:jB s=0
 ·exact sz_short hc h
 unfold jP;rw[dif_neg hc];decide +kernel
theorem fs_s (h:shF f=true):∀ p∈plF f,sz p.2<=161:=fun p hp=>by
 obtain⟨t,ht,rfl⟩:=zE.1 hp
 exact sz_any ((fs_l h).2 t ht)
theorem fs_n (h:shF f=true):(plF f).length<=12:=by unfold plF;rw[zI];exact (fs_l h).1
theorem fs_z (h:shF f=true):szP (plF f)<=2000:=qc (szP_le (fs_n h) (fs_s h)) ah
theorem fs_k (h:qL f=0):∀ p∈plF f,0<=p.1.1/\0<=p.1.2/\p.1.1+p.1.2<=16:=fun p hp=>kb_f h _ (List.mem_map_of_mem hp)
theorem fy_r (h:qL f=0):vL eY f=vL eR (plF f):=by
 refine congrArg (fun x=>DV.pv (.slice x)) ?_
 unfold plF
 rw[List.map_map]
 refine List.map_congr_left fun t ht=>?_
 have:=txt_val (po_t h ht).1
 show [pS (bsO t.c),pI t.i,pI t.j]=[pS (bsO (txt (jP t.c).q)),pI t.i,pI t.j]
 rw[this]
theorem w26p (f:List Trm) (h:shF f=true):CKa 13 [vL eY f] (vI (qL f)):=
 w26 f (by have:=(fs_l h).1;omega) fun t ht=>by have:=(fs_l h).2 t ht;omega
theorem num_e:numB (erL E (resT v)) (erE E (resE v)) E (if E=0 then v else 0)=true:=by
 by_cases hE:E=0
 ·subst hE
  unfold numB erL erE resT resE
  rw[if_pos rfl,lgF_0,if_pos rfl,if_neg ao,if_neg ao]
  simp only[List.any_cons,List.any_nil,Bool.or_false]
  cases jG v<;>simp
 unfold numB erL erE
 rw[if_neg hE,if_pos hE,if_pos hE,lgF_0,if_neg hE,if_pos hE];simp
theorem w32e (hz:E=0->sz v<=1000000) (hu:u=if E=0 then v else 0):CKa 19 [vS (bsO (erL E (resT v))),vI (erE E (resE v)),vI E,vS (bsO (txt u))] (vB true):=by
 have h:=w32 (erL E (resT v)) (erE E (resE v)) E u (ar_t (by rw[hu];split;exact hz ab;exact qc sz_0 ah))
 rwa [hu,num_e,<-hu] at h
end
end Go.Lens.Tb
end
section
namespace Go.Lens.Tb
open Go.Proofs Go.Lens.Un
variable [Lz] [Dn] [Kr]
attribute [local irreducible] TK PK T RG EfR Body CG
section
variable {f g:List Trm} {k:Nat} {P R W:PL} {E:Int}
theorem sm_h (h:(bif !(shF f) then true else !(shF g))=false):shF f=true/\shF g=true:=by revert h;cases shF f<;>cases shF g<;>decide
theorem b2_0:qF [qL f,qL g]=0↔qL f=0/\qL g=0:=by rw[ff_0,ff_0];simp[qF]
theorem fs_big (h:shF f=true):f.length<=1000000/\∀ t∈f,t.c.length<=1000000000:=⟨fs_m h,fun t ht=>by have:=(fs_l h).2 t ht;omega⟩
theorem fs_rf (h:shF f=true) (hc:qL f=0):RfOk (plF f):=⟨fun p hp=>by have:=fs_k hc p hp;omega,by have:=fs_n h;omega,by have:=fs_z h;omega⟩
end
section
variable {P:PL} {k:KI} {g:KI->Rat}
theorem cf_nd:∀ {l:List KI},l.Nodup->∀ k,cf (l.map fun a=>(a,g a)) k=if k∈l then g k else 0
 | [],_,k=>by simp[cf_nil]
 | a::l,h,k=>by
  have h:=List.nodup_cons.1 h
  rw[zy,jx,cf_nd h.2 k]
  by_cases e:a=k
  ·subst e;simp[h.1,Rat.add_zero]
  rw[if_neg e,Rat.zero_add]
  simp[Ne.symm e]
theorem nf_e (hk:∀ a∈P.map (·.1),0<=a.1/\0<=a.2/\a.1+a.2<=32):Eqv (nfP P) P:=fun k=>by
 unfold nfP
 rw[cf_nd (pw_nd ordP_pw)]
 by_cases h:k∈jb P
 ·rw[if_pos h]
 rw[if_neg h]
 by_cases h2:k∈P.map (·.1)
 ·exact (zi.1 fun e=>h (mem_ordP.2 ⟨hk k h2,e⟩)).symm
 exact (cf_no h2).symm
theorem nf_mem {k:KI} (h:k∈jb P):k∈P.map (·.1):=zi.1 fun e=>(mem_ordP.1 h).2 (cf_no e)
theorem nf_len:(nfP P).length<=P.length:=by
 unfold nfP
 rw[zI]
 exact qc (nd_len (pw_nd ordP_pw) fun k hk=>nf_mem hk) (by rw[zI];exact zB _)
end
def DbR (k j:Int) (r:Rat):Prop:=∃ x:Qn,r=x.q/\DbI k j x
structure DscOk (P R:PL):Prop where
 p:RfOk P
 r:RfOk R
 q:szP (qX P R)<=500000
 z:szP (qX P R)<=50000
 l:P.length*R.length<=200
 k:∀ a∈(qX P R).map (·.1),0<=a.1/\0<=a.2/\a.1+a.2<=32
def disV (f g:List Trm):Rat:=if qF [qL f,qL g]=0 then lin dF (qX (plF f) (plF g)) else 0
section
variable {P R:PL} {k i:Nat} {j m a b:Int} {r s:Rat} {f g:List Trm}
theorem dbr_b (h:DbR m j r): -1<=j/\j<=64:=by obtain⟨x,_,h⟩:=h;exact⟨h.1,h.2.1.1⟩
theorem dbr_s (h:DbR m j r):sz r+sz ((j:Int):Rat)<=1000000:=by
 obtain⟨x,rfl,h1,⟨h2,_⟩,n,_,_,h3,_⟩:=h
 have h4:=ofI_sz ⟨h1,h2⟩
 rw[ofI_q bf] at h4
 omega
theorem dbr_0 (h: -1<=m/\m<=64):DbR m m 1:=⟨_,(Qn.ofZ_q ..).symm,db_0 h⟩
theorem dbr_n (h:DbR m j r) (hj:1<j):DbR m (j-2) (r*((j:Int):Rat)):=by
 have hb:=dbr_b h
 obtain⟨x,rfl,h⟩:=h
 exact⟨_,by rw[Qn.mul_q,ofI_q bf],db_n h hj⟩
theorem dbr_e (h:DbR m j r) (hj:¬1<j):r=dq m:=by
 obtain⟨x,rfl,h⟩:=h
 rw[db_e h hj];rfl
theorem sz_2:sz (2:Rat)<=10:=qc (sz_int 2) ah
theorem sm_z {z:Int} (h:0<=z/\z<=64):sz ((z:Int):Rat)<=10:=by
 refine qc (sz_int z) ?_
 have:q6 z.natAbs<=7:=km (Nat.lt_of_le_of_lt (show z.natAbs<=64 by omega) ah)
 omega
theorem mo_1 (h1: -1<=a/\a<=64) (h2: -1<=b/\b<=64):sz (dq a)+sz (dq b)<=1000000:=by
 have:=dq_s h1;have:=dq_s h2;unfold dq;omega
theorem mo_2 (h1: -1<=a/\a<=64) (h2: -1<=b/\b<=64):sz (2:Rat)+sz (dq a*dq b)<=1000000:=by
 have:=dq_s h1;have:=dq_s h2;have:=jo (dq a) (dq b);have:=sz_2;unfold dq at *;omega
theorem mo_3 (h1: -1<=a/\a<=64) (h2:0<=b/\b<=64):sz (dq a)+sz ((b:Int):Rat)<=1000000:=by
 have:=dq_s h1;have:=sm_z h2;unfold dq;omega
theorem mo_0 (h:0<=a/\0<=b/\a+b<=32):dq (a+b)*((a+b+2:Int):Rat)≠0:=by
 have h1:dq (a+b)≠0:=dq_z aa
 have h2:((a+b+2:Int):Rat)≠0:=rz_int aa
 intro e
 rcases Rat.mul_eq_zero.1 e with e|e
 ·exact h1 e
 exact h2 e
theorem mo_4 (h:0<=a/\0<=b/\a+b<=32):sz (2*(dq (a-1)*dq (b-1)))+sz (dq (a+b)*((a+b+2:Int):Rat))<=1000000:=by
 have h1:=dq_s (k:=a-1) aa;have h2:=dq_s (k:=b-1) aa;have h3:=dq_s (k:=a+b) aa;have h4:=sm_z (z:=a+b+2) aa
 have h5:=jo (dq (a-1)) (dq (b-1));have h6:=jo 2 (dq (a-1)*dq (b-1));have h7:=jo (dq (a+b)) ((a+b+2:Int):Rat);have h8:=sz_2
 unfold dq at *;omega
theorem mo_a (h:(bif decide (a%2=1) then true else decide (b%2=1))=true):dF (a,b)=0:=by
 refine if_neg fun e=>?_
 simp only at e
 rw[zk aa,zk aa] at h
 cases h
theorem mo_b (h0:0<=a/\0<=b/\a+b<=32) (h:(bif decide (a%2=1) then true else decide (b%2=1))=false):dF (a,b)=2*(dq (a-1)*dq (b-1)) / (dq (a+b)*((a+b+2:Int):Rat)):=by
 obtain⟨h1,h2⟩:=dc_no h
 unfold dF
 rw[if_pos ew]
 simp only
 rw[Rat.mul_assoc]
theorem dsc_l (h:DscOk P R):(mulP P R).length<=200:=qc nf_len (by rw[prods_len];exact h.l)
theorem dsc_m (hk:k<(mulP P R).length):((mulP P R).getD k rrZ).1∈jb (qX P R):=by
 have:=jy (z:=rrZ) hk
 obtain⟨q,hq,e⟩:=zE.1 (show (mulP P R).getD k rrZ∈(jb (qX P R)).map fun k=>(k,cf (qX P R) k) from this)
 rw[<-e];exact hq
theorem dsc_k (h:DscOk P R) (hk:k<(mulP P R).length):0<=Prod.fst (Prod.fst ((mulP P R).getD k rrZ))/\0<=Prod.snd (Prod.fst ((mulP P R).getD k rrZ))/\Prod.fst (Prod.fst ((mulP P R).getD k rrZ))+Prod.snd (Prod.fst ((mulP P R).getD k rrZ))<=32:=h.k _ (nf_mem (dsc_m hk))
theorem dsc_z (h:DscOk P R):szP (mulP P R)<=60000:=by
 have key:∀ (ks:List KI) (A:PL),szP (ks.map fun k=>(k,cf A k))=1+sumS ks A:=by
  intro ks A
  induction ks with
  | nil=>rfl
  | cons a l ih=>simp only[zy,szP,ih,sumS,List.sum_cons];omega
 have h1:=sumS_all (jb (qX P R)) (pw_nd ordP_pw) (qX P R)
 have h2:=dsc_l h
 have h3:=h.z
 unfold mulP nfP at h2 ⊢
 rw[zI] at h2
 rw[key];omega
theorem dsc_c (h:DscOk P R) (hk:k<(mulP P R).length):sz (Prod.snd ((mulP P R).getD k rrZ))<=60000:=qc (szP_mem (jy (z:=rrZ) hk)) (dsc_z h)
theorem dsc_d (h:DscOk P R) (hk:k<(mulP P R).length):sz (Prod.snd ((mulP P R).getD k rrZ)*dF (Prod.fst (Prod.fst ((mulP P R).getD k rrZ)),Prod.snd (Prod.fst ((mulP P R).getD k rrZ))))<=sz (Prod.snd ((mulP P R).getD k rrZ))+1300:=dF_s (dsc_k h hk)
theorem dF_1 (h:0<=a/\0<=b/\a+b<=32):sz (dF (a,b))<=1301:=by
 have:=dF_s (k:=(a,b)) (c:=1) h
 rw[Rat.one_mul] at this
 have h1:sz (1:Rat)<=1:=qc (sz_int 1) ah
 omega
theorem dsc_1 (h:DscOk P R) (hk:k<(mulP P R).length):sz (Prod.snd ((mulP P R).getD k rrZ))+sz (dF (Prod.fst (Prod.fst ((mulP P R).getD k rrZ)),Prod.snd (Prod.fst ((mulP P R).getD k rrZ))))<=1000000:=by
 have h1:=dsc_c h hk
 have h2:=dF_1 (dsc_k h hk)
 omega
theorem dsc_s (hk:k<(mulP P R).length):lin dF ((mulP P R).take (k+1))=lin dF ((mulP P R).take k)+Prod.snd ((mulP P R).getD k rrZ)*dF (Prod.fst (Prod.fst ((mulP P R).getD k rrZ)),Prod.snd (Prod.fst ((mulP P R).getD k rrZ))):=by
 rw[gd_split hk,lin_app]
 obtain⟨⟨x,y⟩,c⟩:=(mulP P R).getD k rrZ
 simp only[lin,Rat.add_zero]
theorem dsc_v (h:DscOk P R):∀ k,k<=(mulP P R).length->sz (lin dF ((mulP P R).take k))<=szP ((mulP P R).take k)+k*1301
 | 0,_=>by rw[List.take_zero];show sz (0:Rat)<=_;exact qc sz_0 (by simp[szP])
 | k+1,hk=>by
  have ih:=dsc_v h k aa
  rw[dsc_s aa]
  have a1:=sz_add (lin dF ((mulP P R).take k)) (Prod.snd ((mulP P R).getD k rrZ)*dF (Prod.fst (Prod.fst ((mulP P R).getD k rrZ)),Prod.snd (Prod.fst ((mulP P R).getD k rrZ))))
  have a2:=dsc_d h (k:=k) aa
  have a3:=szP_app ((mulP P R).take k) [(mulP P R).getD k rrZ]
  rw[<-gd_split aa] at a3
  have a4:szP [(mulP P R).getD k rrZ]=sz (Prod.snd ((mulP P R).getD k rrZ))+1+1:=rfl
  rw[Nat.add_mul];omega
theorem dsc_2 (e:s=lin dF ((mulP P R).take k)) (h:DscOk P R) (hk:k<(mulP P R).length):sz s+sz (Prod.snd ((mulP P R).getD k rrZ)*dF (Prod.fst (Prod.fst ((mulP P R).getD k rrZ)),Prod.snd (Prod.fst ((mulP P R).getD k rrZ))))<=1000000:=by
 have a:=dsc_v h k aa
 have b:=dsc_d h hk
 have c:=dsc_c h hk
 have d:=szP_take (mulP P R) k
 have e1:=dsc_z h
 have f:=dsc_l h
 have:k*1301<=200*1301:=Nat.mul_le_mul_right _ aa
 rw[e];omega
theorem tx_two:txt 2=[50]:=ae
theorem w69two (q:Rat) (hs:sz (2:Rat)+sz q<=1000000):CKa 33 [vS (bsO [50]),vS (bsO (txt q))] (vS (bsO (txt (2*q)))):=by
 have h:=w69 2 q hs
 rwa [tx_two] at h
end
theorem w201 (k:Int) (hk: -1<=k/\k<=64):CKa 136 [vI k] (vS (bsO (txt (dq k)))):=by
 refine cL 10 [] qf136 Z (nB Z) Z Z (kc (l2 (fun (j:Int) (r:Rat)=>[(0,vI j),(3,vS (bsO (txt r)))]) (fun _ _=>[]) (fun j r=>DbR k j r) (fun j _=>Int.toNat (j+1)) k 1 Z ?_ (sb ae Z Z) ?_))
 · exact dbr_0 hk
 intro j r hI0
 refine Cp Z Z (fun h1=>?_) (fun h1=>?_)
 ·refine C Z (w70i j (by have hb:=dbr_b hI0;omega)) Z Z Z (C Z (w69 r ((j:Int):Rat) (dbr_s hI0)) Z Z Z (E Z (B.sub Z Z (by have hb:=dbr_b hI0;unfold R64;omega)) (pk Z (L2 (j-2) (r*((j:Int):Rat)) ?_ ?_ (sb Z Z Z)))))
  · exact dbr_n hI0 aa
  · (have hb:=dbr_b hI0;omega)
 refine Rt Z ?_
 exact leafL (val0:=vS (bsO (txt r))) (out0:=[]) (.inr Z) ae (by rw[dbr_e hI0 aa]) rfl
theorem w129 (a b:Int) (h0:0<=a/\0<=b/\a+b<=32):CKa 75 [vI a,vI b] (vS (bsO (txt (dF (a,b))))):=by
 refine cL 10 [] qf75 Z (nB Z) Z Z (kc (E Z (B.remN Z Z aa ah) (Eg Z Z (fun hc=>B.move Z) Z (Eg Z Z (fun hc=>B.remN (qt Z hc) Z aa ah) Z (Eg Z Z (fun hc=>B.eql (qt Z hc) Z) Z (E Z (B.pick Z Z Z Z (gdB Z) (pick_or _)) (Cb Z Z (fun h1=>?_) (fun h1=>?_))))))))
 ·refine Rt Z ?_
  exact leafL (val0:=vS (bsO [48])) (out0:=[]) (.inr Z) ae ez rfl
 refine E Z (B.sub Z Z bf) (C Z (w201 (a-1) aa) Z Z Z (E Z (B.sub Z Z bf) (C Z (w201 (b-1) aa) Z Z Z (C Z (w69 (dq (a-1)) (dq (b-1)) e8) Z Z Z (C Z (w69two ((dq (a-1))*(dq (b-1))) e8) Z Z Z (E Z (B.add Z Z bf) (C Z (w201 (a+b) aa) Z Z Z (E Z (B.add Z Z bf) (E Z (B.add Z Z bf) (C Z (w70i ((a+b)+2) aa) Z Z Z (C Z (w69 (dq (a+b)) ((((a+b)+2):Int):Rat) e8) Z Z Z (C Z (w106 (2*((dq (a-1))*(dq (b-1)))) ((dq (a+b))*((((a+b)+2):Int):Rat)) (mo_0 h0) (mo_4 h0)) Z Z Z ?_))))))))))))
 refine Rt Z ?_
 exact leafL (val0:=vS (bsO (txt ((2*((dq (a-1))*(dq (b-1)))) / ((dq (a+b))*((((a+b)+2):Int):Rat)))))) (out0:=[]) (.inr Z) ae ez rfl
theorem w34 (P R:PL) (hD:DscOk P R):CKa 22 [vL eR P,vL eR R] (vS (bsO (txt (lin dF (mulP P R))))):=by
 refine cL 10 [] qf22 Z (nB Z) Z Z (kc (C Z (w84 P R hD.p hD.r hD.q) Z Z Z (l2 (fun (k:Nat) (s:Rat)=>[(5,vL eR (mulP P R)),(6,vS (bsO (txt s))),(7,vI (k:Int))]) (fun _ _=>[]) (fun k s=>k<=(mulP P R).length/\s=lin dF (List.take k (mulP P R))) (fun k _=>(mulP P R).length-k) 0 0 Z ?_ (sb ae Z Z) ?_)))
 · exact⟨zt _,rfl⟩
 intro k s hI0
 have hl:=dsc_l hD
 refine E Z (B.jr Z un22) (Cp Z Z (fun h1=>?_) (fun h1=>?_))
 ·refine E Z (B.idx (z:=rrZ) (i:=k) Z Z un22 sz63 (fun _=>rfl) Z aa) (E Z (B.idx (z:=rrZ) (i:=k) Z Z un22 sz63 (fun _=>rfl) Z aa) (E Z (B.idx (z:=rrZ) (i:=k) Z Z un22 sz63 (fun _=>rfl) Z aa) (C Z (w129 (Prod.fst (Prod.fst (List.getD (mulP P R) k rrZ))) (Prod.snd (Prod.fst (List.getD (mulP P R) k rrZ))) (dsc_k hD aa)) Z Z Z (C Z (w69 (Prod.snd (List.getD (mulP P R) k rrZ)) (dF ((Prod.fst (Prod.fst (List.getD (mulP P R) k rrZ))),(Prod.snd (Prod.fst (List.getD (mulP P R) k rrZ))))) (dsc_1 hD aa)) Z Z Z (C Z (w67 s ((Prod.snd (List.getD (mulP P R) k rrZ))*(dF ((Prod.fst (Prod.fst (List.getD (mulP P R) k rrZ))),(Prod.snd (Prod.fst (List.getD (mulP P R) k rrZ)))))) (dsc_2 hI0.2 hD aa)) Z Z Z (Dr Z ae (E Z (B.add Z Z bf) (pk Z (L2 (k+1) (s+((Prod.snd (List.getD (mulP P R) k rrZ))*(dF ((Prod.fst (Prod.fst (List.getD (mulP P R) k rrZ))),(Prod.snd (Prod.fst (List.getD (mulP P R) k rrZ))))))) ?_ ?_ (sb Z Z Z))))))))))
  · (exact⟨aa,by rw[hI0.2];exact (dsc_s aa).symm⟩)
  · omega
 refine Rt Z ?_
 exact leafL (val0:=vS (bsO (txt s))) (out0:=[]) (.inr Z) ae c7 rfl
section
variable {P R:PL} {k i:Nat} {j m a b:Int} {r s:Rat} {f g:List Trm}
theorem fs_dsc (hf:shF f=true) (hg:shF g=true) (h1:qL f=0) (h2:qL g=0):DscOk (plF f) (plF g):=by
 have h5:(plF f).length*(plF g).length<=12*12:=Nat.mul_le_mul (fs_n hf) (fs_n hg)
 have hz:szP (qX (plF f) (plF g))<=50000:=by
  refine qc (szP_le (N:=144) (S:=322) (by rw[prods_len];omega) fun p hp=>?_) ah
  obtain⟨a,ha,hp⟩:=List.mem_flatMap.1 hp
  obtain⟨b,hb,rfl⟩:=zE.1 hp
  have h1:=fs_s hf a ha
  have h2:=fs_s hg b hb
  have h3:=jo a.2 b.2
  simp only;omega
 refine⟨fs_rf hf h1,fs_rf hg h2,aa,hz,aa,fun a ha=>?_⟩
 obtain⟨p,hp,rfl⟩:=zE.1 ha
 obtain⟨x,hx,hp⟩:=List.mem_flatMap.1 hp
 obtain⟨y,hy,rfl⟩:=zE.1 hp
 have a1:=fs_k h1 x hx
 have a2:=fs_k h2 y hy
 unfold kadd;simp only;omega
theorem fs_di (hf:shF f=true) (hg:shF g=true):DiOk (plF f) (plF g):=by
 have h1:=fs_n hf;have h2:=fs_n hg;have h3:=fs_z hf;have h4:=fs_z hg
 have h5:(plF f).length*(plF g).length<=12*12:=Nat.mul_le_mul h1 h2
 refine⟨?_,aa⟩
 exact qc (Nat.mul_le_mul (show _<=146 by omega) (show _<=4002 by omega)) ah
theorem w33p (hp:qU) (f g:List Trm) (hf:shF f=true) (hg:shF g=true):CKa 21 [vL eY f,vL eY g] (.tup [vS (bsO (erL (qF [qL f,qL g]) (resT (lin dF (qX (plF f) (plF g)))))),vI (erE (qF [qL f,qL g]) (resE (lin dF (qX (plF f) (plF g)))))]):=
 w33 hp f g (fs_big hf).1 (fs_big hf).2 (fs_big hg).1 (fs_big hg).2 fun _=>fs_di hf hg
theorem dsc_q (h:DscOk P R):lin dF (mulP P R)=lin dF (qX P R):=lin_congr dF _ _ _ (zB _) (nf_e h.k)
theorem w34y (hf:shF f=true) (hg:shF g=true) (h:qF [qL f,qL g]=0):CKa 22 [vL eY f,vL eY g] (vS (bsO (txt (lin dF (qX (plF f) (plF g)))))):=by
 obtain⟨h1,h2⟩:=b2_0.1 h
 have hD:=fs_dsc hf hg h1 h2
 rw[fy_r h1,fy_r h2,<-dsc_q hD]
 exact w34 _ _ hD
theorem ds_1 (h:qF [qL f,qL g]=0):disV f g=lin dF (qX (plF f) (plF g)):=if_pos h
theorem ds_2 (h:¬qF [qL f,qL g]=0):txt (disV f g)=[48]:=by unfold disV;rw[if_neg h];exact tz_0
theorem w32d (hf:shF f=true) (hg:shF g=true):CKa 19 [vS (bsO (erL (qF [qL f,qL g]) (resT (lin dF (qX (plF f) (plF g)))))),vI (erE (qF [qL f,qL g]) (resE (lin dF (qX (plF f) (plF g))))),vI (qF [qL f,qL g]),vS (bsO (txt (disV f g)))] (vB true):=
 w32e (fun e=>by
  obtain⟨h1,h2⟩:=b2_0.1 e
  have hD:=fs_dsc hf hg h1 h2
  have:=dsc_v hD (mulP (plF f) (plF g)).length (zB _)
  rw[List.take_length,dsc_q hD] at this
  have e1:=dsc_z hD
  have f1:=dsc_l hD
  omega) rfl
end
theorem w5 (hp:qU) (hf:jl) (f g:List Trm) (hlf:f.length<=4611686018427387904) (hlg:g.length<=4611686018427387904):CKa 4 [vL eY f,vL eY g] (vB true):=by
 refine cL 10 [] qf4 Z (nB Z) Z Z (kc (C Z (w21 f hlf) Z Z Z (Eg Z Z (fun hc=>B.move Z) Z (Eg Z Z (fun hc=>B.call (w21 g hlg) Z (ds1 (qt Z hc)) Z) Z (Eg Z Z (fun hc=>B.not (qt Z hc)) Z (E Z (B.pick Z Z Z Z (gdB Z) (pick_or _)) (Cb Z Z (fun h1=>?_) (fun h1=>?_))))))))
 ·refine C Z (w20 hp hf) Z Z Z ?_
  refine Rt Z ?_
  exact leafL (val0:=vB true) (out0:=[]) (.inr Z) ae Z rfl
 obtain⟨hsf,hsg⟩:=sm_h ab;have hlf:=fs_m hsf;have hlg:=fs_m hsg
 refine C Z (w23 f hlf) Z Z Z (C Z (w23 g hlg) Z Z Z (C Z (w33p hp f g hsf hsg) Z Z Z (C Z (w26p f hsf) Z Z Z (C Z (w26p g hsg) Z Z Z (E Z (B.runZ (val:=.pv (.slice (List.map eI [(qL f),(qL g)]))) (val0:=.aref 40 0) (m0:=[(40,.arr 0 1 3 [[pI (qL f)],[pI (qL g)]])]) (rd:=[]) ae (fun l=>Frz.arr l _ _ _ _ _) Z) (C Z (w27 [(qL f),(qL g)] (nB Z)) Z Z Z (Cj [(5,vS (bsO (erL (qF [(qL f),(qL g)]) (resT (lin dF (qX (plF f) (plF g))))))),(6,vI (erE (qF [(qL f),(qL g)]) (resE (lin dF (qX (plF f) (plF g)))))),(7,vI (qF [(qL f),(qL g)])),(8,vS (bsO (txt (disV f g))))] [] Z Z Z (fun h2=>?_) (fun h2=>?_) ?_)))))))
 ·replace h2:=of_decide_eq_true h2
  refine C Z (w34y hsf hsg ab) Z Z Z (pk Z ?_)
  show Sub _ _ _
  first|rw[ds_1 ab]|rw[ds_2 ab]
  exact sb Z Z rfl
 ·replace h2:=of_decide_eq_false h2
  refine pk Z ?_
  show Sub _ _ _
  first|rw[ds_1 ab]|rw[ds_2 ab]
  exact sb Z Z rfl
 refine C Z (w32d hsf hsg) Z Z Z (Et Z Z (B.call (w20 hp hf) Z Z Z) (E Z (B.pick Z Z Z Z Z (pick_tt _)) ?_))
 refine Rt Z ?_
 exact leafL (val0:=vB (bif true then true else false)) (out0:=[]) (.inr Z) ae Z rfl
end Go.Lens.Tb
end
