/- A part of the proof of PupilMomentsCardSaid, without conditions. -/
import Derived.Test.YtljafcmealiifaaGreatDoorP5
import Derived.Test.YtljafcmealiifaaGreatDoorP3
import Derived.Shelf.SlGeneric
import Derived.Shelf.SlSortCmp.WholeK
import Derived.Ground.SlsfProg
import Derived.Test.YtljafcmealiifaaGreatDoorProg
import Derived.Shelf.SlMaps.Clone
import Derived.Ground.SlmcProg
set_option linter.unusedVariables false
set_option linter.unusedSimpArgs false
set_option linter.unusedSectionVars false
set_option maxRecDepth 100000
set_option maxHeartbeats 4000000
section
namespace Go.Lens.Tb
open Go.Proofs Go.Lens.Un
variable [Lz] [Dn]
attribute [local irreducible] TK PK T RG EfR Body CG
open Un Un.R
theorem w221f (x F:Nat) (hx:(dig K9 x).length<=100000) (h0:0<F) (h1:F<K9):CKa 180 [vL eI (iL (dig K9 x)),vL eI (iL [F])] (vL eI (iL (dig K9 (x*F)))):=by
 have h:=w221 (dig K9 x) [F] (jg jx _) (dg_one h1) (qh hx ah) ao
 rw[qR jx,val_one] at h
 exact h
theorem w259o (r:Nat) (h:r<K9):CKa 184 [vL eI [(r:Int)]] (vL eI (iL (dig K9 r))):=by
 have h:=w259 [r] (dg_one h) ao
 rw[val_one] at h
 exact h
section
variable {A B F:Nat}
theorem dv_b1 (h:(((iL (dig K9 B)).length:Nat):Int)=1):B<K9:=by
 rw[qG] at h
 have h1:(dig K9 B).length=1:=aa
 have:=jC jx B
 grind
theorem w258b (A B:Nat) (hA:(dig K9 A).length<=100000) (hB:0<B) (h:B<K9):CKa 218 [vL eI (iL (dig K9 A)),vI ((iL (dig K9 B)).getD 0 0)] (.tup [vL eI (iL (dig K9 (A / B))),vI ((A%B:Nat):Int)]):=by
 have h1:=w258 (dig K9 A) B (jg jx _) (qh hA ah) hB h
 rw[qR jx] at h1
 rw[j9 jx aa h]
 exact h1
theorem dv_lt (h:cmpN A B<0):A<B:=by grind [cmpN]
theorem w258e (A B F:Nat) (hX:(dig K9 (A%B*F)).length<=100001) (h0:0<F) (h1:F<K9):CKa 218 [vL eI (iL (dig K9 (A%B*F))),vI ((iL [F]).getD 0 0)] (.tup [vL eI (iL (dig K9 (A%B))),vI ((0:Nat):Int)]):=by
 have h:=w258 (dig K9 (A%B*F)) F (jg jx _) (qh hX ah) h0 h1
 rw[qR jx,Nat.mul_div_cancel _ h0,Nat.mul_mod_left] at h
 exact h
theorem dv_ab (h:¬cmpN A B<0):B<=A:=by
 rcases Nat.lt_or_ge A B with g|g
 ·rw[cmp_lt' g] at h;exact absurd ah h
 exact g
theorem dv_al' (h:B<=A):(dig K9 B).length<=(dig K9 A).length:=by
 rcases Nat.lt_or_ge (dig K9 A).length (dig K9 B).length with g|g
 ·have:=ZV jx g;omega
 exact g
theorem dv_b2 (hB:0<B) (h1:¬cmpN A B<0) (h:¬(((iL (dig K9 B)).length:Nat):Int)=1):2<=(dig K9 B).length:=by
 rw[qG] at h
 have:=(Qa (n:=B)).2 hB
 omega
theorem dv_vt {B:Nat} (h:1<=(dig K9 B).length):0<(dig K9 B).getD ((dig K9 B).length-1) 0:=by
 have hn:=nz_dig jx B
 refine Nat.pos_of_ne_zero (hn _ ?_)
 grind
theorem dv_q {x:Int} (h:0<=x/\x<1000000000):R64 (Int.tdiv 1000000000 (x+1)):=by
 rw[Int.tdiv_eq_ediv_of_nonneg ah]
 have a:=Int.ediv_nonneg (show (0:Int)<=1000000000 by decide) (show (0:Int)<=x+1 by omega)
 have b:=Int.ediv_le_self (x+1) (show (0:Int)<=1000000000 by decide)
 unfold R64;omega
theorem dv_f (hB:0<B) (hbl:2<=(dig K9 B).length):∃ F:Nat,Int.tdiv 1000000000 ((iL (dig K9 B)).getD ((iL (dig K9 B)).length-1) 0+1)=(F:Int)/\0<F/\F<K9/\B*F<K9 ^ (dig K9 B).length:=by
 have ht:=dv_vt (B:=B) aa
 have hl:=(jg jx B).get (show 0<K9 by decide) ((dig K9 B).length-1)
 have hlast:=kl (β:=K9) (l:=dig K9 B) (n:=(dig K9 B).length-1) aa
 have hlow:=jR ((jg jx B).take ((dig K9 B).length-1))
 rw[zn,Nat.min_eq_left aa] at hlow
 rw[qR jx] at hlast
 have hpow:K9 ^ (dig K9 B).length=K9 ^ ((dig K9 B).length-1)*K9:=by rw[<-Nat.pow_succ];congr 1;omega
 rw[jQ,qG]
 generalize (dig K9 B).getD ((dig K9 B).length-1) 0=b at*
 have hk:K9=1000000000:=rfl
 refine⟨K9 / (b+1),?_,?_,?_,?_⟩
 ·grind
 ·exact Nat.div_pos aa aa
 ·exact Nat.div_lt_self ah aa
 rw[hpow]
 have h1:(b+1)*(K9 / (b+1))<=K9:=Nat.mul_div_le K9 (b+1)
 have hF:0<K9 / (b+1):=Nat.div_pos aa aa
 generalize K9 / (b+1)=F at*
 generalize K9 ^ ((dig K9 B).length-1)=P at*
 have h2:B<P*(b+1):=by grind
 have h3:B*F<P*(b+1)*F:=Nat.mul_lt_mul_of_pos_right h2 hF
 have h4:P*(b+1)*F<=P*K9:=by rw[Nat.mul_assoc];exact Nat.mul_le_mul_left P h1
 omega
theorem dv_vl (hB:0<B) (hF:0<F) (h:B*F<K9 ^ (dig K9 B).length):(dig K9 (B*F)).length=(dig K9 B).length:=by refine Nat.le_antisymm (ji jx h) (dv_al' (Nat.le_mul_of_pos_right B hF))
theorem dv_al (h:B<=A):(dig K9 B).length<=(dig K9 A).length:=dv_al' h
theorem dv_xl (hF:F<K9) (hB:0<B) (hBl:(dig K9 B).length<=100000):(dig K9 ((A%B)*F)).length<=100001:=by
 refine qh (ji jx (k:=(dig K9 B).length+1) ?_) aa
 rw[Nat.pow_succ]
 have h1:A%B<K9 ^ (dig K9 B).length:=Nat.lt_trans (Nat.mod_lt _ hB) (jC jx B)
 exact Nat.lt_of_le_of_lt (Nat.mul_le_mul_left _ (Nat.le_of_lt hF)) (Nat.mul_lt_mul_of_pos_right h1 ah)
theorem dz_l1 (h:cmpN A B<0):([]:List Int)=iL (dig K9 (A / B)):=by rw[Nat.div_eq_of_lt (dv_lt h),jN];rfl
theorem dz_l2 (h:cmpN A B<0):iL (dig K9 A)=iL (dig K9 (A%B)):=by rw[Nat.mod_eq_of_lt (dv_lt h)]
def PdI (A F:Nat) (x:List Int):Prop:=∃ k,x=iL (dig K9 (A*F)++List.replicate k 0)/\x.length<=(dig K9 A).length+1
theorem pd_0 (hF:F<K9):PdI A F (iL (dig K9 (A*F))):=by
 refine⟨0,by simp,?_⟩
 rw[qG]
 refine ji jx ?_
 rw[Nat.pow_succ]
 exact Nat.lt_of_le_of_lt (Nat.mul_le_mul_left _ (Nat.le_of_lt hF)) (Nat.mul_lt_mul_of_pos_right (jC jx A) ah)
theorem pd_l {x:List Int} (h:PdI A F x):x.length<=(dig K9 A).length+1:=by
 obtain⟨k,rfl,h⟩:=h
 exact h
theorem pd_n {x:List Int} (h:PdI A F x) (h3:(x.length:Int)<(((iL (dig K9 A)).length:Nat):Int)+1):PdI A F (x++[0]):=by
 obtain⟨k,rfl,h⟩:=h
 rw[qG] at h3
 refine⟨k+1,?_,?_⟩
 ·rw[show ([0]:List Int)=iL [0] from rfl,iL_app,z7,<-List.replicate_succ']
 rw[za];show _+1<=_;rw[qG] at h3 ⊢;omega
theorem pd_e {x:List Int} (h:PdI A F x) (h3:¬(x.length:Int)<(((iL (dig K9 A)).length:Nat):Int)+1):x.length=(dig K9 A).length+1:=by
 have:=pd_l h
 rw[qG] at h3
 omega
def DoI (A B F:Nat) (j:Int) (u q:List Int):Prop:= -1<=j/\j<q.length/\u.length=(dig K9 A).length+1/\q.length=u.length-(dig K9 (B*F)).length/\∃ un qn,u=iL un/\q=iL qn/\LdI K9 (A*F) (dig K9 (B*F)) (j+1).toNat un qn
variable {j:Int} {u q:List Int}
theorem do_l (h:DoI A B F j u q): -1<=j/\j<q.length/\u.length=(dig K9 A).length+1/\q.length=u.length-(dig K9 (B*F)).length:=⟨h.1,h.2.1,h.2.2.1,h.2.2.2.1⟩
theorem do_o {jn:Nat} (h:DoI A B F (jn:Int) u q):∃ un qn,u=iL un/\q=iL qn/\un.length=(dig K9 A).length+1/\qn.length=un.length-(dig K9 (B*F)).length/\jn<qn.length/\LdI K9 (A*F) (dig K9 (B*F)) (jn+1) un qn:=by
 obtain⟨h1,h2,h3,h4,un,qn,rfl,rfl,h⟩:=h
 grind [qG]
theorem ld_lt (hB:0<B) (hAB:B<=A) (hF:0<F) (hFB:B*F<K9 ^ (dig K9 B).length):A*F<B*F*K9 ^ ((dig K9 A).length+1-(dig K9 B).length):=by
 have h1:=jC jx A
 have h2:=nz_pos jx (nz_dig jx B) (fun e=>by have:=dig_nil jx e;omega)
 rw[qR jx] at h2
 have h3:=dv_al' hAB
 have h0:=(Qa (n:=B)).2 hB
 have h4:K9 ^ (dig K9 A).length=K9 ^ ((dig K9 B).length-1)*K9 ^ ((dig K9 A).length+1-(dig K9 B).length):=by rw[<-Nat.pow_add];congr 1;omega
 have h5:=Nat.mul_le_mul_right (K9 ^ ((dig K9 A).length+1-(dig K9 B).length)) h2
 have h6:A<B*K9 ^ ((dig K9 A).length+1-(dig K9 B).length):=aa
 have h7:=Nat.mul_lt_mul_of_pos_right h6 hF
 grind
theorem do_0 {x:List Int} {n:Nat} (h:PdI A F x) (he:x.length=(dig K9 A).length+1) (hB:0<B) (hAB:B<=A) (hF:0<F) (hFB:B*F<K9 ^ (dig K9 B).length) (hn:n=x.length-(dig K9 (B*F)).length) (hj:j=(n:Int)-1):DoI A B F j x (List.replicate n 0):=by
 have hv:=dv_vl hB hF hFB
 have h3:=dv_al' hAB
 obtain⟨k,rfl,_⟩:=h
 refine⟨aa,by rw[qd];omega,he,by rw[qd];exact hn,_,_,rfl,iL_rep,?_⟩
 rw[show (j+1).toNat=n by omega]
 have hd:Dg K9 (dig K9 (A*F)++List.replicate k 0):=(jg jx _).app (dg_zero ah _)
 have hval:val K9 (dig K9 (A*F)++List.replicate k 0)=A*F:=by rw[val_app,val_zero,qR jx];simp
 have:=ld_init (v:=dig K9 (B*F)) (j:=n) jx hd (by
  rw[hval,qR jx,hn,he,hv];exact ld_lt hB hAB hF hFB)
 rw[hval] at this
 exact this
section
variable {un qn:List Nat} {jn g:Nat} {n m:Nat} {w z w1:List Int} {d:Int}
theorem dz_1 (hLd:LdI K9 (A*F) (dig K9 (B*F)) (jn+1) un qn) (hV0:0<B*F) (hlV:n=(dig K9 (B*F)).length) (hu1:un.length=(dig K9 A).length+1) (hq1:qn.length=un.length-(dig K9 (B*F)).length) (hjq:jn<qn.length)
  (hg1:val K9 ((un.drop jn).take (n+1)) / val K9 (dig K9 (B*F))<=g) (hMd:MdI (dig K9 (B*F)) un g jn n w1) (h6:¬w1.getD (jn+n) 0<0):DoI A B F (((jn:Nat):Int)-1) w1 ((iL qn).set jn (g:Int)):=by
 obtain⟨o,e,ho,hl⟩:=fin_ok hLd (jg jx _) hlV.symm aa hjq (by rw[qR jx];exact hV0) hg1 hMd h6
 have h1:=hMd.len
 refine⟨aa,by rw[List.length_set,qG];omega,aa,by rw[List.length_set,qG];omega,o,qn.set jn g,e,iL_set,?_⟩
 rw[show (((jn:Nat):Int)-1+1).toNat=jn by omega]
 exact ho
theorem dz_2 (hLd:LdI K9 (A*F) (dig K9 (B*F)) (jn+1) un qn) (hV0:0<B*F) (hlV:n=(dig K9 (B*F)).length) (hu1:un.length=(dig K9 A).length+1) (hq1:qn.length=un.length-(dig K9 (B*F)).length) (hjq:jn<qn.length)
  (hg2:g<=val K9 ((un.drop jn).take (n+1)) / val K9 (dig K9 (B*F))+1) (hMd:MdI (dig K9 (B*F)) un g jn n w1) (h6:w1.getD (jn+n) 0<0) (hI3:AbI (dig K9 (B*F)) w1 jn n m d z) (hm:¬m<n) :
  DoI A B F (((jn:Nat):Int)-1) (z.set (jn+n) (z.getD (jn+n) 0+d)) ((iL qn).set jn (((g:Nat):Int)-1)):=by
 obtain⟨h1g,o,e,ho,hl⟩:=fin_ab hLd (jg jx _) hlV.symm aa hjq (by rw[qR jx];exact hV0) hg2 hMd h6 hI3 hm
 have h1:=hMd.len
 have h2:=hI3.len
 refine⟨aa,by rw[List.length_set,qG];omega,by rw[List.length_set];omega,by rw[List.length_set,List.length_set,qG];omega,o,qn.set jn (g-1),e,?_,?_⟩
 ·rw[show (g:Int)-1=((g-1:Nat):Int) by omega];exact iL_set
 rw[show (((jn:Nat):Int)-1+1).toNat=jn by omega]
 exact ho
theorem ab_top (hI3:AbI (dig K9 (B*F)) w1 jn n m d z) (hMd:MdI (dig K9 (B*F)) un g jn n w1): -1000000000<=z.getD (jn+n) 0/\z.getD (jn+n) 0<1000000000:=by
 have:=hI3.up (jn+n) (by have:=hI3.le;omega)
 rw[this];exact⟨hMd.low,hMd.top⟩
theorem do_e (h:DoI A B F j u q) (hj:¬0<=j) (hB:0<B) (hF:0<F) (hlV:n=(dig K9 (B*F)).length) (hln:n<=u.length):(∃ o,u.take n=iL o/\Dg K9 o/\val K9 o=A%B*F)/\∃ o,q=iL o/\Dg K9 o/\val K9 o=A / B:=by
 obtain⟨h1,h2,h3,h4,un,qn,rfl,rfl,h⟩:=h
 rw[show (j+1).toNat=0 by omega] at h
 have he:=ld_end h
 rw[qR jx] at he
 have hlt:val K9 un<K9 ^ n:=by
  rw[he.2,hlV]
  exact Nat.lt_trans (Nat.mod_lt _ (Nat.mul_pos hB hF)) (jC jx _)
 rw[qG] at hln
 refine⟨⟨un.take n,by rw[iL_take],h.1.take n,?_⟩,qn,rfl,h.2.1,?_⟩
 ·have hc:=val_cut' (β:=K9) hln
  have h0:val K9 (un.drop n)=0:=by
   rcases Nat.eq_zero_or_pos (val K9 (un.drop n)) with e|e
   ·exact e
   have:=Nat.mul_le_mul_left (K9 ^ n) e
   omega
  rw[h0,Nat.mul_zero,Nat.add_zero] at hc
  rw[<-hc,he.2,Nat.mul_mod_mul_right]
 rw[he.1,Nat.mul_div_mul_right _ _ hF]
end
end
theorem w260j (u v:List Nat) (k j:Nat) (hu:Dg K9 u) (hv:Dg K9 v) (hul:u.length<=10000000) (hvl:2<=v.length) (hj:j+v.length<u.length) (h0:0<v.getD (v.length-1) 0):qD Tryz.prog 219 [.aref 59 k,vL eI (iL v),vI (j:Int)] (qx [(59,.arr k 1 3 (List.map eI (iL u)))]) (vI (gsT u v j)) [(59,.arr k 1 3 (List.map eI (iL u)))]:=by
 have h:=w260 u v k j hu hv hul hvl hj (by rw[qG,jQ];omega)
 unfold gsT
 rw[qG,show (((j:Int)+(v.length:Int))-1).toNat=j+v.length-1 by omega,show (((j:Int)+(v.length:Int))-2).toNat=j+v.length-2 by omega] at h
 exact h
theorem w214 (A D:Nat) (hB:0<D) (hAl:(dig K9 A).length<=100000) (hDl:(dig K9 D).length<=100000):CKa 179 [vL eI (iL (dig K9 A)),vL eI (iL (dig K9 D))] (.tup [vL eI (iL (dig K9 (A / D))),vL eI (iL (dig K9 (A%D)))]):=by
 refine cG qf179 Z (nB Z) Z (E Z (B.ZH (enc:=eI) Z) (E Z (B.ZH (enc:=eI) Z) ?_))
 have hlA:=qG (l:=dig K9 A)
 have hlB:=qG (l:=dig K9 D)
 refine C Z (w219 A D aa aa) Z Z Z (Cp Z Z (fun h1=>?_) (fun h1=>?_))
 ·exact E Z (B.ZH (enc:=eI) Z) (Rt Z (lF Z (Zf (lsl cS) (lsl cS))))
 refine E Z (B.jp Z qY) (Cp Z Z (fun h2=>?_) (fun h2=>?_))
 ·have hB2:=dv_b1 h2
  exact E Z (B.idx (z:=0) Z Z qY sz3 (fun _=>rfl) Z cT) (C Z (w258b A D hAl hB hB2) Z Z Z (E Z (B.zA (es:=List.map eI [((A%D:Nat):Int)]) Z) (C Z (w259o (A%D) (Nat.lt_trans (Nat.mod_lt _ hB) hB2)) Z Z Z (Rt Z (leaf Z Z)))))
 have hbl:=dv_b2 hB h1 h2
 have hAB:=dv_ab h1
 have hBt:=Zg (jg jx D) ((iL (dig K9 D)).length-1)
 refine E Z (B.jp Z qY) (E Z (B.sub Z Z cU) (E Z (B.idx (z:=0) (i:=((iL (dig K9 D)).length-1)) Z Z qY sz3 (fun _=>rfl) aa cT) (E Z (B.add Z Z cU) (E Z (B.quo Z Z ⟨cT,cU⟩) (E Z (B.zA (es:=List.map eI [(Int.tdiv 1000000000 ((List.getD (iL (dig K9 D)) ((iL (dig K9 D)).length-1) 0)+1))]) Z) ?_)))))
 refine tk 7 Z ?_
 refine tn ⟨[(0,vL eI (iL (dig K9 A))),(1,vL eI (iL (dig K9 D))),(8,vL eI [(Int.tdiv 1000000000 ((List.getD (iL (dig K9 D)) ((iL (dig K9 D)).length-1) 0)+1))])],[]⟩ rfl rfl Z ?_
 obtain⟨F,hFe,hF0,hF1,hFB⟩:=dv_f hB hbl
 rw[hFe]
 refine kc (C Z (w221f D F hDl aa hF1) Z Z Z ?_)
 have hlV:=qG (l:=dig K9 (D*F))
 have hVe:=dv_vl hB hF0 hFB
 have hV2:2<=(dig K9 (D*F)).length:=aa
 have hVt:=dv_vt (B:=D*F) aa
 have hVd:=jg jx (D*F)
 have hV0:0<D*F:=Nat.mul_pos hB hF0
 refine E Z (B.jp Z qY) ?_
 have hpl:=pd_l (pd_0 (A:=A) (F:=F) hF1)
 refine E Z (B.run Z) (C Z (w221f A F hAl aa hF1) Z Z Z (E Z (B.append (l:=[]) Z Z Z qY in3 Z (fun _=>rfl) by3 cT) (l2 (fun (x:List Int) (k:Nat)=>[(0,vL eI (iL (dig K9 A))),(8,vL eI (iL [F])),(9,vL eI (iL (dig K9 (D*F)))),(10,vI (((iL (dig K9 (D*F))).length:Nat):Int)),(11,.aref 59 k)]) (fun x k=>[(59,.arr k 1 3 (List.map eI x))]) (fun x _=>PdI A F x) (fun x _=>(iL (dig K9 A)).length+1-x.length) (iL (dig K9 (A*F))) 1 Z ?_ (sb Z Z Z) ?_)))
 · exact pd_0 hF1
 intro x k hI0
 have hxl:=pd_l hI0
 refine E Z (B.lenA Z Z qY) (E Z (B.jp Z qY) (E Z (B.add Z Z cU) (Cp Z Z (fun h3=>?_) (fun h3=>?_))))
 ·refine E Z (B.zA (es:=List.map eI [0]) Z) (E Z (B.append Z Z Z qY in3 Z (fun _=>rfl) by3 cT) (pk Z (L2 (x++[0]) (k+1) ?_ ?_ (sb Z Z Z))))
  · exact pd_n hI0 h3
  · (simp only[za,qa];omega)
 have hAl2:=dv_al hAB
 have hxe:=pd_e hI0 h3
 refine E Z (B.lenA Z Z qY) (E Z (B.sub Z Z cU) (E Z (B.makeSV (enc:=eI) (sz:=1) (z0:=0) Z Z (Int.toNat_of_nonneg cT).symm (Int.toNat_of_nonneg cT).symm qY in3 Z Z Z by3 cT Z Z) (E Z (B.lenA Z Z qY) (E Z (B.sub Z Z cU) (E Z (B.sub Z Z cU) (l3 (fun (j:Int) (u:List Int) (q:List Int)=>[(8,vL eI (iL [F])),(9,vL eI (iL (dig K9 (D*F)))),(10,vI (((iL (dig K9 (D*F))).length:Nat):Int)),(11,.aref 59 k),(12,.aref 77 0),(13,vI j)]) (fun _ u q=>[(59,.arr k 1 3 (List.map eI u)),(77,.arr 0 1 3 (List.map eI q))]) (fun j u q=>DoI A D F j u q) (fun j _ _=>Int.toNat (j+1)) (((x.length:Int)-(((iL (dig K9 (D*F))).length:Nat):Int))-1) x (List.replicate (Int.toNat (((x.length:Nat):Int)-(((iL (dig K9 (D*F))).length:Nat):Int))) 0) Z ?_ (sb Z Z Z) ?_))))))
 · exact do_0 hI0 hxe hB hAB hF0 hFB aa aa
 intro j u q hI1
 have hdol:=do_l hI1
 refine Cp Z Z (fun h4=>?_) (fun h4=>?_)
 ·obtain⟨jn,rfl⟩:∃ jn:Nat,j=(jn:Int):=⟨Int.toNat j,aa⟩
  obtain⟨un,qn,rfl,rfl,hu1,hq1,hjq,hLd⟩:=do_o hI1
  refine E Z (B.jd (w260j un (dig K9 (D*F)) k jn hLd.1 (jg jx _) aa hV2 aa hVt) Z Z ⟨rfl,trivial⟩ rfl rfl) ?_
  refine tk 17 Z ?_
  refine tn ⟨[(8,vL eI (iL [F])),(9,vL eI (iL (dig K9 (D*F)))),(10,vI (((iL (dig K9 (D*F))).length:Nat):Int)),(11,.aref 59 k),(12,.aref 77 0),(13,vI (jn:Int)),(14,vI (gsT un (dig K9 (D*F)) jn))],[(59,.arr k 1 3 (List.map eI (iL un))),(77,.arr 0 1 3 (List.map eI (iL qn)))]⟩ rfl rfl Z ?_
  obtain⟨g,hge,hg1,hg2,hg3⟩:=gsT_ok (n:=(iL (dig K9 (D*F))).length) hLd (jg jx _) hlV.symm aa aa (by rw[hlV];exact hVt)
  have hgg:(0:Int)<=(g:Int)/\(g:Int)<1000000000:=by have e9:K9=1000000000:=rfl;omega
  rw[hge]
  refine kc (l3 (fun (i:Nat) (c:Int) (w:List Int)=>[(8,vL eI (iL [F])),(9,vL eI (iL (dig K9 (D*F)))),(10,vI (((iL (dig K9 (D*F))).length:Nat):Int)),(11,.aref 59 k),(12,.aref 77 0),(13,vI (jn:Int)),(14,vI (g:Int)),(15,vI c),(16,vI (i:Int))]) (fun _ _ w=>[(59,.arr k 1 3 (List.map eI w)),(77,.arr 0 1 3 (List.map eI (iL qn)))]) (fun i c w=>SbI (dig K9 (D*F)) un (g:Int) jn ((iL (dig K9 (D*F))).length) i c w) (fun i _ _=>((iL (dig K9 (D*F))).length)-i) 0 0 (iL un) Z ?_ (sb Z Z Z) ?_)
  · exact sb_init hLd.1
  intro i c w hI2
  have hsp:=sb_p hI2 hgg hVd
  have hc0:=hI2.c0
  have hc1:=hI2.c1
  have hwl:=hI2.len
  have hwd:=hI2.dig (i+jn)
  have hwt:=hI2.dig (jn+((iL (dig K9 (D*F))).length))
  refine Cp Z Z (fun h5=>?_) (fun h5=>?_)
  ·have hvi:=Zg hVd i
   refine E Z (B.idx (z:=0) Z Z qY sz3 (fun _=>rfl) Z cT) (E Z (B.mul Z Z cU) (E Z (B.add Z Z cU) (E Z (B.add Z Z cU) (E Z (B.ZO (n:=(i+jn)) Z Z Z qY sz3 aa cT) (E Z (B.loadE (z0:=0) Z Z ag3 sz3 cT Z) (E Z (B.remN Z Z cT ah) (E Z (B.sub Z Z cU) (E Z (B.quoN Z Z cT ah cU) (Cp Z Z (fun h6=>?_) (fun h6=>?_))))))))))
   ·refine E Z (B.add Z Z cU) (E Z (B.add Z Z cU) (E Z (B.add Z Z cU) (E Z (B.ZO (n:=(i+jn)) Z Z Z qY sz3 aa cT) (E Z (B.setE (z0:=(((w.getD (i+jn) 0)-(((((g:Nat):Int)*(List.getD (iL (dig K9 (D*F))) i 0))+c)%1000000000))+1000000000)) Z Z Z Z Z sz3 cT (fun _=>rfl)) (E Z (B.add Z Z cU) (pk Z (L3 (i+1) (((((g:Int)*(List.getD (iL (dig K9 (D*F))) i 0))+c) / 1000000000)+1) (List.set w (i+jn) (((w.getD (i+jn) 0)-(((((g:Nat):Int)*(List.getD (iL (dig K9 (D*F))) i 0))+c)%1000000000))+1000000000)) ?_ ?_ (sb Z Z Z))))))))
    · first|exact sb_1 hI2 hgg hVd aa aa ab|exact sb_2 hI2 hgg hVd aa aa ab
    · omega
   refine E Z (B.add Z Z cU) (E Z (B.ZO (n:=(i+jn)) Z Z Z qY sz3 aa cT) (E Z (B.setE (z0:=((w.getD (i+jn) 0)-(((((g:Nat):Int)*(List.getD (iL (dig K9 (D*F))) i 0))+c)%1000000000))) Z Z Z Z Z sz3 cT (fun _=>rfl)) (E Z (B.add Z Z cU) (pk Z (L3 (i+1) (((((g:Nat):Int)*(List.getD (iL (dig K9 (D*F))) i 0))+c) / 1000000000) (List.set w (i+jn) ((w.getD (i+jn) 0)-(((((g:Nat):Int)*(List.getD (iL (dig K9 (D*F))) i 0))+c)%1000000000))) ?_ ?_ (sb Z Z Z))))))
   · first|exact sb_1 hI2 hgg hVd aa aa ab|exact sb_2 hI2 hgg hVd aa aa ab
   · omega
  refine E Z (B.add Z Z cU) (E Z (B.add Z Z cU) (E Z (B.ZO (n:=(jn+(iL (dig K9 (D*F))).length)) Z Z Z qY sz3 aa cT) (E Z (B.loadE (z0:=0) Z Z ag3 sz3 cT Z) (E Z (B.sub Z Z cU) (E Z (B.ZO (n:=(jn+(iL (dig K9 (D*F))).length)) Z Z Z qY sz3 aa cT) (E Z (B.setE (z0:=((w.getD (jn+(iL (dig K9 (D*F))).length) 0)-c)) Z Z Z Z Z sz3 cT (fun _=>rfl)) ?_))))))
  have hMd:=md_of hI2 aa hlV.symm aa
  refine E Z (B.add Z Z cU) (E Z (B.ZO (n:=(jn+(iL (dig K9 (D*F))).length)) Z Z Z qY sz3 aa cT) (E Z (B.loadE (z0:=0) Z Z ag3 sz3 cT Z) (Cp Z Z (fun h7=>?_) (fun h7=>?_))))
  ·refine E Z (B.sub Z Z cU) (l3 (fun (m:Nat) (d:Int) (z:List Int)=>[(8,vL eI (iL [F])),(9,vL eI (iL (dig K9 (D*F)))),(10,vI (((iL (dig K9 (D*F))).length:Nat):Int)),(11,.aref 59 k),(12,.aref 77 0),(13,vI (jn:Int)),(14,vI (((g:Nat):Int)-1)),(19,vI d),(20,vI (m:Int))]) (fun _ _ z=>[(59,.arr k 1 3 (List.map eI z)),(77,.arr 0 1 3 (List.map eI (iL qn)))]) (fun m d z=>AbI (dig K9 (D*F)) (List.set w (jn+((iL (dig K9 (D*F))).length)) ((w.getD (jn+((iL (dig K9 (D*F))).length)) 0)-c)) jn ((iL (dig K9 (D*F))).length) m d z) (fun m _ _=>((iL (dig K9 (D*F))).length)-m) 0 0 (List.set w (jn+(iL (dig K9 (D*F))).length) ((w.getD (jn+(iL (dig K9 (D*F))).length) 0)-c)) Z ?_ (sb Z Z Z) ?_)
   · exact ab_init hMd
   intro m d z hI3
   have hd0:=hI3.d0
   have hd1:=hI3.d1
   have hzl:=hI3.len.trans hMd.len
   have hzt:=ab_top hI3 hMd
   have hvm:=Zg hVd m
   have hw1l:=hMd.len
   refine Cp Z Z (fun h8=>?_) (fun h8=>?_)
   ·have hzd:=hI3.dig (m+jn) aa
    refine E Z (B.add Z Z cU) (E Z (B.ZO (n:=(m+jn)) Z Z Z qY sz3 aa cT) (E Z (B.loadE (z0:=0) Z Z ag3 sz3 cT Z) (E Z (B.idx (z:=0) Z Z qY sz3 (fun _=>rfl) Z cT) (E Z (B.add Z Z cU) (E Z (B.add Z Z cU) (Dr Z ae (E Z (B.add Z Z cU) (E Z (B.remN Z Z cT ah) (E Z (B.ZO (n:=(m+jn)) Z Z Z qY sz3 aa cT) (E Z (B.setE (z0:=((((z.getD (m+jn) 0)+(List.getD (iL (dig K9 (D*F))) m 0))+d)%1000000000)) Z Z Z Z Z sz3 cT (fun _=>rfl)) (E Z (B.quoN Z Z cT ah cU) (E Z (B.add Z Z cU) (pk Z (L3 (m+1) ((((z.getD (m+jn) 0)+(List.getD (iL (dig K9 (D*F))) m 0))+d) / 1000000000) (List.set z (m+jn) ((((z.getD (m+jn) 0)+(List.getD (iL (dig K9 (D*F))) m 0))+d)%1000000000)) ?_ ?_ (sb Z Z Z)))))))))))))))
    · exact ab_next hI3 hVd aa aa
    · omega
   refine E Z (B.add Z Z cU) (E Z (B.add Z Z cU) (E Z (B.ZO (n:=(jn+(iL (dig K9 (D*F))).length)) Z Z Z qY sz3 aa cT) (E Z (B.loadE (z0:=0) Z Z ag3 sz3 cT Z) (E Z (B.add Z Z cU) (E Z (B.ZO (n:=(jn+(iL (dig K9 (D*F))).length)) Z Z Z qY sz3 aa cT) (E Z (B.setE (z0:=((z.getD (jn+(iL (dig K9 (D*F))).length) 0)+d)) Z Z Z Z Z sz3 cT (fun _=>rfl)) (E Z (B.ZO Z Z Z qY sz3 Z cT) (E Z (B.setE (z0:=(((g:Nat):Int)-1)) Z Z Z Z Z sz3 cT (fun _=>rfl)) (E Z (B.sub Z Z cU) (pk Z (L3 (((jn:Nat):Int)-1) (List.set z (jn+(iL (dig K9 (D*F))).length) ((z.getD (jn+(iL (dig K9 (D*F))).length) 0)+d)) (List.set (iL qn) jn (((g:Nat):Int)-1)) ?_ ?_ (sb Z Z Z))))))))))))
   · first|exact dz_2 hLd hV0 hlV hu1 hq1 hjq hg2 hMd h7 hI3 aa|exact dz_1 hLd hV0 hlV hu1 hq1 hjq hg1 hMd h7
   · omega
  refine E Z (B.ZO Z Z Z qY sz3 Z cT) (E Z (B.setE (z0:=(g:Int)) Z Z Z Z Z sz3 cT (fun _=>rfl)) (E Z (B.sub Z Z cU) (pk Z (L3 (((jn:Nat):Int)-1) (List.set w (jn+(iL (dig K9 (D*F))).length) ((w.getD (jn+(iL (dig K9 (D*F))).length) 0)-c)) (List.set (iL qn) jn (g:Int)) ?_ ?_ (sb Z Z Z)))))
  · first|exact dz_2 hLd hV0 hlV hu1 hq1 hjq hg2 hMd h7 hI3 aa|exact dz_1 hLd hV0 hlV hu1 hq1 hjq hg1 hMd h7
  · omega
 have hDe:=do_e hI1 aa hB hF0 hlV aa
 have hdl1:(List.take ((iL (dig K9 (D*F))).length) u).length<=1000000000:=by rw[zn];omega
 have hdl2:q.length<=1000000000:=aa
 have hdu:=do_l hI1
 have hXl:=dv_xl (A:=A) hF1 hB hDl
 exact Fz 40 11 Z Z Z (Fz 40 12 Z Z Z (E Z (B.slT Z Z qY sz3 Z cT) (C Z (w259w hDe.1 hdl1) Z Z Z (E Z (B.idx (z:=0) Z Z qY sz3 (fun _=>rfl) Z cT) (C Z (w258e A D F hXl hF0 hF1) Z Z Z (Dr Z ae (C Z (w259w hDe.2 hdl2) Z Z Z (Rt Z (leaf Z Z)))))))))
abbrev azD (z:Int):DV:=.pv (.agg [pB (decide (z<0)),.slice (List.map eI (iL (dig K9 (Int.natAbs z))))])
theorem k9p (k:Nat):K9 ^ k*K9=K9 ^ (k+1):=(Nat.pow_succ ..).symm
section
variable {m n k:Nat} {x y:Int}
theorem dl_g (h1:m<K9 ^ k) (h2:n<K9 ^ k):m+n<K9 ^ (k+1):=by
 rw[<-k9p]
 generalize K9 ^ k=p at*
 have:p*2<=p*K9:=Nat.mul_le_mul_left p ah
 omega
theorem dl_h (h1:m<K9 ^ k) (h2:n<K9 ^ k):m*n<K9 ^ (k+k):=by
 rw[Nat.pow_add]
 exact Nat.mul_lt_mul'' h1 h2
theorem dl_a (hm:(dig K9 m).length<=100000) (hn:(dig K9 n).length<=100000):(dig K9 (m+n)).length<=1000000000:=by
 refine qh (ji jx (k:=100000+1) ?_) ah
 have h1:=Nat.lt_of_lt_of_le (jC jx m) (Nat.pow_le_pow_right (show 0<K9 by decide) hm)
 have h2:=Nat.lt_of_lt_of_le (jC jx n) (Nat.pow_le_pow_right (show 0<K9 by decide) hn)
 exact dl_g (k:=100000) h1 h2
theorem dl_s (hm:(dig K9 m).length<=100000) (_:(dig K9 n).length<=100000):(dig K9 (m-n)).length<=1000000000:=
 qh (dv_al' (Nat.sub_le m n)) (qh hm ah)
theorem dl_m (hm:(dig K9 m).length<=100000) (hn:(dig K9 n).length<=100000):(dig K9 (m*n)).length<=1000000000:=by
 refine qh (ji jx (k:=100000+100000) ?_) ah
 have h1:=Nat.lt_of_lt_of_le (jC jx m) (Nat.pow_le_pow_right (show 0<K9 by decide) hm)
 have h2:=Nat.lt_of_lt_of_le (jC jx n) (Nat.pow_le_pow_right (show 0<K9 by decide) hn)
 exact dl_h (k:=100000) h1 h2
theorem w218d (m n:Nat) (hm:(dig K9 m).length<=100000) (hn:(dig K9 n).length<=100000):CKa 181 [vL eI (iL (dig K9 m)),vL eI (iL (dig K9 n))] (vL eI (iL (dig K9 (m+n)))):=by
 have h:=w218 (dig K9 m) (dig K9 n) (jg jx _) (jg jx _) (qh hm ah) (qh hn ah) (nz_dig jx _) (nz_dig jx _)
 rw[qR jx,qR jx] at h
 exact h
theorem w220d (m n:Nat) (hm:(dig K9 m).length<=100000) (hn:(dig K9 n).length<=100000) (hv:n<=m):CKa 183 [vL eI (iL (dig K9 m)),vL eI (iL (dig K9 n))] (vL eI (iL (dig K9 (m-n)))):=by
 have h:=w220 (dig K9 m) (dig K9 n) (jg jx _) (jg jx _) (qh hm ah) (qh hn ah) (dv_al' hv) (by rw[qR jx,qR jx];exact hv)
 rw[qR jx,qR jx] at h
 exact h
theorem w221d (m n:Nat) (hm:(dig K9 m).length<=100000) (hn:(dig K9 n).length<=100000):CKa 180 [vL eI (iL (dig K9 m)),vL eI (iL (dig K9 n))] (vL eI (iL (dig K9 (m*n)))):=by
 have h:=w221 (dig K9 m) (dig K9 n) (jg jx _) (jg jx _) (qh hm ah) (qh hn ah)
 rw[qR jx,qR jx] at h
 exact h
theorem w215d (b:Bool) (n:Nat) (hn:(dig K9 n).length<=1000000000):CKa 135 [vB b,vL eI (iL (dig K9 n))] (azD (sgn b n)):=by
 have h:=w215 b (dig K9 n) (jg jx _) hn
 rw[qR jx] at h
 exact h
theorem pm_a (h:0<=cmpN m n):n<=m:=by
 rcases Nat.lt_or_ge m n with g|g
 ·rw[cmp_lt' g] at h;exact absurd h ah
 exact g
theorem pm_b (h:¬0<=cmpN m n):m<=n:=by
 rcases Nat.lt_or_ge n m with g|g
 ·rw[cmp_gt' g] at h;exact absurd ah h
 exact g
theorem rpl_1 (h:(decide (x<0)==decide (y<0))=true):sgn (decide (x<0)) (x.natAbs+y.natAbs)=x+y:=by
 unfold sgn
 have:=decide_eq_decide.1 (eq_of_beq h)
 by_cases hx:x<0
 ·rw[if_pos (zl hx)];have:=this.1 hx;omega
 rw[if_neg (by simpa using hx)];omega
theorem rpl_2 (hb:(decide (x<0)==decide (y<0))=false) (h2:0<=cmpN x.natAbs y.natAbs):sgn (decide (x<0)) (x.natAbs-y.natAbs)=x+y:=by
 have h:¬decide (x<0)=decide (y<0):=ne_of_beq_false hb
 have:=pm_a h2
 unfold sgn
 rw[decide_eq_decide] at h
 by_cases hx:x<0
 ·rw[if_pos (zl hx)]
  by_cases hy:y<0
  ·exact absurd ⟨fun _=>hy,fun _=>hx⟩ h
  omega
 rw[if_neg (by simpa using hx)]
 by_cases hy:y<0
 ·omega
 exact absurd ⟨fun q=>absurd q hx,fun q=>absurd q hy⟩ h
theorem pl_3 (hb:(decide (x<0)==decide (y<0))=false) (h2:¬0<=cmpN x.natAbs y.natAbs):sgn (decide (y<0)) (y.natAbs-x.natAbs)=x+y:=by
 have h:¬decide (x<0)=decide (y<0):=ne_of_beq_false hb
 have:=pm_b h2
 unfold sgn
 rw[decide_eq_decide] at h
 by_cases hy:y<0
 ·rw[if_pos (zl hy)]
  by_cases hx:x<0
  ·exact absurd ⟨fun _=>hy,fun _=>hx⟩ h
  omega
 rw[if_neg (by simpa using hy)]
 by_cases hx:x<0
 ·omega
 exact absurd ⟨fun q=>absurd q hx,fun q=>absurd q hy⟩ h
theorem pl_4:sgn (!(decide (x<0)==decide (y<0))) (x.natAbs*y.natAbs)=x*y:=by
 unfold sgn
 rw[Int.natCast_mul]
 by_cases hx:x<0
 ·have ex:x= -(x.natAbs:Int):=aa
  by_cases hy:y<0
  ·have ey:y= -(y.natAbs:Int):=aa
   rw[zl hx,zl hy]
   show (x.natAbs:Int)*(y.natAbs:Int)=x*y
   generalize x.natAbs=a at*
   generalize y.natAbs=b at*
   rw[ex,ey,Int.neg_mul_neg]
  have ey:y=(y.natAbs:Int):=aa
  rw[zl hx,zk hy]
  show -(((x.natAbs:Nat):Int)*(y.natAbs:Int))=x*y
  generalize x.natAbs=a at*
  generalize y.natAbs=b at*
  rw[ex,ey,Int.neg_mul]
 have ex:x=(x.natAbs:Int):=aa
 by_cases hy:y<0
 ·have ey:y= -(y.natAbs:Int):=aa
  rw[zk hx,zl hy]
  show -(((x.natAbs:Nat):Int)*(y.natAbs:Int))=x*y
  generalize x.natAbs=a at*
  generalize y.natAbs=b at*
  rw[ex,ey,Int.mul_neg]
 have ey:y=(y.natAbs:Int):=aa
 rw[zk hx,zk hy]
 show (x.natAbs:Int)*(y.natAbs:Int)=x*y
 generalize x.natAbs=a at*
 generalize y.natAbs=b at*
 rw[ex,ey]
theorem pl_5:sgn (!decide (x<0)) x.natAbs= -x:=by
 unfold sgn
 by_cases hx:x<0
 ·rw[zl hx];simp;omega
 rw[zk hx];simp;omega
theorem cm_p {q:Nat} (h:0<(((iL (dig K9 q)).length:Nat):Int)):0<q:=by
 rw[qG] at h
 exact Qa.1 aa
theorem cm_n {a b p q:Nat} (h:Nat.gcd p q=Nat.gcd a b/\(dig K9 p).length<=100000/\(dig K9 q).length<=100000) (hq:0<q):Nat.gcd q (p%q)=Nat.gcd a b/\(dig K9 q).length<=100000/\(dig K9 (p%q)).length<=100000:=by
 obtain⟨h1,h2,h3⟩:=h
 refine⟨?_,h3,qh (dv_al' (Nat.le_of_lt (Nat.mod_lt _ hq))) h3⟩
 rw[<-h1,Nat.gcd_comm p q,Nat.gcd_rec q p,Nat.gcd_comm]
theorem cm_e {a b p q:Nat} (h:Nat.gcd p q=Nat.gcd a b/\(dig K9 p).length<=100000/\(dig K9 q).length<=100000) (h1:¬0<(((iL (dig K9 q)).length:Nat):Int)):iL (dig K9 p)=iL (dig K9 (Nat.gcd a b)):=by
 rw[qG] at h1
 have hq:q=0:=by
  rcases Nat.eq_zero_or_pos q with e|e
  ·exact e
  have:=Qa.2 e;omega
 rw[hq,Nat.gcd_zero_right] at h
 rw[h.1]
theorem gc_n {a b p q:Nat} (h:Nat.gcd p q=Nat.gcd a b) (_:0<(q:Int)):Nat.gcd q (p%q)=Nat.gcd a b:=by
 rw[<-h,Nat.gcd_comm p q,Nat.gcd_rec q p,Nat.gcd_comm]
theorem gc_e {a b p q:Nat} (h:Nat.gcd p q=Nat.gcd a b) (h1:¬0<(q:Int)):(p:Int)=((Nat.gcd a b:Nat):Int):=by
 have hq:q=0:=aa
 rw[hq,Nat.gcd_zero_right] at h
 rw[h]
end
theorem w159 (x y:Int) (ha:(dig K9 (Int.natAbs x)).length<=100000) (hb:(dig K9 (Int.natAbs y)).length<=100000):CKa 133 [.pv (.agg [pB (decide (x<0)),pL eI (iL (dig K9 (Int.natAbs x)))]),.pv (.agg [pB (decide (y<0)),pL eI (iL (dig K9 (Int.natAbs y)))])] (.pv (.agg [pB (decide ((x+y)<0)),pL eI (iL (dig K9 (Int.natAbs (x+y))))])):=by
 refine cG qf133 Z (nB Z) Z (E Z (B.bN Z Z) (E Z (B.bqB Z Z un4) (Cb Z Z (fun h1=>?_) (fun h1=>?_))))
 ·exact C Z (w218d (Int.natAbs x) (Int.natAbs y) ha hb) Z Z Z (C Z (w215d (decide (x<0)) ((Int.natAbs x)+(Int.natAbs y)) (dl_a ha hb)) Z Z Z (Dr Z ae (Rt Z (lF Z cV))))
 refine C Z (w219 (Int.natAbs x) (Int.natAbs y) (qh ha ah) (qh hb ah)) Z Z Z (Cp Z Z (fun h2=>?_) (fun h2=>?_))
 ·exact C Z (w220d (Int.natAbs x) (Int.natAbs y) ha hb cW) Z Z Z (C Z (w215d (decide (x<0)) ((Int.natAbs x)-(Int.natAbs y)) (dl_s ha hb)) Z Z Z (Dr Z ae (Rt Z (lF Z cV))))
 exact C Z (w220d (Int.natAbs y) (Int.natAbs x) hb ha cW) Z Z Z (C Z (w215d (decide (y<0)) ((Int.natAbs y)-(Int.natAbs x)) (dl_s hb ha)) Z Z Z (Dr Z ae (Rt Z (lF Z cV))))
theorem w160 (x y:Int) (ha:(dig K9 (Int.natAbs x)).length<=100000) (hb:(dig K9 (Int.natAbs y)).length<=100000):CKa 132 [.pv (.agg [pB (decide (x<0)),pL eI (iL (dig K9 (Int.natAbs x)))]),.pv (.agg [pB (decide (y<0)),pL eI (iL (dig K9 (Int.natAbs y)))])] (.pv (.agg [pB (decide ((x*y)<0)),pL eI (iL (dig K9 (Int.natAbs (x*y))))])):=by
 exact cG qf132 Z (nB Z) Z (E Z (B.bN Z Z) (E Z (B.bnB Z Z un4) (C Z (w221d (Int.natAbs x) (Int.natAbs y) ha hb) Z Z Z (C Z (w215d (!((decide (x<0))==(decide (y<0)))) ((Int.natAbs x)*(Int.natAbs y)) (dl_m ha hb)) Z Z Z (Dr Z ae (Rt Z (lF Z (by first|exact congrArg azD (pl_4)|rfl))))))))
theorem w213 (x:Int) (ha:(dig K9 (Int.natAbs x)).length<=100000):CKa 178 [.pv (.agg [pB (decide (x<0)),pL eI (iL (dig K9 (Int.natAbs x)))])] (.pv (.agg [pB (decide ((-x)<0)),pL eI (iL (dig K9 (Int.natAbs (-x))))])):=by
 exact cG qf178 Z (nB Z) Z (E Z (B.bN Z Z) (C Z (w215d (!(decide (x<0))) (Int.natAbs x) (qh ha ah)) Z Z Z (Rt Z (lF Z (by first|exact congrArg azD (pl_5)|rfl)))))
theorem w195 (a b:Nat) (ha:(dig K9 a).length<=100000) (hb:(dig K9 b).length<=100000):CKa 174 [vL eI (iL (dig K9 a)),vL eI (iL (dig K9 b))] (vL eI (iL (dig K9 (Nat.gcd a b)))):=by
 refine cG qf174 Z (nB Z) Z (E Z (B.ZH (enc:=eI) Z) (l2 (fun (p:Nat) (q:Nat)=>[(0,vL eI (iL (dig K9 p))),(1,vL eI (iL (dig K9 q)))]) (fun _ _=>[]) (fun p q=>Nat.gcd p q=Nat.gcd a b/\List.length (dig K9 p)<=100000/\List.length (dig K9 q)<=100000) (fun _ q=>q) a b Z ?_ (sb Z Z Z) ?_))
 · exact⟨rfl,ha,hb⟩
 intro p q hI0
 refine E Z (B.jp Z qY) (Cp Z Z (fun h1=>?_) (fun h1=>?_))
 ·refine C Z (w214 p q (cm_p h1) aa aa) Z Z Z (pk Z (L2 q (p%q) ?_ ?_ (sb Z Z Z)))
  · exact cm_n hI0 (cm_p h1)
  · exact Nat.mod_lt _ (cm_p h1)
 exact Rt Z (lF Z (lsl (by exact cm_e hI0 h1)))
theorem w154 (a b:Nat) (ha:a<9223372036854775808) (hb:b<9223372036854775808):CKa 176 [vI (a:Int),vI (b:Int)] (vI (((Nat.gcd a b):Nat):Int)):=by
 refine cG qf176 Z (nB Z) Z (l2 (fun (p:Nat) (q:Nat)=>[(0,vI (p:Int)),(1,vI (q:Int))]) (fun _ _=>[]) (fun p q=>Nat.gcd p q=Nat.gcd a b) (fun _ q=>q) a b Z ?_ (sb Z Z Z) ?_)
 · exact rfl
 intro p q hI0
 refine Cp Z Z (fun h1=>?_) (fun h1=>?_)
 ·refine E Z (B.rem Z Z aa) (Dr Z ae (pk Z (L2 q (p%q) ?_ ?_ (sb Z Z Z))))
  · exact gc_n hI0 h1
  · exact Nat.mod_lt _ aa
 exact Rt Z (lF Z (li (by exact gc_e hI0 h1)))
theorem dgs_eq:∀ {s t:Nb},Dgs s->Dgs t->s.length=t.length->jw s=jw t->s=t:=by
 intro s
 induction s with
 | nil=>intro t _ _ h _;exact (List.length_eq_zero_iff.1 h.symm).symm
 | cons c s ih=>
  intro t hs ht hl hv
  cases t with
  | nil=>cases hl
  | cons d t=>
   have hs':Dgs s:=fun x hx=>hs x (zN _ hx)
   have ht':Dgs t:=fun x hx=>ht x (zN _ hx)
   have hl':s.length=t.length:=by simpa using hl
   have e1:=Ze [c] s
   have e2:=Ze [d] t
   rw[decV_one] at e1 e2
   have l1:=kK hs'
   have l2:=kK ht'
   have c1:=hs c (ql ..)
   have d1:=ht d (ql ..)
   rw[show [c]++s=c::s from rfl] at e1
   rw[show [d]++t=d::t from rfl] at e2
   rw[e1,e2,hl'] at hv
   rw[hl'] at l1
   have hc:dgv c=dgv d:=by
    generalize 10 ^ t.length=P at*
    rcases Nat.lt_trichotomy (dgv c) (dgv d) with h|h|h
    ·have:=Nat.mul_le_mul_right P (show dgv c+1<=dgv d from h)
     rw[Nat.add_mul,Nat.one_mul] at this;omega
    ·exact h
    have:=Nat.mul_le_mul_right P (show dgv d+1<=dgv c from h)
    rw[Nat.add_mul,Nat.one_mul] at this;omega
   rw[hc] at hv
   rw[ih hs' ht' hl' aa]
   congr 1
   refine UInt8.toNat_inj.1 ?_
   unfold dgv at hc
   omega
def DcI (n m p:Nat) (s:Nb):Prop:=Dgs s/\jw s+10 ^ s.length*p=n/\(s.length<=m\/10 ^ (s.length-1)<=n)
section
variable {n m p:Nat} {s:Nb}
theorem dc_0 (hm:1<=m):DcI n m n []:=⟨fun _ hc=>absurd hc qm,by simp[jw],.inl ao⟩
theorem dc_l (h:DcI n m p s) (hn:n<9223372036854775808) (hm:m<=100):s.length<=100:=by
 rcases h.2.2 with g|g
 ·omega
 rcases Nat.lt_or_ge s.length 21 with k|k
 ·omega
 have:=Nat.pow_le_pow_right (show 0<10 by decide) (show 20<=s.length-1 by omega)
 omega
theorem dc_p (h:DcI n m p s):p<=n:=by
 have:=Nat.le_mul_of_pos_left p (Nat.pow_pos (n:=s.length) (show 0<10 by decide))
 have:=h.2.1
 omega
theorem dc_d (d:Nat) (h:d<10):(Zl.take (d+1)).drop d=[UInt8.ofNat (48+d)]:=by
 have key:∀ d,d<10->(Zl.take (d+1)).drop d=[UInt8.ofNat (48+d)]:=ah
 exact key d h
theorem dc_s:List.drop (Int.toNat (((p:Nat):Int)%10)) (List.take (Int.toNat (((p:Int)%10)+1)) [48,49,50,51,52,53,54,55,56,57])=[UInt8.ofNat (48+p%10)]:=by
 rw[show Int.toNat (((p:Nat):Int)%10)=p%10 by omega,show Int.toNat (((p:Int)%10)+1)=p%10+1 by omega]
 exact dc_d _ (Nat.mod_lt _ ah)
theorem dc_or {a b:Prop} [Decidable a] [Decidable b] (h1:(bif decide a then true else decide b)=true):a\/b:=by grind
theorem dc_no {a b:Prop} [Decidable a] [Decidable b] (h1:(bif decide a then true else decide b)=false):¬a/\¬b:=by grind
theorem dc_n (h:DcI n m p s) (h1:(bif decide (0<(p:Int)) then true else decide (((s.length:Nat):Int)<(m:Int)))=true):DcI n m (p / 10) ([UInt8.ofNat (48+p%10)]++s):=by
 obtain⟨a,b,c⟩:=h
 have hd:=dg_byte (d:=p%10) (Nat.mod_lt _ ah)
 have hlt:p%10<10:=Nat.mod_lt _ ah
 have hg:dgv (UInt8.ofNat (48+p%10))=p%10:=by unfold dgv;rw[hd];omega
 refine⟨?_,?_,?_⟩
 ·exact Dgs.app (fun x hx=>by rw[zg.1 hx,hd];omega) a
 ·rw[Ze,decV_one,hg,za,qa,Nat.pow_add,Nat.pow_one]
  have e:=Nat.mod_add_div p 10
  grind
 rw[za,qa]
 rcases dc_or h1 with g|g
 ·right
  rw[Nat.add_sub_cancel_left]
  have:=Nat.le_mul_of_pos_right (10 ^ s.length) (show 0<p by omega)
  omega
 left;omega
theorem dc_m (h1:(bif decide (0<(p:Int)) then true else decide (((s.length:Nat):Int)<(m:Int)))=true):p / 10+(m-([UInt8.ofNat (48+p%10)]++s).length)<p+(m-s.length):=by grind
theorem pad_len (k n:Nat):(padN k n).length=max k (Lib.decDigits n).length:=by unfold padN;rw[za,qd];omega
theorem pad_dgs (k n:Nat):Dgs (padN k n):=(dgs_zeros _).app (j2 n)
theorem pad_val (k n:Nat):jw (padN k n)=n:=by unfold padN;rw[Ze,decV_zeros,kC,Nat.zero_mul,Nat.zero_add]
theorem dc_e (h:DcI n m p s) (h1:(bif decide (0<(p:Int)) then true else decide (((s.length:Nat):Int)<(m:Int)))=false) (hm:1<=m):s=padN m n:=by
 obtain⟨a,b,c⟩:=h
 obtain⟨g1,g2⟩:=dc_no h1
 have hp:p=0:=aa
 rw[hp,Nat.mul_zero,Nat.add_zero] at b
 refine dgs_eq a (pad_dgs m n) ?_ (by rw[pad_val,b])
 rw[pad_len]
 have l1:=kK a
 rw[b] at l1
 have l2:=dec_len (n:=n) (k:=s.length) aa l1
 rcases c with c|c
 ·omega
 have l3:=kK (j2 n)
 rw[kC] at l3
 have:s.length-1<(Lib.decDigits n).length:=(Nat.pow_lt_pow_iff_right (show 1<10 by decide)).1 (Nat.lt_of_le_of_lt c l3)
 omega
end
theorem k9_10 (k:Nat):K9 ^ k=10 ^ (9*k):=by rw[Nat.pow_mul]
theorem dec_k9 {n k:Nat} (hk:0<k) (h:n<K9 ^ k):(Lib.decDigits n).length<=9*k:=dec_len aa (by rw[<-k9_10];exact h)
def TxI (z i:Int) (s:Nb):Prop:= -1<=i/\i+1<(dig K9 z.natAbs).length/\s=Lib.decDigits (val K9 ((dig K9 z.natAbs).drop (i+1).toNat))
section
variable {z i:Int} {s:Nb}
theorem tx_9 (k:Nat):(Lib.decDigits ((iL (dig K9 z.natAbs)).getD k 0).toNat).length<=9:=by
 have h:=Zg (jg jx z.natAbs) k
 exact dec_len ah (by have e:(10:Nat) ^ 9=1000000000:=rfl;omega)
theorem tx_0 (h:¬(((iL (dig K9 z.natAbs)).length:Nat):Int)=0):TxI z ((((iL (dig K9 z.natAbs)).length:Nat):Int)-2) (padN 1 (Int.toNat ((iL (dig K9 z.natAbs)).getD ((iL (dig K9 z.natAbs)).length-1) 0))):=by
 rw[qG] at h ⊢
 refine⟨aa,aa,?_⟩
 rw[show ((((dig K9 z.natAbs).length:Nat):Int)-2+1).toNat=(dig K9 z.natAbs).length-1 by omega,jQ,zT,drop_cons aa,zV aa,val_one]
 unfold padN
 have:=Un.dec_ne ((dig K9 z.natAbs).getD ((dig K9 z.natAbs).length-1) 0)
 have h1:0<(Lib.decDigits ((dig K9 z.natAbs).getD ((dig K9 z.natAbs).length-1) 0)).length:=List.length_pos_iff.2 this
 rw[show 1-(Lib.decDigits ((dig K9 z.natAbs).getD ((dig K9 z.natAbs).length-1) 0)).length=0 by omega];rfl
theorem tx_l (h:TxI z i s) (hz:(dig K9 z.natAbs).length<=100000):s.length<=900000:=by
 obtain⟨h1,h2,rfl⟩:=h
 have hl:=jR ((jg jx z.natAbs).drop (i+1).toNat)
 rw[zo] at hl
 have:=dec_k9 aa hl
 omega
theorem tx_n (h:TxI z i s) (h0:0<=i):TxI z (i-1) (s++padN 9 (Int.toNat ((iL (dig K9 z.natAbs)).getD i.toNat 0))):=by
 obtain⟨h1,h2,rfl⟩:=h
 refine⟨aa,aa,?_⟩
 have hlt:=(jg jx z.natAbs).get (show 0<K9 by decide) i.toNat
 rw[show (i-1+1).toNat=i.toNat by omega,show (i+1).toNat=i.toNat+1 by omega,ZN (k:=i.toNat) aa,jQ,zT]
 have e:=dec_pad (q:=val K9 ((dig K9 z.natAbs).drop (i.toNat+1))) (k:=9) ?_ ah hlt
 ·grind
 have hne:(dig K9 z.natAbs).drop (i.toNat+1)≠[]:=by
  grind [List.length_drop]
 have hnz:Nz ((dig K9 z.natAbs).drop (i.toNat+1)):=fun x hx=>nz_dig jx z.natAbs x (by rw[List.getLast?_drop] at hx;split at hx<;>simp_all)
 have:=nz_pos jx hnz hne
 grind
theorem tx_v (h:TxI z i s) (h0:¬0<=i):s=Lib.decDigits z.natAbs:=by
 obtain⟨h1,h2,rfl⟩:=h
 rw[show (i+1).toNat=0 by omega,List.drop_zero,qR jx]
theorem tx_e1 (h:TxI z i s) (h0:¬0<=i) (h3:z<0):[45]++s=Lib.itoa z:=by rw[tx_v h h0,Lib.itoa,if_pos h3];rfl
theorem tx_e2 (h:TxI z i s) (h0:¬0<=i) (h3:¬z<0):s=Lib.itoa z:=by rw[tx_v h h0,Lib.itoa,if_neg h3,show z.natAbs=z.toNat by omega]
theorem tx_z (h:(((iL (dig K9 z.natAbs)).length:Nat):Int)=0):[48]=Lib.itoa z:=by
 rw[qG] at h
 have:z.natAbs=0:=dig_nil jx (List.length_eq_zero_iff.1 aa)
 have hz:z=0:=aa
 subst hz
 decide +kernel
end
theorem w155 (n m:Nat) (hn:n<9223372036854775808) (hm0:1<=m) (hm:m<=100):CKa 134 [vI (n:Int),vI (m:Int)] (vS (bsO (padN m n))):=by
 refine cG qf134 Z (nB Z) Z (l2 (fun (p:Nat) (s:Nb)=>[(0,vI (p:Int)),(1,vI (m:Int)),(5,vS (bsO s))]) (fun _ _=>[]) (fun p s=>DcI n m p s) (fun p s=>p+(m-s.length)) n [] Z ?_ (sb Z Z Z) ?_)
 · exact dc_0 hm0
 intro p s hI0
 have hsl:=dc_l hI0 hn hm
 have hpn:=dc_p hI0
 refine Em Z Z Z Z ?_
 refine Eg Z Z (fun hc=>B.ZU (qz Z hc) un9) Z ?_
 refine Em Z Z Z Z ?_
 refine Eg Z Z (fun hc=>B.lss (qz Z hc) (qz Z hc)) Z (E Z (B.pO Z Z Z Z Z) (Cb Z Z (fun h1=>?_) (fun h1=>?_)))
 ·refine E Z (B.remN Z Z cF ah) (E Z (B.remN Z Z cF ah) (E Z (B.add Z Z bg) (E Z (B.slMB Z Z Z un9 (Int.toNat_of_nonneg cF).symm (Int.toNat_of_nonneg cF).symm cF cF) (E Z (B.catB Z Z (by simp only[zo,zn,zb,zd];omega)) (E Z (B.quoN Z Z cF ah bg) (pk Z (L2 (p / 10) ((List.drop (Int.toNat (((p:Nat):Int)%10)) (List.take (Int.toNat (((p:Int)%10)+1)) [48,49,50,51,52,53,54,55,56,57]))++s) ?_ ?_ (sb Z Z Z))))))))
  · (rw[dc_s];exact dc_n hI0 h1)
  · (rw[dc_s];exact dc_m h1)
 exact Rt Z (lF Z (ls (by exact congrArg bsO (dc_e hI0 h1 hm0))))
theorem w155i (x:Int) (m:Nat) (h0:0<=x) (h1:x<1000000000) (hm0:1<=m) (hm:m<=100):CKa 134 [vI x,vI (m:Int)] (vS (bsO (padN m x.toNat))):=by
 have h:=w155 x.toNat m aa hm0 hm
 grind
theorem w161 (z:Int) (hz:(dig K9 (Int.natAbs z)).length<=100000):CKa 88 [.pv (.agg [pB (decide (z<0)),pL eI (iL (dig K9 (Int.natAbs z)))])] (vS (bsO (Lib.itoa z))):=by
 refine cG qf88 Z (nB Z) Z ?_
 have hlz:=qG (l:=dig K9 (Int.natAbs z))
 refine E Z (B.jp Z qY) (Cp Z Z (fun h1=>?_) (fun h1=>?_))
 ·exact Rt Z (lF Z (ls cX))
 refine E Z (B.jp Z qY) (E Z (B.sub Z Z bg) (E Z (B.idx (z:=0) (i:=((iL (dig K9 (Int.natAbs z))).length-1)) Z Z qY sz3 (fun _=>rfl) (by first|exact (Int.toNat_of_nonneg aa).symm|omega) aa) (C Z (w155i (List.getD (iL (dig K9 (Int.natAbs z))) ((iL (dig K9 (Int.natAbs z))).length-1) 0) 1 (Zg (jg jx _) _).1 (Zg (jg jx _) _).2 ah ah) Z Z Z (E Z (B.jp Z qY) (E Z (B.sub Z Z bg) (l2 (fun (i:Int) (s:Nb)=>[(1,.bref 2 0),(3,vS (bsO s)),(4,vI i)]) (fun _ _=>[(2,.box 150 [vB (decide (z<0)),vL eI (iL (dig K9 (Int.natAbs z)))])]) (fun i s=>TxI z i s) (fun i _=>Int.toNat (i+1)) ((((iL (dig K9 (Int.natAbs z))).length:Nat):Int)-2) (padN 1 (Int.toNat (List.getD (iL (dig K9 (Int.natAbs z))) ((iL (dig K9 (Int.natAbs z))).length-1) 0))) Z ?_ (sb Z Z Z) ?_))))))
 · exact tx_0 h1
 intro i s hI0
 have hi1:=hI0.1
 have hi2:=hI0.2.1
 have hsl:=tx_l hI0 hz
 refine Cp Z Z (fun h2=>?_) (fun h2=>?_)
 ·refine E Z (B.idx (z:=0) (i:=(Int.toNat i)) Z Z qY sz3 (fun _=>rfl) (Int.toNat_of_nonneg aa).symm aa) (C Z (w155i (List.getD (iL (dig K9 (Int.natAbs z))) (Int.toNat i) 0) 9 (Zg (jg jx _) _).1 (Zg (jg jx _) _).2 ah ah) Z Z Z (E Z (B.catB (a:=s) (b:=(padN 9 (Int.toNat (List.getD (iL (dig K9 (Int.natAbs z))) (Int.toNat i) 0)))) Z Z cY) (E Z (B.sub Z Z bg) (pk Z (L2 (i-1) (s++(padN 9 (Int.toNat (List.getD (iL (dig K9 (Int.natAbs z))) (Int.toNat i) 0)))) ?_ ?_ (sb Z Z Z))))))
  · exact tx_n hI0 h2
  · omega
 refine Cp Z Z (fun h3=>?_) (fun h3=>?_)
 ·exact E Z (B.catB (a:=[45]) (b:=s) Z Z cY) (Rt Z (lF Z (ls cX)))
 exact Rt Z (lF Z (ls cX))
def slN:Nb->Nat
 | []=>0
 | c::l=>if c=47 then 0 else slN l+1
section
variable {s:Nb} {i:Nat} {n:Int}
theorem by_at (hk:i<s.length):byteAt (bsO s) i=((s[i].toNat:Nat):Int):=by grind [byteAt_bsO]
theorem sl_d (hk:i<s.length):s.drop i=s[i]::s.drop (i+1):=List.drop_eq_getElem_cons hk
theorem sl_c (hk:i<s.length):byteAt (bsO s) i=47↔s[i]=47:=by
 rw[by_at hk]
 constructor
 ·intro h
  have:s[i].toNat=47:=aa
  exact UInt8.toNat_inj.1 this
 intro h;rw[h];rfl
theorem sl_n (h:i<=s.length/\slN s=i+slN (s.drop i)) (hk:i<s.length) (h2:¬byteAt (bsO s) i=47):i+1<=s.length/\slN s=(i+1)+slN (s.drop (i+1)):=by
 refine⟨hk,?_⟩
 rw[h.2,sl_d hk,slN,if_neg (fun e=>h2 ((sl_c hk).2 e))];omega
theorem sl_a (h:i<=s.length/\slN s=i+slN (s.drop i)) (hk:i<s.length) (h2:byteAt (bsO s) i=47):(i:Int)=((slN s:Nat):Int):=by rw[h.2,sl_d hk,slN,if_pos ((sl_c hk).1 h2)];rfl
theorem sl_e (h:i<=s.length/\slN s=i+slN (s.drop i)) (h1:¬(i:Int)<(s.length:Int)):(s.length:Int)=((slN s:Nat):Int):=by
 have:=h.1
 rw[h.2,zV aa,slN];omega
theorem va_b (h:i<=s.length/\n=((jw (s.take i):Nat):Int)) (hd:Dgs s) (hi:i<=17):0<=n/\n<100000000000000000:=by
 have:=kK (hd.take i)
 have h2:10 ^ (s.take i).length<=10 ^ 17:=Nat.pow_le_pow_right ah cZ
 omega
theorem va_c (hd:Dgs s) (hk:i<s.length):48<=byteAt (bsO s) i/\byteAt (bsO s) i<=57:=by
 rw[by_at hk]
 have:=hd _ (List.getElem_mem hk)
 omega
theorem va_n (h:i<=s.length/\n=((jw (s.take i):Nat):Int)) (hd:Dgs s) (hk:i<s.length):10*n+byteAt (bsO s) i-48=((jw (s.take (i+1)):Nat):Int):=by
 rw[List.take_succ_eq_append_getElem hk,decV_snoc,h.2,by_at hk]
 have:=hd _ (List.getElem_mem hk)
 unfold dgv
 omega
theorem va_e (h:i<=s.length/\n=((jw (s.take i):Nat):Int)) (h1:¬(i:Int)<(s.length:Int)):n=((jw s:Nat):Int):=by grind
end
def rdZ (s:Nb):Int:=sgn (ko s [45]) (jw (qI s [45]))
def PaI (s r:Nb) (w:List Int):Prop:=Dgs r/\(∃ o,w=iL o/\Dg K9 o/\jw (qI s [45])=val K9 o+K9 ^ o.length*jw r)/\r.length<=s.length/\w.length+r.length<=s.length
theorem w215w {w:List Int} {n:Nat} (b:Bool) (h:∃ o,w=iL o/\Dg K9 o/\val K9 o=n) (hl:w.length<=1000000000):CKa 135 [vB b,vL eI w] (azD (sgn b n)):=by
 obtain⟨o,rfl,h1,rfl⟩:=h
 exact w215 b o h1 (by rw[qG] at hl;exact hl)
section
variable {s r:Nb} {w:List Int}
theorem pr_h:(bif decide (0<(s.length:Int)) then decide (byteAt (bsO s) 0=45) else false)=ko s [45]:=by
 unfold ko
 cases s with
 | nil=>rfl
 | cons c l=>
  rw[by_at (show 0<(c::l).length by simp)]
  have e1:decide (0<(((c::l).length:Nat):Int))=true:=zl dc
  have e2:decide (([45]:Nb).length<=(c::l).length)=true:=zl ao
  rw[e1,e2]
  have e3:((((c::l)[0].toNat:Nat):Int)=45)↔((c::l).take ([45]:Nb).length=[45]):=by
   simp only[List.getElem_cons_zero,qa,List.take_succ_cons,List.take_zero,List.cons.injEq,and_true]
   constructor
   ·intro h
    exact UInt8.toNat_inj.1 (show c.toNat=45 by omega)
   rintro rfl;rfl
  exact decide_eq_decide.2 e3
theorem pr_t (h:(bif decide (0<(s.length:Int)) then decide (byteAt (bsO s) 0=45) else false)=true):qI s [45]=s.drop 1:=by
 rw[pr_h] at h
 unfold qI;rw[h];rfl
theorem pr_f (h:(bif decide (0<(s.length:Int)) then decide (byteAt (bsO s) 0=45) else false)=false):qI s [45]=s:=by
 rw[pr_h] at h
 unfold qI;rw[h];rfl
theorem pr_g (h:(bif decide (0<(s.length:Int)) then decide (byteAt (bsO s) 0=45) else false)=true):1<=s.length:=by grind
theorem pa_0 (hd:Dgs (qI s [45])) (e:qI s [45]=r):PaI s r []:=by
 subst e
 refine⟨hd,⟨[],rfl,dg_nil _,by simp[val]⟩,trimP_len s [45],?_⟩
 have:=trimP_len s [45]
 simpa using this
theorem pa_z:sgn (bif decide (0<(s.length:Int)) then decide (byteAt (bsO s) 0=45) else false) (jw (qI s [45]))=rdZ s:=by rw[pr_h];rfl
theorem pa_d (h:PaI s r w) {k:Nat}:Dgs (r.drop k):=h.1.drop k
theorem pa_r (h:PaI s r w):Dgs r:=h.1
theorem pa_l (h:PaI s r w) (hl:s.length<=900000):r.length<=900000/\w.length<=900000:=⟨by have:=h.2.2.1;omega,by have:=h.2.2.2;omega⟩
theorem pa_e (h:PaI s r w) (hr:r.length<=9):∃ o,w++[((jw r:Nat):Int)]=iL o/\Dg K9 o/\val K9 o=jw (qI s [45]):=by
 obtain⟨h1,⟨o,rfl,h2,h3⟩,_⟩:=h
 refine⟨o++[jw r],by rw[<-iL_app];rfl,h2.app (dg_one ?_),by rw[val_snoc,h3]⟩
 have l1:=kK h1
 have l2:10 ^ r.length<=10 ^ 9:=Nat.pow_le_pow_right ah hr
 grind
theorem pa_n (h:PaI s r w) (hr:9<r.length):PaI s (r.take (r.length-9)) (w++[((jw (r.drop (r.length-9)):Nat):Int)]):=by
 obtain⟨h1,⟨o,rfl,h2,h3⟩,h4,h5⟩:=h
 rw[qG] at h5
 have l1:=kK (h1.drop (r.length-9))
 rw[zo,show r.length-(r.length-9)=9 by omega] at l1
 refine⟨h1.take _,⟨o++[jw (r.drop (r.length-9))],by rw[<-iL_app];rfl,h2.app (dg_one l1),?_⟩,by rw[zn];omega,by rw[za,qG,zn];simp only[zb,zd];omega⟩
 have e:=Ze (r.take (r.length-9)) (r.drop (r.length-9))
 rw[List.take_append_drop,zo,show r.length-(r.length-9)=9 by omega,show (10:Nat) ^ 9=K9 from rfl] at e
 rw[h3,e,val_snoc,za,qa,Nat.pow_succ,Nat.mul_add]
 generalize K9=b at*
 grind
end
theorem w193 (s:Nb) (hl:s.length<=1000000000):CKa 137 [vS (bsO s)] (vI (((slN s):Nat):Int)):=by
 refine cG qf137 Z (nB Z) Z (l1 (fun (i:Nat)=>[(0,vS (bsO s)),(3,vI (i:Int))]) (fun _=>[]) (fun i=>i<=s.length/\slN s=i+slN (List.drop i s)) (fun i=>s.length-i) 0 Z ?_ (sb Z Z Z) ?_)
 · exact⟨zt _,by simp⟩
 intro i hI0
 refine E Z (B.ZU Z un9) (Cp Z Z (fun h1=>?_) (fun h1=>?_))
 ·refine E Z (B.sidx Z Z un9 Z (show i<List.length s from aa)) (Cp Z Z (fun h2=>?_) (fun h2=>?_))
  ·exact Rt Z (lF Z (li de))
  refine E Z (B.add Z Z bg) (pk Z (L1 (i+1) ?_ ?_ (sb Z Z Z)))
  · exact sl_n hI0 aa h2
  · omega
 exact E Z (B.ZU Z un9) (Rt Z (lF Z (li de)))
theorem w216 (s:Nb) (hd:Dgs s) (hl:s.length<=18):CKa 175 [vS (bsO s)] (vI (((jw s):Nat):Int)):=by
 refine cG qf175 Z (nB Z) Z (l2 (fun (i:Nat) (n:Int)=>[(0,vS (bsO s)),(3,vI n),(4,vI (i:Int))]) (fun _ _=>[]) (fun i n=>i<=s.length/\n=((jw (List.take i s):Nat):Int)) (fun i _=>s.length-i) 0 0 Z ?_ (sb Z Z Z) ?_)
 · exact⟨zt _,by simp[jw]⟩
 intro i n hI0
 refine E Z (B.ZU Z un9) (Cp Z Z (fun h1=>?_) (fun h1=>?_))
 ·have hvb:=va_b hI0 hd aa
  have hcb:=va_c hd (i:=i) aa
  refine E Z (B.mul Z Z bg) (E Z (B.sidx Z Z un9 Z (show i<List.length s from aa)) (E Z (B.toI Z un5 un3 bg Z) (E Z (B.add Z Z bg) (E Z (B.sub Z Z bg) (E Z (B.add Z Z bg) (pk Z (L2 (i+1) (((10*n)+(byteAt (bsO s) i))-48) ?_ ?_ (sb Z Z Z))))))))
  · exact⟨aa,va_n hI0 hd aa⟩
  · omega
 exact Rt Z (lF Z (li (by exact va_e hI0 h1)))
theorem w217 (s:Nb) (hd:Dgs (qI s [45])) (hl:s.length<=900000):CKa 177 [vS (bsO s)] (.pv (.agg [pB (decide ((rdZ s)<0)),pL eI (iL (dig K9 (Int.natAbs (rdZ s))))])):=by
 refine cG qf177 Z (nB Z) Z (E Z (B.bN Z Z) (E Z (B.ZU Z un9) ?_))
 refine Em Z Z Z Z ?_
 refine Eg Z Z (fun hc=>B.sidx (qz Z hc) Z un9 Z (show 0<List.length s from df)) Z (Eg Z Z (fun hc=>B.eql (qz Z hc) Z) Z (E Z (B.pA Z Z Z Z Z) (Cb Z Z (fun h1=>?_) (fun h1=>?_))))
 ·have hge:=pr_g h1
  refine E Z (B.slLB Z Z un9 Z df) (E Z (B.adopt 5 1 3 Z Z) (l3 (fun (r:Nb) (w:List Int) (v:Nat)=>[(0,vS (bsO r)),(2,.bref 3 0),(3,vB (bif (decide (0<(s.length:Int))) then (decide ((byteAt (bsO s) 0)=45)) else false)),(4,.aref 5 v)]) (fun _ w v=>[(3,.box 150 [vB false,vL eI []]),(5,.arr v 1 3 (List.map eI w))]) (fun r w _=>PaI s r w) (fun r _ _=>r.length) (List.drop 1 s) [] 0 Z ?_ (sb Z Z Z) ?_))
  · first|exact pa_0 hd (pr_t h1)|exact pa_0 hd (pr_f h1)
  intro r w v hI0
  have hpl:=pa_l hI0 hl
  refine E Z (B.ZU Z un9) (Cp Z Z (fun h2=>?_) (fun h2=>?_))
  ·refine E Z (B.ZU Z un9) (E Z (B.sub Z Z bg) (E Z (B.slLB (i:=(r.length-9)) Z Z un9 aa df) (C Z (w216 (List.drop (r.length-9) r) (pa_d hI0) dg) Z Z Z (E Z (B.zA (es:=List.map eI [(((jw (List.drop (r.length-9) r)):Nat):Int)]) Z) (E Z (B.append Z Z Z qY in3 Z (fun _=>rfl) by3 df) (E Z (B.ZU Z un9) (E Z (B.sub Z Z bg) (E Z (B.slHB (j:=(r.length-9)) Z Z un9 aa df) (pk Z (L3 (List.take (r.length-9) r) (w++[(((jw (List.drop (r.length-9) r)):Nat):Int)]) (v+1) ?_ ?_ (sb Z Z Z)))))))))))
   · exact pa_n hI0 aa
   · (rw[zn];omega)
  exact C Z (w216 r (pa_r hI0) aa) Z Z Z (E Z (B.zA (es:=List.map eI [(((jw r):Nat):Int)]) Z) (E Z (B.appendZ Z Z Z qY in3 Z (fun _=>rfl) by3 df) (C Z (w215w (bif (decide (0<(s.length:Int))) then (decide ((byteAt (bsO s) 0)=45)) else false) (pa_e hI0 aa) dh) Z Z Z (Rt Z (lF Z di)))))
 refine E Z (B.adopt 5 1 3 Z Z) (l3 (fun (r:Nb) (w:List Int) (v:Nat)=>[(0,vS (bsO r)),(2,.bref 3 0),(3,vB (bif (decide (0<(s.length:Int))) then (decide ((byteAt (bsO s) 0)=45)) else false)),(4,.aref 5 v)]) (fun _ w v=>[(3,.box 150 [vB false,vL eI []]),(5,.arr v 1 3 (List.map eI w))]) (fun r w _=>PaI s r w) (fun r _ _=>r.length) s [] 0 Z ?_ (sb Z Z Z) ?_)
 · first|exact pa_0 hd (pr_t h1)|exact pa_0 hd (pr_f h1)
 intro r w v hI0
 have hpl:=pa_l hI0 hl
 refine E Z (B.ZU Z un9) (Cp Z Z (fun h3=>?_) (fun h3=>?_))
 ·refine E Z (B.ZU Z un9) (E Z (B.sub Z Z bg) (E Z (B.slLB (i:=(r.length-9)) Z Z un9 aa df) (C Z (w216 (List.drop (r.length-9) r) (pa_d hI0) dg) Z Z Z (E Z (B.zA (es:=List.map eI [(((jw (List.drop (r.length-9) r)):Nat):Int)]) Z) (E Z (B.append Z Z Z qY in3 Z (fun _=>rfl) by3 df) (E Z (B.ZU Z un9) (E Z (B.sub Z Z bg) (E Z (B.slHB (j:=(r.length-9)) Z Z un9 aa df) (pk Z (L3 (List.take (r.length-9) r) (w++[(((jw (List.drop (r.length-9) r)):Nat):Int)]) (v+1) ?_ ?_ (sb Z Z Z)))))))))))
  · exact pa_n hI0 aa
  · (rw[zn];omega)
 exact C Z (w216 r (pa_r hI0) aa) Z Z Z (E Z (B.zA (es:=List.map eI [(((jw r):Nat):Int)]) Z) (E Z (B.appendZ Z Z Z qY in3 Z (fun _=>rfl) by3 df) (C Z (w215w (bif (decide (0<(s.length:Int))) then (decide ((byteAt (bsO s) 0)=45)) else false) (pa_e hI0 aa) dh) Z Z Z (Rt Z (lF Z di)))))
section
variable {s a b:Nb} {q:Rat}
theorem sl_no (h:∀ x∈a,x≠47):slN a=a.length:=by
 induction a with
 | nil=>rfl
 | cons c l ih=>rw[slN,if_neg (h c (ql ..)),ih (fun x hx=>h x (zN _ hx))];rfl
theorem sl_at (h:∀ x∈a,x≠47):slN (a++47::b)=a.length:=by
 induction a with
 | nil=>rfl
 | cons c l ih=>rw[zQ,slN,if_neg (h c (ql ..)),ih (fun x hx=>h x (zN _ hx))];rfl
theorem hp_dg {l:Nb} (h:Dgs l):ko l [45]=false:=by
 unfold ko
 cases l with
 | nil=>rfl
 | cons c l=>
  have hc:=h c (ql ..)
  have:¬((c::l).take ([45]:Nb).length=[45]):=by
   intro e
   simp only[qa,List.take_succ_cons,List.take_zero,List.cons.injEq,and_true] at e
   rw[e] at hc
   exact absurd hc ah
  rw[zk this,Bool.and_false]
theorem hp_mn {l:Nb}:ko (45::l) [45]=true:=by
 unfold ko;simp
theorem rd_itoa (z:Int):Dgs (qI (Lib.itoa z) [45])/\rdZ (Lib.itoa z)=z:=by
 unfold Lib.itoa rdZ qI
 split
 ·rename_i h
  rw[hp_mn]
  refine⟨j2 _,?_⟩
  show sgn true (jw (Lib.decDigits z.natAbs))=z
  rw[kC];unfold sgn;simp;omega
 rename_i h
 rw[hp_dg (j2 _)]
 refine⟨j2 _,?_⟩
 show sgn false (jw (Lib.decDigits z.toNat))=z
 rw[kC];unfold sgn;simp;omega
theorem itoa_nat (n:Nat):Lib.itoa (n:Int)=Lib.decDigits n:=by
 unfold Lib.itoa;rw[if_neg aa];rfl
theorem itoa_47 (z:Int):∀ x∈Lib.itoa z,x≠47:=by
 intro x hx e
 subst e
 unfold Lib.itoa at hx
 split at hx
 ·rcases zF.1 hx with h|h
  ·exact absurd h ah
  exact absurd (j2 _ _ h) ah
 exact absurd (j2 _ _ hx) ah
theorem txt_1 (h:q.den=1):txt q=Lib.itoa q.num:=by unfold txt;rw[if_pos h,zR]
theorem txt_2 (h:q.den≠1):txt q=Lib.itoa q.num++47::Lib.decDigits q.den:=by unfold txt;rw[if_neg h]
theorem pt_one (h1:((slN (txt q):Nat):Int)=(((txt q).length:Nat):Int)):q.den=1:=by
 by_cases h:q.den=1
 ·exact h
 rw[txt_2 h,sl_at (itoa_47 _),za,zb] at h1;omega
theorem pt_no (h1:¬((slN (txt q):Nat):Int)=(((txt q).length:Nat):Int)):q.den≠1:=by
 intro h
 rw[txt_1 h,sl_no (itoa_47 _)] at h1;exact h1 rfl
theorem pt_n (h:q.den≠1):(txt q).take (slN (txt q))=Lib.itoa q.num/\(txt q).drop (slN (txt q)+1)=Lib.decDigits q.den:=by
 rw[txt_2 h,sl_at (itoa_47 _)]
 exact⟨List.take_left,by rw[<-List.drop_drop,List.drop_left];rfl⟩
theorem pt_s (h1:¬((slN (txt q):Nat):Int)=(((txt q).length:Nat):Int)):slN (txt q)+1<=(txt q).length:=by
 rw[txt_2 (pt_no h1),sl_at (itoa_47 _),za,zb];omega
theorem pt_d1 (h1:((slN (txt q):Nat):Int)=(((txt q).length:Nat):Int)):Dgs (qI (txt q) [45]):=by
 rw[txt_1 (pt_one h1)];exact (rd_itoa _).1
theorem pt_d3 (h1:¬((slN (txt q):Nat):Int)=(((txt q).length:Nat):Int)):Dgs (qI ((txt q).drop (slN (txt q)+1)) [45]):=by
 rw[(pt_n (pt_no h1)).2,<-itoa_nat];exact (rd_itoa _).1
theorem pt_d2:Dgs (qI ((txt q).take (slN (txt q))) [45]):=by
 by_cases h:q.den=1
 ·rw[txt_1 h,sl_no (itoa_47 _),List.take_length];exact (rd_itoa _).1
 rw[(pt_n h).1];exact (rd_itoa _).1
theorem pt_1 {e:Int} (h1:((slN (txt q):Nat):Int)=(((txt q).length:Nat):Int)) (he:e=1):DV.tup [azD (rdZ (txt q)),azD e]=.tup [azD q.num,azD (q.den:Int)]:=by
 have h:=pt_one h1
 rw[h,he,txt_1 h,(rd_itoa _).2];rfl
theorem pt_2 (h1:¬((slN (txt q):Nat):Int)=(((txt q).length:Nat):Int)):DV.tup [azD (rdZ ((txt q).take (slN (txt q)))),azD (rdZ ((txt q).drop (slN (txt q)+1)))]=.tup [azD q.num,azD (q.den:Int)]:=by
 have h:=pt_n (pt_no h1)
 rw[h.1,h.2,(rd_itoa _).2,<-itoa_nat,(rd_itoa _).2]
end
theorem w153e (e:Int) (he:e=1):CKa 89 [vI 1] (azD e):=by
 have h:=w153 e (by subst he;unfold R64;omega)
 rw[show (vI 1:DV)=vI e by rw[he]]
 exact h
theorem w158 (q:Rat) (hl:(txt q).length<=900000):CKa 130 [vS (bsO (txt q))] (.tup [.pv (.agg [pB (decide ((Rat.num q)<0)),pL eI (iL (dig K9 (Int.natAbs (Rat.num q))))]),.pv (.agg [pB (decide (((Rat.den q:Nat):Int)<0)),pL eI (iL (dig K9 (Int.natAbs ((Rat.den q:Nat):Int))))])]):=by
 refine cG qf130 Z (nB Z) Z (E Z (B.bN Z Z) (E Z (B.bN Z Z) ?_))
 obtain⟨e,he⟩:∃ e:Int,e=1:=⟨1,rfl⟩
 refine C Z (w193 (txt q) aa) Z Z Z (E Z (B.ZU Z un9) (Cp Z Z (fun h1=>?_) (fun h1=>?_)))
 ·exact C Z (w217 (txt q) (pt_d1 h1) dj) Z Z Z (C Z (w153e e he) Z Z Z (Rt Z (lF Z dl)))
 have hsl:=pt_s h1
 exact E Z (B.slHB Z Z un9 Z aa) (C Z (w217 (List.take (slN (txt q)) (txt q)) (pt_d2) dj) Z Z Z (E Z (B.add Z Z bg) (E Z (B.slLB (i:=((slN (txt q))+1)) Z Z un9 aa aa) (C Z (w217 (List.drop ((slN (txt q))+1) (txt q)) (pt_d3 h1) dj) Z Z Z (Dr Z ae (Rt Z (lF Z dl)))))))
theorem w70 (z:Int) (hz:R64 z):CKa 39 [vI z] (vS (bsO (Lib.itoa z))):=by
 exact cG qf39 Z (nB Z) Z (C Z (w153 z hz) Z Z Z (C Z (w161 z (qh (wh_len0 hz) ah)) Z Z Z (Rt Z (leaf Z Z))))
def frq (x y:Int):Rat:=(x:Rat) / (y:Rat)
section
variable {x y X Y:Int} {a b c d g:Nat} {e f:Bool}
theorem fr_m (h:(dig K9 x.natAbs).length<=100000):(dig K9 (-x).natAbs).length<=100000:=by rw[Int.natAbs_neg];exact h
theorem fr_l (h0:0<b) (h:(dig K9 b).length<=100000):(dig K9 (Nat.gcd a b)).length<=100000:=qh (dv_al' (Nat.gcd_le_right a h0)) h
theorem fr_d (h:(dig K9 a).length<=100000):(dig K9 (a / b)).length<=1000000000:=qh (dv_al' (Nat.div_le_self a b)) (qh h ah)
theorem fr_t (h:(dig K9 a).length<=100000):(dig K9 (sgn e (a / b)).natAbs).length<=100000:=by
 rw[Un.R.sgn_abs];exact qh (dv_al' (Nat.div_le_self a b)) h
theorem fr_i (h:(dig K9 a).length<=100000):(Lib.itoa (sgn e (a / b))).length<=900010:=by
 have h1:=fr_t (e:=e) (b:=b) h
 have h2:=Nat.lt_of_lt_of_le (jC jx (sgn e (a / b)).natAbs) (Nat.pow_le_pow_right (show 0<K9 by decide) h1)
 have h3:=dec_k9 ah h2
 unfold Lib.itoa
 split
 ·rw[zb];omega
 rw[show (sgn e (a / b)).toNat=(sgn e (a / b)).natAbs by omega];omega
theorem fr_q (h:0<Y):(frq X Y).num=sgn (decide (X<0)) (X.natAbs / Nat.gcd X.natAbs Y.natAbs)/\(frq X Y).den=Y.natAbs / Nat.gcd X.natAbs Y.natAbs:=by
 have hg:0<Nat.gcd X.natAbs Y.natAbs:=Nat.gcd_pos_of_pos_right _ aa
 have hY:0<Y.natAbs / Nat.gcd X.natAbs Y.natAbs:=Nat.div_pos (Nat.gcd_le_right _ aa) hg
 have key:frq X Y=⟨sgn (decide (X<0)) (X.natAbs / Nat.gcd X.natAbs Y.natAbs),Y.natAbs / Nat.gcd X.natAbs Y.natAbs,aa,by rw[Un.R.sgn_abs];exact Nat.coprime_div_gcd_div_gcd hg⟩:=by
  rw[Rat.mk_eq_divInt,Rat.divInt_eq_div]
  have e1:X*((Y.natAbs / Nat.gcd X.natAbs Y.natAbs:Nat):Int)=sgn (decide (X<0)) (X.natAbs / Nat.gcd X.natAbs Y.natAbs)*Y:=by
   have hx:=Nat.div_mul_cancel (Nat.gcd_dvd_left X.natAbs Y.natAbs)
   have hy:=Nat.div_mul_cancel (Nat.gcd_dvd_right X.natAbs Y.natAbs)
   have hX:=Un.R.sgn_self X
   have hYY:Y=(Y.natAbs:Int):=aa
   generalize Nat.gcd X.natAbs Y.natAbs=g at*
   generalize Y.natAbs / g=q at*
   generalize X.natAbs / g=p at*
   generalize decide (X<0)=t at*
   rw[hYY,<-hy,<-hX,<-hx]
   unfold sgn
   cases t<;>simp only[Int.natCast_mul,qq,qr,qp]<;>grind
  have e2:(X:Rat)*(((Y.natAbs / Nat.gcd X.natAbs Y.natAbs:Nat):Int):Rat)=((sgn (decide (X<0)) (X.natAbs / Nat.gcd X.natAbs Y.natAbs):Int):Rat)*(Y:Rat):=by rw[<-Rat.intCast_mul,e1,Rat.intCast_mul]
  have n1:(Y:Rat)≠0:=icast_ne aa
  have n2:(((Y.natAbs / Nat.gcd X.natAbs Y.natAbs:Nat):Int):Rat)≠0:=icast_ne aa
  show (X:Rat) / (Y:Rat)=((sgn (decide (X<0)) (X.natAbs / Nat.gcd X.natAbs Y.natAbs):Int):Rat) / (((Y.natAbs / Nat.gcd X.natAbs Y.natAbs:Nat):Int):Rat)
  generalize (((Y.natAbs / Nat.gcd X.natAbs Y.natAbs:Nat):Int):Rat)=u at*
  generalize ((sgn (decide (X<0)) (X.natAbs / Nat.gcd X.natAbs Y.natAbs):Int):Rat)=v at*
  generalize (X:Rat)=w at*
  generalize (Y:Rat)=z at*
  grind
 rw[key]
 exact⟨rfl,rfl⟩
theorem fr_c1 (h:(dig K9 a).length<=100000):(Lib.itoa (sgn e (a / b))).length+([47]:Nb).length<=9223372036854775807:=by
 have:=fr_i (e:=e) (b:=b) h
 simp only[zb,zd];omega
theorem fr_c2 (h:(dig K9 a).length<=100000) (h2:(dig K9 c).length<=100000):(Lib.itoa (sgn e (a / b))++[47]).length+(Lib.itoa (sgn f (c / d))).length<=9223372036854775807:=by
 have:=fr_i (e:=e) (b:=b) h
 have:=fr_i (e:=f) (b:=d) h2
 rw[za]
 simp only[zb,zd];omega
theorem fr_one {n:Nat} (h:(bif decide ((((iL (dig K9 n)).length:Nat):Int)=1) then decide ((iL (dig K9 n)).getD 0 0=1) else false)=true):n=1:=by
 obtain⟨h1,h2⟩:=tr_p h
 have hn:=dv_b1 h1
 by_cases h0:n=0
 ·rw[h0,jN] at h1;cases h1
 rw[j9 jx h0 hn] at h2
 have h3:(n:Int)=1:=h2
 omega
theorem fr_no {n:Nat} (h:(bif decide ((((iL (dig K9 n)).length:Nat):Int)=1) then decide ((iL (dig K9 n)).getD 0 0=1) else false)=false):n≠1:=by
 intro e
 have hd:=j9 (β:=K9) (n:=n) jx aa (by rw[e];decide)
 rw[hd,e] at h
 exact absurd h ah
theorem fq_1 (h:0<Y) (h2:(bif decide ((((iL (dig K9 (Y.natAbs / Nat.gcd X.natAbs Y.natAbs))).length:Nat):Int)=1) then decide ((iL (dig K9 (Y.natAbs / Nat.gcd X.natAbs Y.natAbs))).getD 0 0=1) else false)=true) :
  Lib.itoa (sgn (decide (X<0)) (X.natAbs / Nat.gcd X.natAbs Y.natAbs))=txt (frq X Y):=by
 obtain⟨e1,e2⟩:=fr_q (X:=X) h
 rw[txt_1 (by rw[e2];exact fr_one h2),e1]
theorem fq_2 (h:0<Y) (h2:(bif decide ((((iL (dig K9 (Y.natAbs / Nat.gcd X.natAbs Y.natAbs))).length:Nat):Int)=1) then decide ((iL (dig K9 (Y.natAbs / Nat.gcd X.natAbs Y.natAbs))).getD 0 0=1) else false)=false) :
  Lib.itoa (sgn (decide (X<0)) (X.natAbs / Nat.gcd X.natAbs Y.natAbs))++[47]++Lib.itoa (sgn false (Y.natAbs / Nat.gcd X.natAbs Y.natAbs))=txt (frq X Y):=by
 obtain⟨e1,e2⟩:=fr_q (X:=X) h
 rw[txt_2 (by rw[e2];exact fr_no h2),e1,e2,z7]
 show _++([47]++Lib.itoa ((Y.natAbs / Nat.gcd X.natAbs Y.natAbs:Nat):Int))=_
 rw[itoa_nat];rfl
theorem frq_neg:frq (-x) (-y)=frq x y:=by
 unfold frq
 rw[Rat.intCast_neg,Rat.intCast_neg]
 grind
theorem fr_a1 (_:y≠0) (h1:y<0) (h2:(bif decide ((((iL (dig K9 ((-y).natAbs / Nat.gcd (-x).natAbs (-y).natAbs))).length:Nat):Int)=1) then decide ((iL (dig K9 ((-y).natAbs / Nat.gcd (-x).natAbs (-y).natAbs))).getD 0 0=1) else false)=true) :
  vS (bsO (Lib.itoa (sgn (decide (-x<0)) ((-x).natAbs / Nat.gcd (-x).natAbs (-y).natAbs))))=vS (bsO (txt (frq x y))):=by
 rw[fq_1 aa h2,frq_neg]
theorem fr_a2 (_:y≠0) (h1:y<0) (h2:(bif decide ((((iL (dig K9 ((-y).natAbs / Nat.gcd (-x).natAbs (-y).natAbs))).length:Nat):Int)=1) then decide ((iL (dig K9 ((-y).natAbs / Nat.gcd (-x).natAbs (-y).natAbs))).getD 0 0=1) else false)=false) :
  vS (bsO (Lib.itoa (sgn (decide (-x<0)) ((-x).natAbs / Nat.gcd (-x).natAbs (-y).natAbs))++[47]++Lib.itoa (sgn false ((-y).natAbs / Nat.gcd (-x).natAbs (-y).natAbs))))=vS (bsO (txt (frq x y))):=by
 rw[fq_2 aa h2,frq_neg]
theorem fr_b1 (hy:y≠0) (h1:¬y<0) (h2:(bif decide ((((iL (dig K9 (y.natAbs / Nat.gcd x.natAbs y.natAbs))).length:Nat):Int)=1) then decide ((iL (dig K9 (y.natAbs / Nat.gcd x.natAbs y.natAbs))).getD 0 0=1) else false)=true) :
  vS (bsO (Lib.itoa (sgn (decide (x<0)) (x.natAbs / Nat.gcd x.natAbs y.natAbs))))=vS (bsO (txt (frq x y))):=by
 rw[fq_1 aa h2]
theorem fr_b2 (hy:y≠0) (h1:¬y<0) (h2:(bif decide ((((iL (dig K9 (y.natAbs / Nat.gcd x.natAbs y.natAbs))).length:Nat):Int)=1) then decide ((iL (dig K9 (y.natAbs / Nat.gcd x.natAbs y.natAbs))).getD 0 0=1) else false)=false) :
  vS (bsO (Lib.itoa (sgn (decide (x<0)) (x.natAbs / Nat.gcd x.natAbs y.natAbs))++[47]++Lib.itoa (sgn false (y.natAbs / Nat.gcd x.natAbs y.natAbs))))=vS (bsO (txt (frq x y))):=by
 rw[fq_2 aa h2]
end
theorem w152 (x y:Int) (hy:y≠0) (ha:(dig K9 (Int.natAbs x)).length<=100000) (hb:(dig K9 (Int.natAbs y)).length<=100000):CKa 131 [.pv (.agg [pB (decide (x<0)),pL eI (iL (dig K9 (Int.natAbs x)))]),.pv (.agg [pB (decide (y<0)),pL eI (iL (dig K9 (Int.natAbs y)))])] (vS (bsO (txt (frq x y)))):=by
 refine cG qf131 Z (nB Z) Z ?_
 have ha2:=fr_m ha
 have hb2:=fr_m hb
 refine Cp Z Z (fun h1=>?_) (fun h1=>?_)
 ·refine C Z (w213 x ha) Z Z Z (C Z (w213 y hb) Z Z Z (Dr Z ae (C Z (w195 (Int.natAbs (-x)) (Int.natAbs (-y)) ab ab) Z Z Z (C Z (w214 (Int.natAbs (-x)) (Nat.gcd (Int.natAbs (-x)) (Int.natAbs (-y))) (Nat.gcd_pos_of_pos_right _ aa) ab (fr_l aa ab)) Z Z Z (C Z (w214 (Int.natAbs (-y)) (Nat.gcd (Int.natAbs (-x)) (Int.natAbs (-y))) (Nat.gcd_pos_of_pos_right _ aa) ab (fr_l aa ab)) Z Z Z (C Z (w215d (decide ((-x)<0)) ((Int.natAbs (-x)) / (Nat.gcd (Int.natAbs (-x)) (Int.natAbs (-y)))) (fr_d ab)) Z Z Z (C Z (w161 (sgn (decide ((-x)<0)) ((Int.natAbs (-x)) / (Nat.gcd (Int.natAbs (-x)) (Int.natAbs (-y))))) (fr_t ab)) Z Z Z (E Z (B.jp Z qY) ?_))))))))
  refine Em Z Z Z Z ?_
  refine Eg Z Z (fun hc=>B.idx (z:=0) (i:=0) (qz Z hc) Z qY sz3 (fun _=>rfl) Z dm) Z (Eg Z Z (fun hc=>B.loadP (qz Z hc) ag3 sz3) Z (Eg Z Z (fun hc=>B.eql (qz Z hc) Z) Z (E Z (B.pA Z Z Z Z Z) (Cb Z Z (fun h2=>?_) (fun h2=>?_)))))
  ·exact Rt Z (lF Z dp)
  exact E Z (B.catB Z Z dt) (C Z (w215d false ((Int.natAbs (-y)) / (Nat.gcd (Int.natAbs (-x)) (Int.natAbs (-y)))) (fr_d ab)) Z Z Z (C Z (w161 (sgn false ((Int.natAbs (-y)) / (Nat.gcd (Int.natAbs (-x)) (Int.natAbs (-y))))) (fr_t ab)) Z Z Z (E Z (B.catB Z Z dt) (Rt Z (lF Z dp)))))
 refine C Z (w195 (Int.natAbs x) (Int.natAbs y) ab ab) Z Z Z (C Z (w214 (Int.natAbs x) (Nat.gcd (Int.natAbs x) (Int.natAbs y)) (Nat.gcd_pos_of_pos_right _ aa) ab (fr_l aa ab)) Z Z Z (C Z (w214 (Int.natAbs y) (Nat.gcd (Int.natAbs x) (Int.natAbs y)) (Nat.gcd_pos_of_pos_right _ aa) ab (fr_l aa ab)) Z Z Z (C Z (w215d (decide (x<0)) ((Int.natAbs x) / (Nat.gcd (Int.natAbs x) (Int.natAbs y))) (fr_d ab)) Z Z Z (C Z (w161 (sgn (decide (x<0)) ((Int.natAbs x) / (Nat.gcd (Int.natAbs x) (Int.natAbs y)))) (fr_t ab)) Z Z Z (E Z (B.jp Z qY) ?_)))))
 refine Em Z Z Z Z ?_
 refine Eg Z Z (fun hc=>B.idx (z:=0) (i:=0) (qz Z hc) Z qY sz3 (fun _=>rfl) Z dm) Z (Eg Z Z (fun hc=>B.loadP (qz Z hc) ag3 sz3) Z (Eg Z Z (fun hc=>B.eql (qz Z hc) Z) Z (E Z (B.pA Z Z Z Z Z) (Cb Z Z (fun h3=>?_) (fun h3=>?_)))))
 ·exact Rt Z (lF Z dp)
 exact E Z (B.catB Z Z dt) (C Z (w215d false ((Int.natAbs y) / (Nat.gcd (Int.natAbs x) (Int.natAbs y))) (fr_d ab)) Z Z Z (C Z (w161 (sgn false ((Int.natAbs y) / (Nat.gcd (Int.natAbs x) (Int.natAbs y)))) (fr_t ab)) Z Z Z (E Z (B.catB Z Z dt) (Rt Z (lF Z dp)))))
def qkB (q:Rat):Bool:=decide ((Lib.decDigits q.num.natAbs).length<=9/\(q.den=1\/(Lib.decDigits q.den).length<=9))
def qk1 (q:Rat):Int:=bif qkB q then q.num else 0
def qk2 (q:Rat):Int:=bif qkB q then (q.den:Int) else 0
def Dq (q:Rat):Nb:=Lib.decDigits q.num.natAbs++(if q.den=1 then [] else 47::Lib.decDigits q.den)
section
variable {q:Rat} {s D:Nb} {b:Bool} {n d:Int}
theorem qk_x:txt q=if q.num<0 then 45::Dq q else Dq q:=by
 unfold txt Dq Lib.itoa
 grind
theorem dq_47:∀ x∈Lib.decDigits q.num.natAbs,x≠47:=by rw[<-itoa_nat];exact itoa_47 _
theorem dq_h:ko (Dq q) [45]=false:=by
 unfold ko Dq
 cases h:Lib.decDigits q.num.natAbs with
 | nil=>exact absurd h (Un.dec_ne _)
 | cons c l=>
  have hc:=j2 q.num.natAbs c (by rw[h];exact ql ..)
  have:¬((c::l++(if q.den=1 then [] else 47::Lib.decDigits q.den)).take ([45]:Nb).length=[45]):=by
   intro e
   simp only[qa,zQ,List.take_succ_cons,List.take_zero,List.cons.injEq,and_true] at e
   rw[e] at hc
   exact absurd hc ah
  grind
theorem qk_s (hs:s=txt q) (hb:ko s [45]=b):b=decide (q.num<0):=by
 rw[<-hb,hs,qk_x]
 by_cases h:q.num<0
 ·rw[if_pos h,hp_mn,zl h]
 rw[if_neg h,dq_h,zk h]
theorem qk_D (hs:s=txt q) (hD:D=qI s [45]):D=Dq q:=by
 rw[hD,hs,qk_x]
 unfold qI
 by_cases h:q.num<0
 ·rw[if_pos h,hp_mn];rfl
 rw[if_neg h,dq_h];rfl
theorem qk_1 (hb:ko s [45]=b) (h:b=true):1<=s.length:=by
 rw[h] at hb;unfold ko at hb
 grind
theorem slN_le:∀ D:Nb,slN D<=D.length
 | []=>zB _
 | c::l=>by
  have:=slN_le l
  grind [slN,List.length_cons]
theorem qk_t (hb:ko s [45]=b) (h2:b=true) (hD:D=qI s [45]):List.drop 1 s=D:=by grind [qI]
theorem qk_f (hb:ko s [45]=b) (h2:b=false) (hD:D=qI s [45]):s=D:=by grind [qI]
theorem dq_sl:slN (Dq q)=(Lib.decDigits q.num.natAbs).length:=by
 unfold Dq
 split
 ·rw[zR,sl_no dq_47]
 exact sl_at dq_47
theorem dq_len:(Dq q).length=(Lib.decDigits q.num.natAbs).length+(if q.den=1 then 0 else (Lib.decDigits q.den).length+1):=by
 unfold Dq
 split<;>simp
theorem qk_len (h:qkB q=true):(txt q).length<=20:=by
 have h:=of_decide_eq_true h
 have e:=dq_len (q:=q)
 grind [qk_x,List.length_cons]
theorem qk_no (h:qkB q=false):DV.tup [vI 0,vI 0,vB false]=.tup [vI (qk1 q),vI (qk2 q),vB (qkB q)]:=by
 unfold qk1 qk2
 rw[h];rfl
theorem qk_0 (hs:s=txt q) (h1:20<(s.length:Int)):DV.tup [vI 0,vI 0,vB false]=.tup [vI (qk1 q),vI (qk2 q),vB (qkB q)]:=by
 refine qk_no ?_
 cases h:qkB q with
 | false=>rfl
 | true=>have:=qk_len h;rw[hs] at h1;omega
theorem qk_k (hD:D=Dq q) (h:(bif decide (9<((slN D:Nat):Int)) then true else decide (10<(D.length:Int)-((slN D:Nat):Int)))=false):qkB q=true:=by
 obtain⟨h1,h2⟩:=dc_no h
 rw[hD,dq_sl] at h1 h2
 rw[dq_len] at h2
 refine zl ⟨aa,?_⟩
 grind
theorem qk_3 (hD:D=Dq q) (h:(bif decide (9<((slN D:Nat):Int)) then true else decide (10<(D.length:Int)-((slN D:Nat):Int)))=true):DV.tup [vI 0,vI 0,vB false]=.tup [vI (qk1 q),vI (qk2 q),vB (qkB q)]:=by
 refine qk_no (zk ?_)
 rintro⟨g1,g2⟩
 rcases dc_or h with h|h
 ·rw[hD,dq_sl] at h;omega
 rw[hD,dq_sl,dq_len] at h
 by_cases hq:q.den=1
 ·rw[if_pos hq] at h;omega
 grind
theorem qk_v (h:qkB q=true) (hn:n=q.num) (hd:d=(q.den:Int)):DV.tup [vI n,vI d,vB true]=.tup [vI (qk1 q),vI (qk2 q),vB (qkB q)]:=by
 unfold qk1 qk2
 rw[h,hn,hd];rfl
theorem qk_n (hs:s=txt q) (hb:ko s [45]=b) (h:b=true):0-(q.num.natAbs:Int)=q.num:=by
 have:=of_decide_eq_true ((qk_s hs hb).symm.trans h)
 omega
theorem qk_p (hs:s=txt q) (hb:ko s [45]=b) (h:b=false):(q.num.natAbs:Int)=q.num:=by
 have:=of_decide_eq_false ((qk_s hs hb).symm.trans h)
 omega
theorem qk_d (hD:D=Dq q) (h:¬((slN D:Nat):Int)<(D.length:Int)):(1:Int)=(q.den:Int):=by
 rw[hD,dq_sl,dq_len] at h
 grind
theorem qk_b (hD:D=Dq q) (h:(bif decide (9<((slN D:Nat):Int)) then true else decide (10<(D.length:Int)-((slN D:Nat):Int)))=false):q.num.natAbs<1000000000:=by
 have hk:=(of_decide_eq_true (qk_k hD h)).1
 have h1:=kK (j2 q.num.natAbs)
 rw[kC] at h1
 exact Nat.lt_of_lt_of_le h1 (Nat.pow_le_pow_right ah hk)
theorem w216n (q:Rat) (D:Nb) (hD:D=Dq q) (h:(bif decide (9<((slN D:Nat):Int)) then true else decide (10<(D.length:Int)-((slN D:Nat):Int)))=false):CKa 175 [vS (bsO (D.take (slN D)))] (vI (q.num.natAbs:Int)):=by
 have hk:=(of_decide_eq_true (qk_k hD h)).1
 have e:D.take (slN D)=Lib.decDigits q.num.natAbs:=by rw[hD,dq_sl,Dq,List.take_left]
 rw[e]
 have:=w216 (Lib.decDigits q.num.natAbs) (j2 _) aa
 rw[kC] at this
 exact this
theorem w216m (q:Rat) (D:Nb) (hD:D=Dq q) (h:(bif decide (9<((slN D:Nat):Int)) then true else decide (10<(D.length:Int)-((slN D:Nat):Int)))=false) (hl:slN D<D.length):CKa 175 [vS (bsO (D.drop (slN D+1)))] (vI (q.den:Int)):=by
 have hk:=(of_decide_eq_true (qk_k hD h)).2
 have hq:q.den≠1:=by grind [dq_sl,dq_len]
 have e:D.drop (slN D+1)=Lib.decDigits q.den:=by rw[hD,dq_sl,Dq,if_neg hq,<-List.drop_drop,List.drop_left];rfl
 rw[e]
 have:=w216 (Lib.decDigits q.den) (j2 _) (by rcases hk with g|g;exact absurd g hq;omega)
 rw[kC] at this
 exact this
end
theorem w157 (q:Rat) (s:Nb) (hs:s=txt q) (hl:s.length<=900000):CKa 128 [vS (bsO s)] (.tup [vI (qk1 q),vI (qk2 q),vB (qkB q)]):=by
 refine cG qf128 Z (nB Z) Z (E Z (B.ZU Z un9) (Cp Z Z (fun h1=>?_) (fun h1=>?_)))
 ·exact Rt Z (lF Z ff)
 refine E Z (B.ZU Z un9) ?_
 refine Em Z Z Z Z ?_
 refine Eg Z Z (fun hc=>B.sidx (qz Z hc) Z un9 Z (show 0<List.length s from dx)) Z (Eg Z Z (fun hc=>B.eql (qz Z hc) Z) Z (E Z (B.pA Z Z Z Z Z) ?_))
 refine tk 5 Z ?_
 refine tn ⟨[(5,vS (bsO s)),(6,vB (bif (decide (0<(s.length:Int))) then (decide ((byteAt (bsO s) 0)=45)) else false))],[]⟩ rfl rfl Z ?_
 rw[pr_h]
 generalize hb:ko s [45]=b
 obtain⟨D,hD⟩:∃ D,D=qI s [45]:=⟨_,rfl⟩
 have hb1:=qk_1 hb
 refine kc (Cb Z Z (fun h2=>?_) (fun h2=>?_))
 ·refine E Z (B.slLB Z Z un9 Z dx) ?_
  refine tk 7 Z ?_
  refine tn ⟨[(5,vS (bsO (List.drop 1 s))),(6,vB b)],[]⟩ rfl rfl Z ?_
  have hDs:=qk_D hs hD
  have hDl:D.length<=20:=by rw[hD];have:=trimP_len s [45];omega
  have hsl:=slN_le D
  rw[qk_t hb h2 hD]
  refine kc (C Z (w193 D aa) Z Z Z ?_)
  refine Em Z Z Z Z ?_
  refine Eg Z Z (fun hc=>B.ZU (qz Z hc) un9) Z ?_
  refine Em Z Z Z Z ?_
  refine Eg Z Z (fun hc=>B.sub (qz Z hc) (qz Z hc) dy) Z (Eg Z Z (fun hc=>B.gtr (qz Z hc) Z) Z (E Z (B.pO Z Z Z Z Z) (Cb Z Z (fun h3=>?_) (fun h3=>?_))))
  ·exact Rt Z (lF Z ff)
  refine E Z (B.slHB Z Z un9 Z dx) (C Z (w216n q D hDs ab) Z Z Z (E Z (B.ZU Z un9) (Cp Z Z (fun h4=>?_) (fun h4=>?_))))
  ·refine E Z (B.add Z Z dy) (E Z (B.slLB (i:=((slN D)+1)) Z Z un9 aa dx) (C Z (w216m q D hDs ab aa) Z Z Z (Cb Z Z (fun h5=>?_) (fun h5=>?_))))
   ·exact E Z (B.sub Z Z dy) (Rt Z (lF Z ff))
   grind
  refine Cb Z Z (fun h6=>?_) (fun h6=>?_)
  ·exact E Z (B.sub Z Z dy) (Rt Z (lF Z ff))
  grind
 refine tk 7 Z ?_
 refine tn ⟨[(5,vS (bsO s)),(6,vB b)],[]⟩ rfl rfl Z ?_
 have hDs:=qk_D hs hD
 have hDl:D.length<=20:=by rw[hD];have:=trimP_len s [45];omega
 have hsl:=slN_le D
 rw[qk_f hb h2 hD]
 refine kc (C Z (w193 D aa) Z Z Z ?_)
 refine Em Z Z Z Z ?_
 refine Eg Z Z (fun hc=>B.ZU (qz Z hc) un9) Z ?_
 refine Em Z Z Z Z ?_
 refine Eg Z Z (fun hc=>B.sub (qz Z hc) (qz Z hc) dy) Z (Eg Z Z (fun hc=>B.gtr (qz Z hc) Z) Z (E Z (B.pO Z Z Z Z Z) (Cb Z Z (fun h7=>?_) (fun h7=>?_))))
 ·exact Rt Z (lF Z ff)
 refine E Z (B.slHB Z Z un9 Z dx) (C Z (w216n q D hDs ab) Z Z Z (E Z (B.ZU Z un9) (Cp Z Z (fun h8=>?_) (fun h8=>?_))))
 ·refine E Z (B.add Z Z dy) (E Z (B.slLB (i:=((slN D)+1)) Z Z un9 aa dx) (C Z (w216m q D hDs ab aa) Z Z Z (Cb Z Z (fun h9=>?_) (fun h9=>?_))))
  ·grind
  exact Rt Z (lF Z ff)
 refine Cb Z Z (fun h10=>?_) (fun h10=>?_)
 ·grind
 exact Rt Z (lF Z ff)
section
variable {n d X Y:Int} {q:Rat}
theorem of_c (hn: -4000000000000000000<=n/\n<=4000000000000000000) (hd: -4000000000000000000<=d/\d<=4000000000000000000):¬(bif (bif (bif decide (n<(-4000000000000000000)) then true else decide (4000000000000000000<n)) then true else decide (d<(-4000000000000000000))) then true else decide (4000000000000000000<d))=true:=by
 rw[zk (show ¬n < -4000000000000000000 by omega),zk (show ¬4000000000000000000<n by omega),zk (show ¬d < -4000000000000000000 by omega),zk (show ¬4000000000000000000<d by omega)]
 decide
theorem of_xy (n d:Int):∃ X Y:Int,(d<0->X=0-n/\Y=0-d)/\(¬d<0->X=n/\Y=d):=by
 by_cases h:d<0
 ·exact⟨_,_,fun _=>⟨rfl,rfl⟩,fun g=>absurd h g⟩
 exact⟨_,_,fun g=>absurd g h,fun _=>⟨rfl,rfl⟩⟩
theorem of_b (hX:(d<0->X=0-n/\Y=0-d)/\(¬d<0->X=n/\Y=d)) (hn: -4000000000000000000<=n/\n<=4000000000000000000) (hd: -4000000000000000000<=d/\d<=4000000000000000000) (h0:d≠0):0<Y/\Y<=4000000000000000000/\ -4000000000000000000<=X/\X<=4000000000000000000:=by
 by_cases h:d<0
 ·have:=hX.1 h;omega
 have:=hX.2 h;omega
theorem of_f (hX:(d<0->X=0-n/\Y=0-d)/\(¬d<0->X=n/\Y=d)):frq X Y=frq n d:=by
 by_cases h:d<0
 ·obtain⟨rfl,rfl⟩:=hX.1 h;rw[Int.zero_sub,Int.zero_sub,frq_neg]
 obtain⟨rfl,rfl⟩:=hX.2 h;rfl
theorem of_pos (hY:0<Y):0<Nat.gcd X.natAbs Y.natAbs:=Nat.gcd_pos_of_pos_right _ aa
theorem of_p (hX:(d<0->X=0-n/\Y=0-d)/\(¬d<0->X=n/\Y=d)) (h0:d≠0):Int.tdiv X ((Nat.gcd X.natAbs Y.natAbs:Nat):Int)=(frq n d).num/\Int.tdiv Y ((Nat.gcd X.natAbs Y.natAbs:Nat):Int)=((frq n d).den:Int):=by
 have hY:0<Y:=by
  by_cases h:d<0
  ·have:=hX.1 h;omega
  have:=hX.2 h;omega
 obtain⟨e1,e2⟩:=fr_q (X:=X) hY
 rw[<-of_f hX,e1,e2]
 constructor
 ·unfold sgn
  by_cases h:X<0
  ·rw[zl h,if_pos rfl,show X= -(X.natAbs:Int) by omega,Int.neg_tdiv,Int.natAbs_neg,Int.natAbs_natCast];rfl
  rw[zk h,if_neg ao,show Int.tdiv X _=Int.tdiv (X.natAbs:Int) ((Nat.gcd X.natAbs Y.natAbs:Nat):Int) by rw[show (X.natAbs:Int)=X by omega]];rfl
 rw[show Int.tdiv Y _=Int.tdiv (Y.natAbs:Int) ((Nat.gcd X.natAbs Y.natAbs:Nat):Int) by rw[show (Y.natAbs:Int)=Y by omega]];rfl
theorem w154m (X Y:Int) (hY:0<Y) (hY2:Y<=4000000000000000000) (hX: -4000000000000000000<=X/\X<=4000000000000000000):CKa 176 [vI (max X (0-X)),vI Y] (vI ((Nat.gcd X.natAbs Y.natAbs:Nat):Int)):=by
 have:=w154 X.natAbs Y.natAbs aa aa
 rwa [show (X.natAbs:Int)=max X (0-X) by omega,show (Y.natAbs:Int)=Y by omega] at this
theorem w155m (X:Int) (h:X.natAbs<9223372036854775808):CKa 134 [vI (max X (0-X)),vI 1] (vS (bsO (padN 1 X.natAbs))):=by
 have:=w155 X.natAbs 1 h ah ah
 rwa [show (X.natAbs:Int)=max X (0-X) by omega] at this
theorem of_g (hY:0<Y):((Nat.gcd X.natAbs Y.natAbs:Nat):Int)≠0:=by have:=of_pos (X:=X) hY;omega
theorem of_g2 (hY:0<Y):0<((Nat.gcd X.natAbs Y.natAbs:Nat):Int):=by have:=of_pos (X:=X) hY;omega
theorem of_t (x:Int) (g:Nat):(Int.tdiv x (g:Int)).natAbs<=x.natAbs:=by rw[Int.natAbs_tdiv];exact Nat.div_le_self _ _
theorem of_rn (hB:0<Y/\Y<=4000000000000000000/\ -4000000000000000000<=X/\X<=4000000000000000000): -9223372036854775808<=Int.tdiv X ((Nat.gcd X.natAbs Y.natAbs:Nat):Int)/\Int.tdiv X ((Nat.gcd X.natAbs Y.natAbs:Nat):Int)<9223372036854775808:=by
 have:=of_t X (Nat.gcd X.natAbs Y.natAbs);omega
theorem of_rd (hB:0<Y/\Y<=4000000000000000000/\ -4000000000000000000<=X/\X<=4000000000000000000): -9223372036854775808<=Int.tdiv Y ((Nat.gcd X.natAbs Y.natAbs:Nat):Int)/\Int.tdiv Y ((Nat.gcd X.natAbs Y.natAbs:Nat):Int)<9223372036854775808:=by
 have:=of_t Y (Nat.gcd X.natAbs Y.natAbs);omega
theorem of_n (hX:(d<0->X=0-n/\Y=0-d)/\(¬d<0->X=n/\Y=d)) (hn: -4000000000000000000<=n/\n<=4000000000000000000) (hd: -4000000000000000000<=d/\d<=4000000000000000000) (h0:d≠0):(frq n d).num.natAbs<9223372036854775808:=by
 rw[<-(of_p hX h0).1]
 have:=of_t X (Nat.gcd X.natAbs Y.natAbs);have:=of_b hX hn hd h0;omega
theorem of_d (hX:(d<0->X=0-n/\Y=0-d)/\(¬d<0->X=n/\Y=d)) (hn: -4000000000000000000<=n/\n<=4000000000000000000) (hd: -4000000000000000000<=d/\d<=4000000000000000000) (h0:d≠0):(frq n d).den<9223372036854775808:=by
 have e:=(of_p hX h0).2
 have:=of_t Y (Nat.gcd X.natAbs Y.natAbs);have:=of_b hX hn hd h0;omega
theorem ofs_1 (h:q.num<0):sgT q.num=[45]:=if_pos h
theorem ofs_2 (h:¬q.num<0):sgT q.num=[]:=if_neg h
theorem pad1 (n:Nat):padN 1 n=Lib.decDigits n:=by
 unfold padN
 have:=List.length_pos_iff.2 (Un.dec_ne n)
 rw[show 1-(Lib.decDigits n).length=0 by omega];rfl
theorem of_l1 {n:Nat} (h:n<9223372036854775808):(padN 1 n).length<=20:=by
 rw[pad_len]
 have:=dec_len (n:=n) (k:=20) ah (Nat.lt_trans h ah)
 omega
theorem of_l3 (z:Int):(sgT z).length<=1:=by unfold sgT;split<;>decide
theorem sg_i (z:Int):sgT z++padN 1 z.natAbs=Lib.itoa z:=by
 rw[pad1];unfold sgT Lib.itoa
 by_cases h:z<0
 ·rw[if_pos h,if_pos h];rfl
 rw[if_neg h,if_neg h,show z.natAbs=z.toNat by omega];rfl
theorem of_e1 (h:1<(q.den:Int)):vS (bsO (((sgT q.num++padN 1 q.num.natAbs)++[47])++padN 1 q.den))=vS (bsO (txt q)):=by
 rw[sg_i,pad1,txt_2 aa,z7];rfl
theorem of_e2 (h:¬1<(q.den:Int)):vS (bsO (sgT q.num++padN 1 q.num.natAbs))=vS (bsO (txt q)):=by
 have:=q.den_pos
 rw[sg_i,txt_1 aa]
end
theorem w59 (n d:Int) (hd0:d≠0) (hn: -4000000000000000000<=n/\n<=4000000000000000000) (hd: -4000000000000000000<=d/\d<=4000000000000000000):CKa 129 [vI n,vI d] (vS (bsO (txt (frq n d)))):=by
 refine cG qf129 Z (nB Z) Z ?_
 refine Em Z Z Z Z ?_
 refine Eg Z Z (fun hc=>B.gtr (qz Z hc) Z) Z (E Z (B.pO Z Z Z Z Z) ?_)
 refine Em Z Z Z Z ?_
 refine Eg Z Z (fun hc=>B.lss (qz Z hc) Z) Z (E Z (B.pO Z Z Z Z Z) ?_)
 refine Em Z Z Z Z ?_
 refine Eg Z Z (fun hc=>B.gtr (qz Z hc) Z) Z (E Z (B.pO Z Z Z Z Z) (Cb Z Z (fun h1=>?_) (fun h1=>?_)))
 ·exact absurd h1 (of_c hn hd)
 obtain⟨X,Y,hX⟩:=of_xy n d
 have hB:=of_b hX hn hd hd0
 have hP:=of_p hX hd0
 refine Cj [(0,vI X),(1,vI Y)] [] Z Z Z (fun h2=>?_) (fun h2=>?_) ?_
 ·replace h2:=of_decide_eq_true h2
  refine E Z (B.sub Z Z d5) (E Z (B.sub Z Z d5) (pk Z ?_))
  show Sub _ _ _
  first|rw[(hX.1 ab).1,(hX.1 ab).2]|rw[(hX.2 ab).1,(hX.2 ab).2]
  exact sb Z Z rfl
 ·replace h2:=of_decide_eq_false h2
  refine pk Z ?_
  show Sub _ _ _
  first|rw[(hX.1 ab).1,(hX.1 ab).2]|rw[(hX.2 ab).1,(hX.2 ab).2]
  exact sb Z Z rfl
 refine E Z (B.sub Z Z d5) (E Z (B.max Z Z) (C Z (w154m X Y hB.1 hB.2.1 hB.2.2) Z Z Z (E Z (B.quo Z Z ⟨d6,d5⟩) (E Z (B.quo Z Z ⟨d6,d5⟩) (Dr Z ae ?_)))))
 refine tk 7 Z ?_
 refine tn ⟨[(0,vI (Int.tdiv X (((Nat.gcd (Int.natAbs X) (Int.natAbs Y)):Nat):Int))),(1,vI (Int.tdiv Y (((Nat.gcd (Int.natAbs X) (Int.natAbs Y)):Nat):Int)))],[]⟩ rfl rfl Z ?_
 rw[hP.1,hP.2]
 refine kc (Cj [(0,vI (Rat.num (frq n d))),(1,vI ((Rat.den (frq n d):Nat):Int)),(6,vS (bsO (sgT (Rat.num (frq n d)))))] [] Z Z Z (fun h3=>?_) (fun h3=>?_) ?_)
 ·replace h3:=of_decide_eq_true h3
  refine pk Z ?_
  show Sub _ _ _
  first|rw[ofs_1 ab]|rw[ofs_2 ab]
  exact sb Z Z rfl
 ·replace h3:=of_decide_eq_false h3
  refine pk Z ?_
  show Sub _ _ _
  first|rw[ofs_1 ab]|rw[ofs_2 ab]
  exact sb Z Z rfl
 refine E Z (B.sub Z Z d5) (E Z (B.max Z Z) (C Z (w155m (Rat.num (frq n d)) (of_n hX hn hd hd0)) Z Z Z (E Z (B.catB Z Z d7) (Cp Z Z (fun h4=>?_) (fun h4=>?_)))))
 ·exact E Z (B.catB Z Z d7) (C Z (w155 (Rat.den (frq n d)) 1 (of_d hX hn hd hd0) ah ah) Z Z Z (E Z (B.catB Z Z d7) (Rt Z (lF Z d8))))
 exact Rt Z (lF Z d8)
def lgE (q:Rat):Int:=bif jl q then 4 else 0
section
variable {q r:Rat} {z:Int}
theorem tz_0:txt 0=[48]:=ae
theorem tz_1:txt q=[48]↔q.num=0:=by
 constructor
 ·intro h
  rw[qk_x] at h
  by_cases g:q.num<0
  ·rw[if_pos g] at h;cases h
  rw[if_neg g] at h
  unfold Dq at h
  have h1:Lib.decDigits q.num.natAbs=[48]:=by
   cases e:Lib.decDigits q.num.natAbs with
   | nil=>exact absurd e (Un.dec_ne _)
   | cons a l=>
    rw[e,zQ] at h
    simp only[List.cons.injEq,List.append_eq_nil_iff] at h
    rw[h.1,h.2.1]
  have h2:=kC q.num.natAbs
  rw[h1] at h2
  have h3:q.num.natAbs=0:=h2.symm.trans ah
  omega
 intro h
 have e:q=0:=Rat.num_eq_zero.1 h
 rw[e];exact tz_0
theorem sn_1 (h:txt q=[48]):0=j7 q.num:=by rw[tz_1.1 h];rfl
theorem sn_c:(bif decide (0<(((txt q).length:Nat):Int)) then decide (byteAt (bsO (txt q)) 0=45) else false)=decide (q.num<0):=by
 have e0:∀ (a:UInt8) (l:Nb),decide (byteAt (bsO (a::l)) 0=45)=decide (a=45):=fun a l=>by
  refine decide_eq_decide.2 ?_
  rw[byteAt_bsO]
  show (a.toNat:Int)=45↔_
  constructor
  ·intro h;exact UInt8.toNat_inj.1 (by have:(45:UInt8).toNat=45:=rfl;omega)
  intro h;rw[h];rfl
 by_cases g:q.num<0
 ·rw[qk_x,if_pos g,zl g,e0];simp
 rw[qk_x,if_neg g,zk g]
 have:=dq_h (q:=q)
 unfold ko at this
 cases e:Dq q with
 | nil=>rfl
 | cons a l=>
  grind
theorem sn_2 (h0:¬txt q=[48]) (h:(bif decide (0<(((txt q).length:Nat):Int)) then decide (byteAt (bsO (txt q)) 0=45) else false)=true): -1=j7 q.num:=by grind [sn_c,j7]
theorem sn_3 (h0:¬txt q=[48]) (h:(bif decide (0<(((txt q).length:Nat):Int)) then decide (byteAt (bsO (txt q)) 0=45) else false)=false):1=j7 q.num:=by
 rw[sn_c] at h
 have h1:¬q.num=0:=fun e=>h0 (tz_1.2 e)
 grind [j7]
theorem sg_lt {z:Int}:j7 z<0↔z<0:=by grind [j7]
theorem sg_0 {z:Int}:j7 z=0↔z=0:=by grind [j7]
theorem ng_l (h:j7 q.num<0):1<=(txt q).length:=by rw[qk_x,if_pos (sg_lt.1 h)];simp
theorem dq_ng:Dq (-q)=Dq q:=by unfold Dq;rw[Rat.neg_num,Rat.neg_den,Int.natAbs_neg]
theorem ng_1 (h:j7 q.num<0):(txt q).drop 1=txt (-q):=by rw[qk_x,qk_x,if_pos (sg_lt.1 h),if_neg (by rw[Rat.neg_num];have:=sg_lt.1 h;omega),dq_ng];rfl
theorem ng_2 (h:j7 q.num=0):txt q=txt (-q):=by rw[Rat.num_eq_zero.1 (sg_0.1 h)];rfl
theorem ng_3 (h:¬j7 q.num<0) (h2:¬j7 q.num=0):[45]++txt q=txt (-q):=by
 have h3:¬q.num<0:=fun e=>h (sg_lt.2 e)
 have h4:¬q.num=0:=fun e=>h2 (sg_0.2 e)
 rw[qk_x,qk_x,if_neg h3,if_pos (by rw[Rat.neg_num];omega),dq_ng];rfl
theorem itoa_txt (z:Int):Lib.itoa z=txt (z:Rat):=(txt_1 (q:=(z:Rat)) Z).symm
theorem ab_l (h:j7 z<0):1<=(Lib.itoa z).length:=by unfold Lib.itoa;rw[if_pos (sg_lt.1 h)];simp
theorem ab_1 (h:j7 z<0):(Lib.itoa z).drop 1=Lib.decDigits z.natAbs:=by unfold Lib.itoa;rw[if_pos (sg_lt.1 h)];rfl
theorem ab_2 (h:¬j7 z<0):Lib.itoa z=Lib.decDigits z.natAbs:=by
 have h3:¬z<0:=fun e=>h (sg_lt.2 e)
 unfold Lib.itoa;rw[if_neg h3,show z.toNat=z.natAbs by omega]
theorem tx_sl:slN (txt q)=(Lib.itoa q.num).length:=by
 by_cases h:q.den=1
 ·rw[txt_1 h,sl_no (itoa_47 _)]
 rw[txt_2 h,sl_at (itoa_47 _)]
theorem rnu_1:(txt q).take (slN (txt q))=Lib.itoa q.num:=by
 rw[tx_sl]
 by_cases h:q.den=1
 ·rw[txt_1 h,List.take_length]
 rw[txt_2 h,List.take_left]
theorem nu_l (h:(txt q).length<=900000):(Lib.itoa q.num).length<=900000:=by rw[<-tx_sl];exact qh (slN_le _) h
theorem rnu_2 (h:((slN (txt q):Nat):Int)=(((txt q).length:Nat):Int)):[49]=Lib.decDigits q.den:=by
 rw[tx_sl] at h
 by_cases g:q.den=1
 ·rw[g];kernel_rfl
 rw[txt_2 g,za,zb] at h;omega
theorem rnu_3 (h:¬((slN (txt q):Nat):Int)=(((txt q).length:Nat):Int)):(txt q).drop (slN (txt q)+1)=Lib.decDigits q.den:=by
 rw[tx_sl] at h ⊢
 by_cases g:q.den=1
 ·rw[txt_1 g] at h;exact absurd Z h
 rw[txt_2 g,<-List.drop_drop,List.drop_left];rfl
theorem la_1 (h:(bif decide (600<(((Lib.decDigits q.num.natAbs).length:Nat):Int)) then true else decide (600<(((Lib.decDigits q.den).length:Nat):Int)))=true):4=lgE q:=by
 unfold lgE jl longN
 grind
theorem la_2 (h:(bif decide (600<(((Lib.decDigits q.num.natAbs).length:Nat):Int)) then true else decide (600<(((Lib.decDigits q.den).length:Nat):Int)))=false):0=lgE q:=by grind [lgE,jl,longN]
theorem dig_bl {n B:Nat} (h:jb n<=B):(dig K9 n).length<=B / 29+1:=by
 refine ji jx (Nat.lt_of_lt_of_le (kI n) ?_)
 refine qh (Nat.pow_le_pow_right ah (show jb n<=29*(B / 29+1) by omega)) ?_
 rw[Nat.pow_mul]
 exact Nat.pow_le_pow_left ah _
theorem dig_b2 {n:Nat} (h:jb n<=2000000):(dig K9 n).length<=100000:=qh (dig_bl h) ah
theorem ar_n (h:sz q<=1000000):(dig K9 q.num.natAbs).length<=100000:=dig_b2 (by have:=sz_n q;omega)
theorem ar_d (h:sz q<=1000000):(dig K9 (q.den:Int).natAbs).length<=100000:=dig_b2 (by rw[Int.natAbs_natCast];have:=sz_d q;omega)
theorem ar_m {x y:Int} (h:jb x.natAbs+jb y.natAbs<=1999999):(dig K9 (x*y).natAbs).length<=100000:=dig_b2 (by rw[Int.natAbs_mul];have:=bl_mul x.natAbs y.natAbs;omega)
theorem ar_g {x y u v:Int} {k:Nat} (h:jb x.natAbs+jb y.natAbs<=k/\jb u.natAbs+jb v.natAbs<=k):(x*y+u*v).natAbs<2 ^ (k+1):=by
 have h1:=kI (x*y).natAbs
 have h2:=kI (u*v).natAbs
 have h3:=bl_mul x.natAbs y.natAbs
 have h4:=bl_mul u.natAbs v.natAbs
 rw[Int.natAbs_mul] at h1 h2
 have h5:2 ^ jb (x.natAbs*y.natAbs)<=2 ^ k:=Nat.pow_le_pow_right ah aa
 have h6:2 ^ jb (u.natAbs*v.natAbs)<=2 ^ k:=Nat.pow_le_pow_right ah aa
 have h7:(2:Nat) ^ (k+1)=2 ^ k*2:=Nat.pow_succ ..
 have h8:=Int.natAbs_add_le (x*y) (u*v)
 grind [Int.natAbs_mul]
theorem ar_s {x y u v:Int} (h:jb x.natAbs+jb y.natAbs<=1999999/\jb u.natAbs+jb v.natAbs<=1999999):(dig K9 (x*y+u*v).natAbs).length<=100000:=
 dig_b2 (jS (k:=1999999+1) (ar_g (k:=1999999) h))
theorem ar_t (h:sz q<=1000000):(txt q).length<=900000:=by
 have key:∀ n:Nat,jb n<=1000000->(Lib.decDigits n).length<=9*34483:=fun n hn=>by
  have h1:=dig_bl hn
  have h2:=Nat.lt_of_lt_of_le (jC jx n) (Nat.pow_le_pow_right (show 0<K9 by decide) (show (dig K9 n).length<=34483 by omega))
  exact dec_k9 ah h2
 have h1:=key q.num.natAbs (by have:=sz_n q;omega)
 have h2:=key q.den (by have:=sz_d q;omega)
 have h3:=dq_len (q:=q)
 grind [qk_x,List.length_cons]
theorem rc_0 (h:q≠0):q.num≠0:=fun e=>h (Rat.num_eq_zero.1 e)
theorem rc_1:frq (q.den:Int) q.num=q⁻¹:=(Rat.divInt_eq_div _ _).symm.trans (Rat.inv_def q).symm
theorem qk_two {a b:Bool} (h:(bif a then b else false)=true):a=true/\b=true:=by cases a<;>simp_all
theorem qk_e (h:qkB q=true):qk1 q=q.num/\qk2 q=(q.den:Int):=by grind [qk1,qk2]
theorem qk_bd (h:qkB q=true):q.num.natAbs<1000000000/\q.den<1000000000:=by
 have hk:=of_decide_eq_true h
 have h1:=kK (j2 q.num.natAbs)
 have h2:=kK (j2 q.den)
 rw[kC] at h1 h2
 refine⟨Nat.lt_of_lt_of_le h1 (Nat.pow_le_pow_right ah hk.1),?_⟩
 rcases hk.2 with g|g
 ·rw[g];decide
 exact Nat.lt_of_lt_of_le h2 (Nat.pow_le_pow_right ah g)
theorem ar_p {x y:Int} (hx:x.natAbs<1000000000) (hy:y.natAbs<1000000000): -1000000000000000000<=x*y/\x*y<=1000000000000000000:=by
 have h:(x*y).natAbs<=1000000000*1000000000:=by rw[Int.natAbs_mul];exact Nat.mul_le_mul aa aa
 omega
theorem ar_q (h1:qkB q=true) (h2:qkB r=true):(q.den:Int)*(r.den:Int)≠0/\(-1000000000000000000<=(q.den:Int)*(r.den:Int)/\(q.den:Int)*(r.den:Int)<=1000000000000000000)/\(-1000000000000000000<=q.num*(r.den:Int)/\q.num*(r.den:Int)<=1000000000000000000)/\(-1000000000000000000<=r.num*(q.den:Int)/\r.num*(q.den:Int)<=1000000000000000000)/\ -1000000000000000000<=q.num*r.num/\q.num*r.num<=1000000000000000000:=by
 have a:=qk_bd h1
 have b:=qk_bd h2
 have n1:=q.den_nz
 have n2:=r.den_nz
 exact⟨Int.mul_ne_zero aa aa,ar_p aa aa,ar_p aa aa,ar_p aa aa,ar_p aa aa⟩
theorem ar_0:(q.den:Int)*(r.den:Int)≠0:=by
 have n1:=q.den_nz
 have n2:=r.den_nz
 exact Int.mul_ne_zero aa aa
theorem dn_c (q:Rat):(((q.den:Nat):Int):Rat)≠0:=icast_ne aZ
theorem dn_e (q:Rat):q=(q.num:Rat) / (((q.den:Nat):Int):Rat):=(Rat.num_divInt_den q).symm.trans (Rat.divInt_eq_div _ _)
theorem ad_1:frq (q.num*(r.den:Int)+r.num*(q.den:Int)) (((q.den:Nat):Int)*(r.den:Int))=q+r:=by
 unfold frq
 rw[Rat.intCast_add,Rat.intCast_mul,Rat.intCast_mul,Rat.intCast_mul]
 conv=>rhs;rw[dn_e q,dn_e r]
 have h1:=dn_c q
 have h2:=dn_c r
 grind
theorem rmu_1:frq (q.num*r.num) (((q.den:Nat):Int)*(r.den:Int))=q*r:=by
 unfold frq
 rw[Rat.intCast_mul,Rat.intCast_mul]
 conv=>rhs;rw[dn_e q,dn_e r]
 grind
theorem rdi_1:q*r⁻¹=q / r:=(Rat.div_def q r).symm
end
theorem un25:tab.underlying 25=some (.string):=ae
theorem w137 (q:Rat) (hl:(txt q).length<=900000):CKa 136 [vS (bsO (txt q))] (vI (j7 (Rat.num q))):=by
 refine cG qf136 Z (nB Z) Z (E Z (B.seqB Z Z) (Cp Z Z (fun h1=>?_) (fun h1=>?_)))
 ·exact Rt Z (lF Z d9)
 refine E Z (B.ZU Z un25) ?_
 refine Em Z Z Z Z ?_
 refine Eg Z Z (fun hc=>B.sidx (qz Z hc) Z un25 Z (show 0<List.length (txt q) from bh)) Z (Eg Z Z (fun hc=>B.eql (qz Z hc) Z) Z (E Z (B.pA Z Z Z Z Z) (Cb Z Z (fun h2=>?_) (fun h2=>?_))))
 ·exact Rt Z (lF Z d9)
 exact Rt Z (lF Z d9)
theorem w137z (z:Int) (hl:(Lib.itoa z).length<=900000):CKa 136 [vS (bsO (Lib.itoa z))] (vI (j7 z)):=by
 rw[itoa_txt] at hl ⊢
 exact w137 (z:Rat) hl
theorem w87 (q:Rat) (hl:(txt q).length<=900000):CKa 90 [vS (bsO (txt q))] (vS (bsO (txt (-q)))):=by
 refine cG qf90 Z (nB Z) Z (C Z (w137 q hl) Z Z Z (Cp Z Z (fun h1=>?_) (fun h1=>?_)))
 ·exact E Z (B.slLB Z Z un25 Z (by exact ng_l ab)) (Rt Z (lF Z dA))
 refine C Z (w137 q hl) Z Z Z (Cp Z Z (fun h2=>?_) (fun h2=>?_))
 ·exact Rt Z (lF Z dA)
 exact E Z (B.catB Z Z cg) (Rt Z (lF Z dA))
theorem w63 (z:Int) (hl:(Lib.itoa z).length<=900000):CKa 91 [vS (bsO (Lib.itoa z))] (vS (bsO (Lib.decDigits (Int.natAbs z)))):=by
 refine cG qf91 Z (nB Z) Z (C Z (w137z z hl) Z Z Z (Cp Z Z (fun h1=>?_) (fun h1=>?_)))
 ·exact E Z (B.slLB Z Z un25 Z (by exact ab_l ab)) (Rt Z (lF Z dB))
 exact Rt Z (lF Z dB)
theorem w207 (q:Rat) (hl:(txt q).length<=900000):CKa 92 [vS (bsO (txt q))] (vS (bsO (Lib.itoa (Rat.num q)))):=by
 exact cG qf92 Z (nB Z) Z (C Z (w193 (txt q) aa) Z Z Z (E Z (B.slHB Z Z un25 Z (by exact slN_le _)) (Rt Z (lF Z (by exact congrArg (fun a=>vS (bsO a)) rnu_1)))))
theorem w208 (q:Rat) (hl:(txt q).length<=900000):CKa 93 [vS (bsO (txt q))] (vS (bsO (Lib.decDigits (Rat.den q)))):=by
 refine cG qf93 Z (nB Z) Z (C Z (w193 (txt q) aa) Z Z Z (E Z (B.ZU Z un25) (Cp Z Z (fun h1=>?_) (fun h1=>?_))))
 ·exact Rt Z (lF Z dC)
 exact E Z (B.add Z Z (by unfold R64;have:=slN_le (txt q);omega)) (E Z (B.slLB (i:=((slN (txt q))+1)) Z Z un25 aa (by have:=slN_le (txt q);omega)) (Rt Z (lF Z dC)))
theorem w141 (q:Rat) (hl:(txt q).length<=900000):CKa 42 [vS (bsO (txt q))] (vI (lgE q)):=by
 refine cG qf42 Z (nB Z) Z (C Z (w207 q hl) Z Z Z (C Z (w63 (Rat.num q) (nu_l hl)) Z Z Z (E Z (B.ZU Z un25) ?_)))
 refine Em Z Z Z Z ?_
 refine Eg Z Z (fun hc=>B.call (w208 q hl) Z (ds1 (qz Z hc)) Z) Z (Eg Z Z (fun hc=>B.ZU (qz Z hc) un25) Z (Eg Z Z (fun hc=>B.gtr (qz Z hc) Z) Z (E Z (B.pO Z Z Z Z Z) (Cb Z Z (fun h1=>?_) (fun h1=>?_)))))
 ·exact Rt Z (lF Z dD)
 exact Rt Z (lF Z dD)
theorem w182 (q:Rat) (h0:q≠0) (hs:sz q<=1000000):CKa 86 [vS (bsO (txt q))] (vS (bsO (txt q⁻¹))):=by
 exact cG qf86 Z (nB Z) Z (C Z (w158 q (ar_t aa)) Z Z Z (E Z (B.bN Z Z) (E Z (B.bN Z Z) (C Z (w152 ((Rat.den q:Nat):Int) (Rat.num q) (rc_0 h0) (ar_d aa) (ar_n aa)) Z Z Z (Rt Z (lF Z (by exact congrArg (fun a=>vS (bsO (txt a))) rc_1)))))))
theorem w67 (q r:Rat) (hs:sz q+sz r<=1000000):CKa 87 [vS (bsO (txt q)),vS (bsO (txt r))] (vS (bsO (txt (q+r)))):=by
 refine cG qf87 Z (nB Z) Z (C Z (w157 q (txt q) Z (ar_t aa)) Z Z Z (C Z (w157 r (txt r) Z (ar_t aa)) Z Z Z ?_))
 refine Em Z Z Z Z ?_
 refine E Z (B.pA Z Z Z Z Z) (Cb Z Z (fun h1=>?_) (fun h1=>?_))
 ·refine tk 4 Z ?_
  refine tn ⟨[(5,vI (qk1 q)),(6,vI (qk2 q)),(8,vI (qk1 r)),(9,vI (qk2 r))],[]⟩ rfl rfl Z ?_
  have hk:=qk_two h1
  rw[(qk_e hk.1).1,(qk_e hk.1).2,(qk_e hk.2).1,(qk_e hk.2).2]
  have hb:=ar_q hk.1 hk.2
  exact kc (E Z (B.mul Z Z bg) (E Z (B.mul Z Z bg) (E Z (B.add Z Z bg) (E Z (B.mul Z Z bg) (C Z (w59 (((Rat.num q)*((Rat.den r:Nat):Int))+((Rat.num r)*((Rat.den q:Nat):Int))) (((Rat.den q:Nat):Int)*((Rat.den r:Nat):Int)) hb.1 aa aa) Z Z Z (Rt Z (lF Z dE)))))))
 have z1:=sz_n q
 have z2:jb (Int.natAbs ((Rat.den q:Nat):Int))<=sz q:=sz_d q
 have z3:=sz_n r
 have z4:jb (Int.natAbs ((Rat.den r:Nat):Int))<=sz r:=sz_d r
 exact C Z (w158 q (ar_t aa)) Z Z Z (E Z (B.bN Z Z) (E Z (B.bN Z Z) (C Z (w158 r (ar_t aa)) Z Z Z (E Z (B.bN Z Z) (E Z (B.bN Z Z) (C Z (w160 (Rat.num q) ((Rat.den r:Nat):Int) (ar_n aa) (ar_d aa)) Z Z Z (C Z (w160 (Rat.num r) ((Rat.den q:Nat):Int) (ar_n aa) (ar_d aa)) Z Z Z (C Z (w159 ((Rat.num q)*((Rat.den r:Nat):Int)) ((Rat.num r)*((Rat.den q:Nat):Int)) (ar_m aa) (ar_m aa)) Z Z Z (C Z (w160 ((Rat.den q:Nat):Int) ((Rat.den r:Nat):Int) (ar_d aa) (ar_d aa)) Z Z Z (C Z (w152 (((Rat.num q)*((Rat.den r:Nat):Int))+((Rat.num r)*((Rat.den q:Nat):Int))) (((Rat.den q:Nat):Int)*((Rat.den r:Nat):Int)) ar_0 (ar_s aa) (ar_m aa)) Z Z Z (Dr Z ae (Rt Z (lF Z dE)))))))))))))
theorem w69 (q r:Rat) (hs:sz q+sz r<=1000000):CKa 85 [vS (bsO (txt q)),vS (bsO (txt r))] (vS (bsO (txt (q*r)))):=by
 refine cG qf85 Z (nB Z) Z (C Z (w157 q (txt q) Z (ar_t aa)) Z Z Z (C Z (w157 r (txt r) Z (ar_t aa)) Z Z Z ?_))
 refine Em Z Z Z Z ?_
 refine E Z (B.pA Z Z Z Z Z) (Cb Z Z (fun h1=>?_) (fun h1=>?_))
 ·refine tk 4 Z ?_
  refine tn ⟨[(5,vI (qk1 q)),(6,vI (qk2 q)),(8,vI (qk1 r)),(9,vI (qk2 r))],[]⟩ rfl rfl Z ?_
  have hk:=qk_two h1
  rw[(qk_e hk.1).1,(qk_e hk.1).2,(qk_e hk.2).1,(qk_e hk.2).2]
  have hb:=ar_q hk.1 hk.2
  exact kc (E Z (B.mul Z Z bg) (E Z (B.mul Z Z bg) (C Z (w59 ((Rat.num q)*(Rat.num r)) (((Rat.den q:Nat):Int)*((Rat.den r:Nat):Int)) hb.1 aa aa) Z Z Z (Rt Z (lF Z dG)))))
 have z1:=sz_n q
 have z2:jb (Int.natAbs ((Rat.den q:Nat):Int))<=sz q:=sz_d q
 have z3:=sz_n r
 have z4:jb (Int.natAbs ((Rat.den r:Nat):Int))<=sz r:=sz_d r
 exact C Z (w158 q (ar_t aa)) Z Z Z (E Z (B.bN Z Z) (E Z (B.bN Z Z) (C Z (w158 r (ar_t aa)) Z Z Z (E Z (B.bN Z Z) (E Z (B.bN Z Z) (C Z (w160 (Rat.num q) (Rat.num r) (ar_n aa) (ar_n aa)) Z Z Z (C Z (w160 ((Rat.den q:Nat):Int) ((Rat.den r:Nat):Int) (ar_d aa) (ar_d aa)) Z Z Z (C Z (w152 ((Rat.num q)*(Rat.num r)) (((Rat.den q:Nat):Int)*((Rat.den r:Nat):Int)) ar_0 (ar_m aa) (ar_m aa)) Z Z Z (Dr Z ae (Rt Z (lF Z dG)))))))))))
theorem w106 (q r:Rat) (h0:r≠0) (hs:sz q+sz r<=1000000):CKa 37 [vS (bsO (txt q)),vS (bsO (txt r))] (vS (bsO (txt (q / r)))):=by
 exact cG qf37 Z (nB Z) Z (C Z (w182 r h0 aa) Z Z Z (C Z (w69 q r⁻¹ (by have:=sz_inv r;omega)) Z Z Z (Rt Z (lF Z (by exact congrArg (fun a=>vS (bsO (txt a))) rdi_1)))))
end Go.Lens.Tb
end
section
namespace Go.Lens.Un
abbrev PL:=List (KI×Rat)
def lin (g:KI->Rat):PL->Rat
 | []=>0
 | (a,c)::l=>c*g a+lin g l
def cf (P:PL) (k:KI):Rat:=lin (fun a=>if a=k then 1 else 0) P
def szP:PL->Nat
 | []=>1
 | (_,c)::l=>sz c+1+szP l
theorem lin_app (g:KI->Rat):∀ (P R:PL),lin g (P++R)=lin g P+lin g R
 | [],R=>by simp[lin,Rat.zero_add]
 | (a,c)::l,R=>by simp only[zQ,lin,lin_app g l R];grind
theorem cf_app (P R:PL) (k:KI):cf (P++R) k=cf P k+cf R k:=lin_app _ P R
theorem jP (a:KI) (c:Rat) (P:PL) (k:KI):cf ((a,c)::P) k=(if a=k then c else 0)+cf P k:=by
 show c*(if a=k then 1 else 0)+cf P k=_
 grind
theorem cf_nil (k:KI):cf [] k=0:=rfl
theorem lin_split (g:KI->Rat) (a:KI):∀ P:PL,lin g P=cf P a*g a+lin g (P.filter fun p=>decide (p.1≠a))
 | []=>by simp[lin,cf,Rat.zero_mul,Rat.add_zero]
 | (b,c)::l=>by
  have ih:=lin_split g a l
  by_cases h:b=a
  ·subst h
   simp only[lin,jP,qq,List.filter_cons,ne_eq,not_true_eq_false,decide_false,qp,qr]
   rw[ih];grind
  simp only[lin,jP,h,qr,List.filter_cons,ne_eq,not_false_eq_true,decide_true,qq]
  rw[ih];grind
theorem cf_filter (a k:KI):∀ P:PL,cf (P.filter fun p=>decide (p.1≠a)) k=if k=a then 0 else cf P k
 | []=>by simp[cf_nil]
 | (b,c)::l=>by
  have ih:=cf_filter a k l
  by_cases h:b=a
  ·subst h
   simp only[List.filter_cons,ne_eq,not_true_eq_false,decide_false,qp,qr,jP]
   grind
  simp only[List.filter_cons,ne_eq,h,not_false_eq_true,decide_true,qq,jP]
  rw[ih]
  grind
def Eqv (P R:PL):Prop:=∀ k,cf P k=cf R k
theorem Eqv.rfl {P:PL}:Eqv P P:=fun _=>Eq.refl _
theorem Eqv.symm {P R:PL} (h:Eqv P R):Eqv R P:=fun k=>(h k).symm
theorem Eqv.trans {P R S:PL} (h:Eqv P R) (g:Eqv R S):Eqv P S:=fun k=>(h k).trans (g k)
theorem lin_congr (g:KI->Rat):∀ (n:Nat) (P R:PL),P.length+R.length<=n->Eqv P R->lin g P=lin g R:=by
 intro n
 induction n with
 | zero=>intro P R h _;rw[zK (l:=P) aa,zK (l:=R) aa]
 | succ n ih=>
  have key:∀ (a:KI) (P R:PL),(P.filter fun p=>decide (p.1≠a)).length+(R.filter fun p=>decide (p.1≠a)).length<=n->Eqv P R->lin g P=lin g R:=by
   intro a P R h e
   rw[lin_split g a P,lin_split g a R,e a,ih _ _ h (fun k=>by rw[cf_filter,cf_filter,e k])]
  intro P R h e
  cases P with
  | cons p l=>
   refine key p.1 _ _ ?_ e
   grind
  | nil=>cases R with
   | nil=>rfl
   | cons p l=>
    refine key p.1 _ _ ?_ e
    grind
theorem Eqv.lin {P R:PL} (h:Eqv P R) (g:KI->Rat):lin g P=lin g R:=lin_congr g _ P R (zB _) h
theorem Eqv.perm {P R:PL} (h:P.Perm R):Eqv P R:=by
 intro k
 induction h with
 | nil=>rfl
 | cons x _ ih=>obtain⟨a,c⟩:=x;rw[jP,jP,ih]
 | swap x y l=>obtain⟨a,c⟩:=x;obtain⟨b,d⟩:=y;rw[jP,jP,jP,jP];grind
 | trans _ _ h1 h2=>exact h1.trans h2
theorem Eqv.app {P P' R R':PL} (h:Eqv P P') (g:Eqv R R'):Eqv (P++R) (P'++R'):=fun k=>by rw[cf_app,cf_app,h k,g k]
theorem cf_no {P:PL} {k:KI} (h:k∉P.map (·.1)):cf P k=0:=by
 induction P with
 | nil=>rfl
 | cons p l ih=>
  obtain⟨a,c⟩:=p
  simp only[zy,zF,not_or] at h
  rw[jP,if_neg (Ne.symm h.1),ih h.2,Rat.zero_add]
theorem sz_0:sz (0:Rat)=1:=by decide +kernel
theorem sz_cf (P:PL) (k:KI):sz (cf P k)<=szP P:=by
 induction P with
 | nil=>rw[cf_nil,sz_0];exact zB _
 | cons p l ih=>
  obtain⟨a,c⟩:=p
  rw[jP]
  show _<=sz c+1+szP l
  split
  ·have:=sz_add c (cf l k);omega
  rw[Rat.zero_add];omega
def cfM (m:List (KI×Qn)) (k:KI):Rat:=match Zb k m with|some x=>x.q|none=>0
structure KP (P:PL) (m:List (KI×Qn)):Prop where
 nd:(m.map (·.1)).Nodup
 q:∀ k,cfM m k=cf P k
 mem:∀ k∈m.map (·.1),k∈P.map (·.1)
theorem KP.nil:KP [] []:=⟨List.nodup_nil,fun _=>rfl,fun _ h=>h⟩
def addK (k:KI) (c:Qn) (m:List (KI×Qn)):List (KI×Qn):=ZZ k (match Zb k m with|some o=>Qn.add o c|none=>c) m
theorem get_set {α:Type} (k j:KI) (v:α):∀ l:List (KI×α),Zb j (ZZ k v l)=if j=k then some v else Zb j l
 | []=>by simp[ZZ,Zb]
 | (a,x)::l=>by
  simp only[ZZ]
  by_cases h:k=a
  ·subst h
   simp only[qq,Zb]
   grind
  simp only[h,qr,Zb,get_set k j v l]
  by_cases hj:j=a
  ·subst hj;simp[Ne.symm h]
  simp[hj]
theorem mem_set {α:Type} (k j:KI) (v:α):∀ l:List (KI×α),j∈(ZZ k v l).map (·.1)↔j=k\/j∈l.map (·.1)
 | []=>by simp[ZZ]
 | (a,x)::l=>by
  simp only[ZZ]
  by_cases h:k=a
  ·subst h;simp
  simp only[h,qr,zy,zF,mem_set k j v l]
  constructor
  ·grind
  grind
theorem nd_set {α:Type} (k:KI) (v:α):∀ l:List (KI×α),(l.map (·.1)).Nodup->((ZZ k v l).map (·.1)).Nodup
 | [],_=>by simp[ZZ]
 | (a,x)::l,hn=>by
  simp only[zy,List.nodup_cons] at hn
  simp only[ZZ]
  by_cases h:k=a
  ·subst h;simp[hn.1,hn.2]
  simp only[h,qr,zy,List.nodup_cons,mem_set]
  exact⟨fun e=>e.elim (fun e=>h e.symm) hn.1,nd_set k v l hn.2⟩
theorem KP.add {P:PL} {m:List (KI×Qn)} (h:KP P m) (k:KI) (c:Qn):KP (P++[(k,c.q)]) (addK k c m):=by
 refine⟨nd_set _ _ _ h.nd,fun j=>?_,fun j hj=>?_⟩
 ·have hq:=h.q j
  unfold cfM at hq ⊢
  rw[addK,get_set,cf_app,jP,cf_nil]
  by_cases e:j=k
  ·subst e
   simp only[qq]
   grind [Rat.zero_add,Rat.add_zero,Qn.add_q]
  grind
 rw[addK,mem_set] at hj
 simp only[qc,zy,zZ,zH,zg]
 rcases hj with e|e
 ·exact .inr e
 exact .inl (h.mem j e)
theorem get_of_mem {α:Type} {k:KI} {x:α}:∀ {l:List (KI×α)},(l.map (·.1)).Nodup->(k,x)∈l->Zb k l=some x
 | [],_,h=>by cases h
 | (a,y)::l,hn,h=>by
  simp only[zy,List.nodup_cons] at hn
  rcases zF.1 h with e|e
  ·cases e;simp[Zb]
  have:k≠a:=by rintro rfl;exact hn.1 (zE.2 ⟨_,e,rfl⟩)
  simp[Zb,this,get_of_mem hn.2 e]
theorem KP.val {P:PL} {m:List (KI×Qn)} (h:KP P m) {k:KI} {x:Qn} (hx:(k,x)∈m):x.q=cf P k:=by rw[<-h.q k,cfM,get_of_mem h.nd hx]
theorem KP.sz {P:PL} {m:List (KI×Qn)} (h:KP P m) {k:KI} {x:Qn} (hx:(k,x)∈m):sz x.q<=szP P:=by rw[h.val hx];exact sz_cf P k
theorem mem_of_get {α:Type} {k:KI} {x:α}:∀ {l:List (KI×α)},Zb k l=some x->(k,x)∈l
 | [],h=>by cases h
 | (a,y)::l,h=>by
  simp only[Zb] at h
  split at h
  ·grind
  exact zN _ (mem_of_get h)
theorem KP.szg {P:PL} {m:List (KI×Qn)} (h:KP P m) {k:KI} {x:Qn} (hx:Zb k m=some x):Un.sz x.q<=szP P:=h.sz (mem_of_get hx)
theorem KP.congr {P R:PL} {m:List (KI×Qn)} (h:KP P m) (e:Eqv P R) (hk:∀ k∈P.map (·.1),k∈R.map (·.1)):KP R m:=⟨h.nd,fun k=>(h.q k).trans (e k),fun k hm=>hk k (h.mem k hm)⟩
def plM (m:List (KI×Qn)):PL:=m.map fun p=>(p.1,p.2.q)
theorem cf_plM {m:List (KI×Qn)} (hn:(m.map (·.1)).Nodup) (k:KI):cf (plM m) k=cfM m k:=by
 induction m with
 | nil=>rfl
 | cons p l ih=>
  obtain⟨a,x⟩:=p
  simp only[zy,List.nodup_cons] at hn
  show cf ((a,x.q)::plM l) k=_
  rw[jP,ih hn.2]
  unfold cfM
  by_cases e:k=a
  ·subst e
   have:Zb k l=none:=by
    cases hg:Zb k l with
    | none=>rfl
    | some y=>exact absurd (zE.2 ⟨_,mem_of_get hg,rfl⟩) hn.1
   simp[Zb,this,Rat.add_zero]
  simp[Zb,e,Ne.symm e,Rat.zero_add]
theorem KP.eqv {P:PL} {m:List (KI×Qn)} (h:KP P m):Eqv (plM m) P:=fun k=>(cf_plM h.nd k).trans (h.q k)
end Go.Lens.Un
end
section
namespace Go.Lens.Tb
open Go.Proofs Go.Lens.Un
variable [Lz] [Dn]
attribute [local irreducible] TK PK T RG EfR Body CG
abbrev eP (x:Qn):PV:=.agg (eF x)
abbrev kR (P:PL):MO:=.kmap (fun kv=>∃ m,KP P m/\kv=kvO eP m)
structure Trm where
 c:Nb
 i:Int
 j:Int
abbrev eY (t:Trm):List PV:=[pS (bsO (Trm.c t)),pI (Trm.i t),pI (Trm.j t)]
def trZ:Trm:=⟨[],0,0⟩
theorem kty:KTy tab 105 103 83 3:=⟨ae,ae,ae,ae,ae⟩
abbrev zP:PV:=.agg [pI 0,ZP,pI 0,ZP]
theorem zP_ok:∀ R,qN R zP (.agg #[.int .i64 0,.slice none 0 0,.int .i64 0,.slice none 0 0]):=by
 intro R
 simp only[zP,qN,qA]
 exact⟨_,rfl,by simp[Value.oneCell'],_,_,rfl,⟨rfl,rfl⟩,_,_,rfl,⟨rfl,rfl⟩,_,_,rfl,⟨rfl,rfl⟩,_,_,rfl,⟨rfl,rfl⟩,rfl⟩
section
variable {P:Program} {Y:Tab} [qL P Y] {nb:Nat} {s:St} {dst:Option Tmp} {ty:TypeId} {pos:String} {af:Array Edge} {gd:Option (Nat×Bool)} {t kt et it:TypeId} {x y z:Operand} {α:Type} {enc:α->PV}
theorem B.getKs {h:Nat} {l:List (KI×α)} {k:KI} {v:α} {zv:Value} {zp:PV} {i:TypeInfo} (hT:KTy Y t kt et it) (hx:ev1 s x=.mref h) (hy:ev1 s y=.pv (kkP k)) (hl:qx s.ms h=some (kO enc l)) (hi:Y.info? et=some i) (hz:i.zero=some zv) (hzp:∀ R,qN R zp zv) (hg:Zb k l=some v) :
  Body P Y nb s ⟨dst,.lookup t x y true,ty,pos,af,gd⟩ (.tup [.pv (enc v),lit (.bool true)]) [] [h]:=by
 have:=B.getK (P:=P) (nb:=nb) (dst:=dst) (ty:=ty) (pos:=pos) (af:=af) (gd:=gd) (zp:=zp) hT hx hy hl hi hz hzp
 rw[hg] at this;exact this
theorem B.getKn {h:Nat} {l:List (KI×α)} {k:KI} {zv:Value} {zp:PV} {i:TypeInfo} (hT:KTy Y t kt et it) (hx:ev1 s x=.mref h) (hy:ev1 s y=.pv (kkP k)) (hl:qx s.ms h=some (kO enc l)) (hi:Y.info? et=some i) (hz:i.zero=some zv) (hzp:∀ R,qN R zp zv) (hg:Zb k l=none) :
  Body P Y nb s ⟨dst,.lookup t x y true,ty,pos,af,gd⟩ (.tup [.pv zp,lit (.bool false)]) [] [h]:=by
 have:=B.getK (P:=P) (nb:=nb) (dst:=dst) (ty:=ty) (pos:=pos) (af:=af) (gd:=gd) (zp:=zp) hT hx hy hl hi hz hzp
 rw[hg] at this;exact this
end
theorem ad_n {k:KI} {c:Qn} {m:List (KI×Qn)} (h:Zb k m=none):addK k c m=ZZ k c m:=by unfold addK;rw[h]
theorem ad_s {k:KI} {c o:Qn} {m:List (KI×Qn)} (h:Zb k m=some o):addK k c m=ZZ k (Qn.add o c) m:=by unfold addK;rw[h]
def sumM (f:List Trm):List (KI×Qn):=f.foldl (fun m t=>ZZ (t.i,t.j) (jc t.c) m) []
theorem su_st {f:List Trm} {m:List (KI×Qn)} {k:Nat} (hk:k<f.length) (h:m=sumM (f.take k)):ZZ (Trm.i (f.getD k trZ),Trm.j (f.getD k trZ)) (jc (Trm.c (f.getD k trZ))) m=sumM (f.take (k+1)):=by
 unfold sumM at h ⊢
 rw[List.take_succ_eq_append_getElem hk,List.foldl_append,<-h,ze,zm hk];rfl
theorem ag103:aggT tab 103=some true:=ae
theorem fa57_1:fadQ tab 57 1=some 1:=ae
theorem fa57_2:fadQ tab 57 2=some 2:=ae
theorem sz57:szT tab 57=some 3:=ae
theorem sz103:szT tab 103=some 2:=ae
theorem un49:tab.underlying 49=some (.slice 57):=ae
theorem w119n (m:List (KI×Qn)) (k:KI) (c:Qn) (hg:Zb k m=none):qD Tryz.prog 63 [.mref 1,.pv (.agg [pI (Prod.fst k),pI (Prod.snd k)]),qV c] (qx [(1,(kO eP m))]) (.tup []) [(1,(kO eP (addK k c m)))]:=by
 refine cL 2 [(1,(kO eP m))] qf63 Z (nB Z) Z Z (kc (E Z (B.getKn kty Z Z Z in83 Z zP_ok hg) (E Z (B.bZ Z Z) (CF Z Z (E Z (B.setK (enc:=eP) kty Z Z Z Z) ?_)))))
 refine Rn Z ?_
 exact leafL (val0:=.tup []) (out0:=[(1,(kO eP (ZZ k c m)))]) (.inl Z) ae Z (by rw[ad_n hg])
theorem w119s (m:List (KI×Qn)) (k:KI) (c o:Qn) (hg:Zb k m=some o) (hz:∀ o,Zb k m=some o->sz (Qn.q o)+sz (Qn.q c)<=20000000):qD Tryz.prog 63 [.mref 1,.pv (.agg [pI (Prod.fst k),pI (Prod.snd k)]),qV c] (qx [(1,(kO eP m))]) (.tup []) [(1,(kO eP (addK k c m)))]:=by
 refine cL 2 [(1,(kO eP m))] qf63 Z (nB Z) Z Z (kc (E Z (B.getKs kty Z Z Z in83 Z zP_ok hg) (E Z (B.bZ Z Z) (CT Z Z (C Z (w125 o c (by have:=hz _ hg;omega)) Z Z Z (E Z (B.setK (enc:=eP) kty Z Z Z Z) ?_))))))
 refine Rn Z ?_
 exact leafL (val0:=.tup []) (out0:=[(1,(kO eP (ZZ k (Qn.add o c) m)))]) (.inl Z) ae Z (by rw[ad_s hg])
theorem w119 (m:List (KI×Qn)) (k:KI) (c:Qn) (h:Nat) (hz:∀ o,Zb k m=some o->sz (Qn.q o)+sz (Qn.q c)<=20000000):qD Tryz.prog 63 [.mref h,.pv (kkP k),.pv (eP c)] (qx [(h,kO eP m)]) (.tup []) [(h,kO eP (addK k c m))]:=by
 have key:qD Tryz.prog 63 [.mref 1,.pv (kkP k),.pv (eP c)] (qx [(1,kO eP m)]) (.tup []) [(1,kO eP (addK k c m))]:=by
  cases hg:Zb k m with
  | none=>exact w119n m k c hg
  | some o=>exact w119s m k c o hg hz
 simpa [renM,DV.renL,DV.ren,MO.ren,r1_1] using key.r1 1 h
theorem w114' (f:List Trm) (hl:f.length<=1000000) (hv:∀ t∈f,jA (Trm.c t)=0):qD Tryz.prog 54 [vL eY f] (qx []) (.mref 7) [(7,kO eP (sumM f))]:=by
 refine cL 1 [] qf54 Z (nB Z) Z Z (kc (E Z (B.newK (enc:=eP) Z Z) (E Z (B.jp Z un49) (l2 (fun (k:Nat) (m:List (KI×Qn))=>[(3,.mref 7),(7,vL eY f),(8,vI (f.length:Int)),(9,vI (k:Int))]) (fun _ m=>[(7,(kO eP m))]) (fun k m=>k<=f.length/\m=sumM (List.take k f)) (fun k _=>f.length-k) 0 [] Z ?_ (sb Z Z Z) ?_))))
 · exact⟨zt _,rfl⟩
 intro k m hI0
 refine Cp Z Z (fun h1=>?_) (fun h1=>?_)
 ·refine E Z (B.idx (z:=trZ) Z Z un49 sz57 (fun _=>rfl) Z aa) (E Z (B.run (val:=.pv (.agg [pI (Trm.i (f.getD k trZ)),pI (Trm.j (f.getD k trZ))])) (m:=[]) (rd:=[]) ae) (C Z (w116 (Trm.c (f.getD k trZ)) (hv _ (kj aa))) Z Z Z (E Z (B.setK (l:=m) (k:=((Trm.i (f.getD k trZ)),(Trm.j (f.getD k trZ)))) (v:=(jc (Trm.c (f.getD k trZ)))) kty Z Z Z Z) (Dr Z ae (E Z (B.add Z Z bg) (pk Z (L2 (k+1) (ZZ ((Trm.i (f.getD k trZ)),(Trm.j (f.getD k trZ))) (jc (Trm.c (f.getD k trZ))) m) ?_ ?_ (sb Z Z Z))))))))
  · exact⟨aa,su_st aa hI0.2⟩
  · omega
 exact Rt Z (leafL (val0:=.mref 7) (out0:=[(7,(kO eP m))]) (.inr Z) ae Z (by rw[hI0.2,zz aa]))
end Go.Lens.Tb
end
section
namespace Go.Proofs
open Go.Shelf
def Tryz.lays235_ren:Go.Shelf.Ren:=⟨fun|6=>145|15=>189|14=>188|28=>229|29=>206|20=>221|21=>222|22=>223|23=>224|24=>225|25=>226|26=>227|27=>228|46=>251|47=>252|48=>253|49=>254|50=>255|57=>269|n=>n,fun|22=>161|24=>103|25=>163|3=>3|39=>240|0=>0|53=>272|55=>215|4=>4|46=>266|45=>265|50=>119|5=>5|9=>9|66=>294|70=>298|76=>312|77=>313|n=>n,fun|n=>n⟩
theorem Tryz.lays235:Go.Proofs.SlLaysF0.n6 Tryz.prog Tryz.lays235_ren:={
  mixed:=ae
  f6:=⟨Tryz.f145.name,ah,Tryz.func145.trans (congrArg some ae)⟩
  f14:=⟨Tryz.f188.name,ah,Tryz.func188.trans (congrArg some ae)⟩
  f15:=Tryz.func189.trans (congrArg some ae)
  f20:=⟨Tryz.f221.name,ah,Tryz.func221.trans (congrArg some ae)⟩
  f21:=⟨Tryz.f222.name,ah,Tryz.func222.trans (congrArg some ae)⟩
  f22:=⟨Tryz.f223.name,ah,Tryz.func223.trans (congrArg some ae)⟩
  f23:=⟨Tryz.f224.name,ah,Tryz.func224.trans (congrArg some ae)⟩
  f24:=⟨Tryz.f225.name,ah,Tryz.func225.trans (congrArg some ae)⟩
  f25:=⟨Tryz.f226.name,ah,Tryz.func226.trans (congrArg some ae)⟩
  f26:=⟨Tryz.f227.name,ah,Tryz.func227.trans (congrArg some ae)⟩
  f27:=⟨Tryz.f228.name,ah,Tryz.func228.trans (congrArg some ae)⟩
  f28:=Tryz.func229.trans (congrArg some ae)
  f29:=Tryz.func206.trans (congrArg some ae)
  f46:=⟨Tryz.f251.name,ah,Tryz.func251.trans (congrArg some ae)⟩
  f47:=Tryz.func252.trans (congrArg some ae)
  f48:=Tryz.func253.trans (congrArg some ae)
  f49:=⟨Tryz.f254.name,ah,Tryz.func254.trans (congrArg some ae)⟩
  f50:=⟨Tryz.f255.name,ah,Tryz.func255.trans (congrArg some ae)⟩
  f57:=⟨Tryz.f269.name,ah,Tryz.func269.trans (congrArg some ae)⟩
  t0:=Tryz.underlying0
  a0:=Tryz.isAgg0
  z0:=Tryz.sizeOf0
  v0:=Tryz.zeroValue0
  t3:=Tryz.underlying3
  a3:=Tryz.isAgg3
  z3:=Tryz.sizeOf3
  v3:=Tryz.zeroValue3
  t4:=Tryz.underlying4
  a4:=Tryz.isAgg4
  z4:=Tryz.sizeOf4
  v4:=Tryz.zeroValue4
  t5:=Tryz.underlying5
  a5:=Tryz.isAgg5
  z5:=Tryz.sizeOf5
  v5:=Tryz.zeroValue5
  t9:=Tryz.underlying9
  a9:=Tryz.isAgg9
  z9:=Tryz.sizeOf9
  v9:=Tryz.zeroValue9
  t22:=Tryz.underlying161
  a22:=Tryz.isAgg161
  z22:=Tryz.sizeOf161
  v22:=Tryz.zeroValue161
  t25:=Tryz.underlying163
  a25:=Tryz.isAgg163
  z25:=Tryz.sizeOf163
  v25:=Tryz.zeroValue163
  t39:=Tryz.underlying240
  a39:=Tryz.isAgg240
  z39:=Tryz.sizeOf240
  v39:=Tryz.zeroValue240
  t45:=Tryz.underlying265
  a45:=Tryz.isAgg265
  z45:=Tryz.sizeOf265
  v45:=Tryz.zeroValue265
  t46:=Tryz.underlying266
  a46:=Tryz.isAgg266
  z46:=Tryz.sizeOf266
  v46:=Tryz.zeroValue266
  t50:=Tryz.underlying119
  a50:=Tryz.isAgg119
  z50:=Tryz.sizeOf119
  v50:=Tryz.zeroValue119
  t53:=Tryz.underlying272
  a53:=Tryz.isAgg272
  z53:=Tryz.sizeOf272
  v53:=Tryz.zeroValue272
  t55:=Tryz.underlying215
  a55:=Tryz.isAgg215
  z55:=Tryz.sizeOf215
  v55:=Tryz.zeroValue215
  t66:=Tryz.underlying294
  a66:=Tryz.isAgg294
  z66:=Tryz.sizeOf294
  v66:=Tryz.zeroValue294
  t70:=Tryz.underlying298
  a70:=Tryz.isAgg298
  z70:=Tryz.sizeOf298
  v70:=Tryz.zeroValue298
  t76:=Tryz.underlying312
  a76:=Tryz.isAgg312
  z76:=Tryz.sizeOf312
  v76:=Tryz.zeroValue312
  t77:=Tryz.underlying313
  a77:=Tryz.isAgg313
  z77:=Tryz.sizeOf313
  v77:=Tryz.zeroValue313 }
end Go.Proofs
end
section
namespace Go.Lens.Tb
open Go.Proofs Go.Lens.Un Go.Sort
theorem ordI_lt (a b:KI):ordI a b<0↔a.1+a.2<b.1+b.2\/(a.1+a.2=b.1+b.2/\b.1<a.1):=by
 unfold ordI cmp3
 by_cases h1:a.1+a.2<b.1+b.2
 ·simp[h1,qM]
 by_cases h2:b.1+b.2<a.1+a.2
 ·simp[h1,h2,qM];omega
 by_cases h3:b.1<a.1
 ·simp[h1,h2,h3,qM];omega
 by_cases h4:a.1<b.1
 ·simp[h1,h2,h3,h4,qM]
 simp[h1,h2,h3,h4,qM]
abbrev KSub:={ k:KI // KS k }
instance:Inhabited KSub:=⟨⟨(0,0),by unfold KS;decide⟩⟩
def encS (k:KSub):List Value:=[.int .i64 k.1.1,.int .i64 k.1.2]
def cfS (x y:KSub):Int:=ordI x.1 y.1
theorem cfS_swo:SWO (ltOf cfS):=by
 refine⟨fun x=>?_,fun x y z h1 h2=>?_,fun x y z h1 h2=>?_⟩
 ·simp only[ltOf,cfS,zG,ordI_lt];omega
 ·simp only[ltOf,cfS,zf,ordI_lt] at *;omega
 simp only[ltOf,cfS,zG,ordI_lt] at *;omega
theorem world_grown {w w':World} (h1:w'.os=w.os) (h2:w'.tape=w.tape) (h3:w'.output=w.output) (h4:w.drawn<=w'.drawn) (h5:w.heap.size<=w'.heap.size) (h6:∀ b,b<w.heap.size->w'.heap[b]? =w.heap[b]?) :
  ∃ q os',w'=grow (w.drewN q) os':=by
 refine⟨w'.drawn-w.drawn,w'.heap.extract w.heap.size w'.heap.size,?_⟩
 obtain⟨hp,tp,dr,os,out⟩:=w'
 simp only at h1 h2 h3 h4 h5 h6
 subst h1 h2 h3
 simp only[grow,World.drewN,World.mk.injEq,and_true,true_and]
 grind
theorem order_calls (x y:KSub) (W:World):Calls Tryz.prog 105 #[.agg (encS x).toArray,.agg (encS y).toArray] W fun e w'=>e=.returned (.int .i64 (cfS x y))/\∃ q os',w'=grow (W.drewN q) os':=by
 letI:Lz:={ L:=fun _=>none,D:=true }
 have H:=w170 x.1 y.1 x.2 y.2
 let G:Gh:=⟨W.heap.size,⟨fun _ _=>none,fun _=>none⟩,fun _=>{},fun _=>none⟩
 have M:Z4 G (qx []) W:=⟨fun h o e=>dH,fun b h e=>dH,fun b h e=>dH,fun k o h e=>dH,fun b o v _ e=>dH,fun r es _ e=>dH,zB _,fun b o e=>dH⟩
 rcases H.call G W #[.agg (encS x).toArray,.agg (encS y).toArray] M (by
  simp only[qC,qy]
  exact⟨_,_,rfl,kk_rel,_,_,rfl,kk_rel,rfl⟩) with ⟨_,hc⟩|⟨r,w',hr,_⟩
 ·refine Calls.mono hc ?_
  rintro e w' ⟨r,rfl,G',S⟩
  have hv:=(qB S.hval).1
  refine⟨by rw[hv];rfl,world_grown S.later.os S.later.tape S.later.output (S.later.drawn Z) S.later.size fun b hb=>(S.later.cold b hb Z).1⟩
 rw[Tryz.call105] at hr;cases hr
theorem sorted_uniq:∀ (L M:List KI),L.Perm M->L.Pairwise (fun a b=>ordI a b<0)->M.Pairwise (fun a b=>¬ordI b a<0)->M=L
 | [],M,hp,_,_=>by simpa using hp.symm.eq_nil
 | a::L,[],hp,_,_=>by simp at hp
 | a::L,b::M,hp,hs,ht=>by
  rw[List.pairwise_cons] at hs ht
  have hab:a=b:=by
   by_cases e:a=b
   ·exact e
   exfalso
   have h1:b∈L:=by grind
   grind
  subst hab
  rw[sorted_uniq L M (List.Perm.cons_inv hp) hs.2 ht.2]
def valK (l:List KI):List Value:=(l.map fun k=>[Value.int .i64 k.1,.int .i64 k.2]).flatten
theorem Z8 (k:KI) (l:List KI):valK (k::l)=.int .i64 k.1::.int .i64 k.2::valK l:=rfl
theorem valK_len (l:List KI):(valK l).length=l.length*2:=by
 induction l with
 | nil=>rfl
 | cons k l ih=>rw[Z8];simp[ih];omega
theorem Zv:∀ (l:List KI) (t:Nat),(valK l)[t]? =(l[t / 2]?).map fun k=>if t%2=0 then Value.int .i64 k.1 else .int .i64 k.2
 | [],t=>by simp[valK]
 | k::l,0=>by simp[Z8]
 | k::l,1=>by simp[Z8]
 | k::l,t+2=>by
  rw[Z8]
  simp only[List.getElem?_cons_succ,Zv l t]
  rw[show (t+2) / 2=t / 2+1 by omega,show (t+2)%2=t%2 by omega]
  simp
section
variable [Lz]
theorem rel_valK {R:Rd}:∀ {l:List KI} {vs:List Value},qA R (l.map eK).flatten vs↔vs=valK l
 | [],vs=>by simp[qA,valK]
 | k::l,vs=>by
  simp only[zy,List.flatten_cons,zQ,zU,qA,qN,Z8]
  constructor
  ·grind [rel_valK.1]
  rintro rfl;exact⟨_,_,rfl,⟨rfl,rfl⟩,_,_,rfl,⟨rfl,rfl⟩,rel_valK.2 rfl⟩
end
def subK (l:List KI) (hk:∀ k∈l,KS k):List KSub:=l.attach.map fun k=>⟨k.1,hk k.1 k.2⟩
theorem subK_val (l:List KI) (hk:∀ k∈l,KS k):(subK l hk).map (·.1)=l:=by
 simp only[subK,List.map_map,Function.comp_def]
 exact List.attach_map_subtype_val l
theorem flat_valK (d:Array KSub):(flatK encS 2 d).toList=valK (d.toList.map (·.1)):=by
 apply List.ext_getElem?
 intro t
 rw[Zv]
 by_cases ht:t<d.size*2
 ·have h1:t<(flatK encS 2 d).size:=by rw[size_flatK];exact ht
  have h2:=get_flatK encS 2 d t ht
  have hd:t / 2<d.size:=aa
  rw[getElem!_pos _ t h1,getElem!_pos d (t / 2) hd] at h2
  rw[qi,Array.getElem?_eq_getElem h1,h2]
  simp only[qe,qi,Array.getElem?_eq_getElem hd,qf]
  rcases Nat.mod_two_eq_zero_or_one t with e|e<;>simp[e,encS]
 rw[qi,Array.getElem?_eq_none (by rw[size_flatK];omega)]
 simp only[qe,qi,Array.getElem?_eq_none (show d.size<=t / 2 by omega),Option.map_none]
theorem take_eq_of {α:Type} {a b:List α} {n:Nat} (h:∀ t,t<n->a[t]? =b[t]?):a.take n=b.take n:=by
 apply List.ext_getElem?
 grind
section
variable [Lz]
theorem w235c (l L:List KI) (n v:Nat) (d:DV) (hn:n<=l.length) (h62:l.length<4611686018427387904) (hd:d=.atrunc 901 v n\/(d=.aref 901 v/\n=l.length)) (hk:∀ k∈l.take n,KS k) (hp:L.Perm (l.take n)) (hs:L.Pairwise (fun a b=>ordI a b<0))
  {G:Gh} {w:World} {vs:Array Value} (M:Z4 G (qx [(901,.arr v 2 103 (l.map eK))]) w) (hv:qC G (G.rd w) [d,.pv (.fn (.func 105) [] [])] vs.toList) (ha:(G.ρ 901).addr≠none) :
  CallsAs Tryz.prog 145 vs w fun r w'=>∃ G',Stepped G w (qx [(901,.arr v 2 103 (l.map eK))]) (.tup []) [(901,.arr v 2 103 ((L++l.drop n).map eK))] G' w' r:=by
 have hl1:qx [(901,MO.arr v 2 103 (l.map eK))] 901=some (.arr v 2 103 (l.map eK)):=by simp[qF]
 refine .inl ⟨Tryz.call145 _ _,?_⟩
 obtain⟨v1,v2,e,q1,q2⟩:=hv.two
 obtain⟨k1,k2,k3,k4,k5,k6,hA⟩:=M.ms 901 _ hl1
 have hfn:v2=.func (.func 105) #[] #[]:=by
  simp only[qy,qN,qA] at q2
  obtain⟨x,y,rfl,hx,hy⟩:=q2
  rw[show x= #[] by rw[<-Array.toArray_toList (xs:=x),hx],show y= #[] by rw[<-Array.toArray_toList (xs:=y),hy]]
 subst hfn
 rw[zI] at k4 k5
 rcases hA with ⟨ha',hc⟩|⟨b,c,e1,e2,e3,e4,e5,e6,e7⟩
 ·exact absurd ha' ha
 have hv1:v1=.slice (some ⟨b,0,none⟩) n (G.ρ 901).cap:=by
  rcases hd with rfl|⟨rfl,hnl⟩
  ·simp only[qy] at q1;rw[(q1.2 k2).2,e1]
  simp only[qy] at q1;rw[q1.2 k2,e1,k4,hnl]
 subst hv1;subst e
 rw[zI] at e6 e7
 have hc7:=rel_valK.1 e7
 have hbl:b<w.heap.size:=(zS.1 e3).1
 have hcs:l.length*2<=c.size:=by rw[e5];omega
 have hcget:∀ t,t<l.length*2->c[t]? =(valK l)[t]? :=by
  intro t ht
  rw[<-hc7,qo,if_pos ht,qi]
 obtain⟨D,hD⟩:∃ D:Array KSub,D=(subK (l.take n) hk).toArray:=⟨_,rfl⟩
 have hDl:D.toList.map (·.1)=l.take n:=by rw[hD];exact subK_val (l.take n) hk
 have hDs:D.size=n:=by rw[<-qj,<-zI (f:=fun x:KSub=>x.1),hDl];simp;omega
 have hfl:(flatK encS 2 D).toList=valK (l.take n):=by rw[flat_valK,hDl]
 have hval:∀ t,t<n*2->(valK (l.take n))[t]? =(valK l)[t]? :=by
  intro t ht
  rw[Zv,Zv,qo,if_pos aa]
 have hH:HoldsK encS 2 w b 0 D:=by
  intro t ht
  rw[size_flatK,hDs] at ht
  have h1:(flatK encS 2 D)[t]? =c[t]? :=by rw[<-qi,hfl,hval t ht,hcget t aa]
  have h2:t<(flatK encS 2 D).size:=by rw[size_flatK,hDs];exact ht
  have h3:t<c.size:=aa
  constructor
  ·simp only[World.cell?,e3,Nat.zero_add,Option.isSome_none,qp,qr,id]
   rw[<-h1,Array.getElem?_eq_getElem h2,getElem!_pos _ t h2]
  simp[World.frozen?,e3]
 have key:=AnyQ.slices_SortFunc Tryz.lays235 2 Tryz.isAgg103 Tryz.sizeOf103 encS (fun _=>rfl) (fun x v hv=>by simp[encS] at hv;rcases hv with rfl|rfl<;>rfl) cfS cfS_swo 105 #[] b 0 (G.ρ 901).cap D w (Tryz.call105 ) (fun _ _ _ _ x y=>by rw[Array.append_empty];exact order_calls x y _) hH hbl (by rw[hDs];omega)
 rw[hDs] at key
 refine Calls.mono key ?_
 rintro e w' ⟨rfl,d',m,os,p1,p2,rfl⟩
 refine⟨_,rfl,?_⟩
 obtain⟨ps,_,pp⟩:=p1
 have hds:d'.size=n:=ps.trans hDs
 have hdl:d'.toList.map (·.1)=L:=by
  refine sorted_uniq L _ (hp.trans ?_) hs ?_
  ·have e1:(d'.extract 0 n).toList=d'.toList:=by rw[<-hds];simp
   have e2:(D.extract 0 n).toList=D.toList:=by rw[<-hDs];simp
   rw[e1,e2] at pp
   have:=pp.map (fun x:KSub=>x.1)
   rw[hDl] at this
   exact this.symm
  rw[List.pairwise_map,List.pairwise_iff_getElem]
  intro i j hi hj hij
  have:=of_decide_eq_false (show decide (ordI (d'[j]!).1 (d'[i]!).1<0)=false from p2 i j (zt _) hij (by rw[<-hds];simpa using hj))
  rw[getElem!_pos d' j an,getElem!_pos d' i ar] at this
  simpa using this
 have hfl':(flatK encS 2 d').toList=valK L:=by rw[flat_valK,hdl]
 have hLl:L.length=n:=by rw[hp.length_eq];simp;omega
 obtain⟨W1,hW1⟩:∃ W1,W1=grow (Sort.ahead w m) os:=⟨_,rfl⟩
 have hW:sortWorldK encS 2 w b 0 m d' os=putRowK encS 2 W1 b 0 d':=by rw[hW1,putRowK_grow _ _ _ _ _ _ _ (by exact hbl)];rfl
 have S1:Stepped G w (qx [(901,MO.arr v 2 103 (l.map eK))]) .dead [] G W1 undef:=by refine Za M.ctx (by rw[hW1];rfl) (by rw[hW1];rfl) (by rw[hW1];rfl) (by rw[hW1,size_grow];exact Nat.le_add_right _ _) (fun b' hb'=>by rw[hW1];exact heap_grow_old _ _ hb') aB rfl (fun _=>by rw[hW1];exact Nat.le_add_right _ _)
 have M1:=M.out S1
 have hu:upd [] (qx [(901,MO.arr v 2 103 (l.map eK))])=qx [(901,MO.arr v 2 103 (l.map eK))]:=by funext h;rfl
 rw[hu] at M1
 have hb1:W1.heap[b]? =some (.cells c 103 (0,0)):=by rw[hW1,heap_grow_old _ _ (by exact hbl)];exact e3
 have hw2:(putRowK encS 2 W1 b 0 d').heap=W1.heap.modify b (onCells (putCells id 0 (flatK encS 2 d'))):=rfl
 have hn2:(putRowK encS 2 W1 b 0 d').heap[b]? =some (.cells (putCells id 0 (flatK encS 2 d') c) 103 (0,0)):=by rw[hw2,Array.getElem?_modify,if_pos rfl,hb1];rfl
 have S2:=jh (m:=.arr v 2 103 ((L++l.drop n).map eK)) (val:=.tup []) (r:=.tuple #[]) M1.ctx (B:=G.ρ 901) (h:=901) hl1 aU
  (w':=putRowK encS 2 W1 b 0 d') Z Z Z (by rw[hw2,Array.size_modify]) (fun b' hb'=>by
   rw[hw2,Array.getElem?_modify,if_neg (fun e=>hb' (by rw[<-e];exact e2))]) dI (by
   rw[Gh.qX]
   have hlen:(L++l.drop n).length=l.length:=by simp[hLl];omega
   refine⟨k1,k2,k3,by rw[zI,hlen];exact k4,by rw[zI,hlen];exact k5,fun e he=>by obtain⟨k,_,rfl⟩:=zE.1 he;rfl,.inr ⟨b,_,e1,e2,hn2,e4,by simp[putCells,e5],?_,?_⟩⟩
   all_goals rw[zI,hlen]
   all_goals
    have hnew:(putCells id 0 (flatK encS 2 d') c).toList.take (l.length*2)=valK (L++l.drop n):=by
     have e0:valK (L++l.drop n)=(valK (L++l.drop n)).take (l.length*2):=by rw[zz];rw[valK_len,hlen];exact zB _
     rw[e0]
     refine take_eq_of fun t ht=>?_
     have htc:t<c.size:=aa
     rw[qi]
     simp only[putCells,Array.getElem?_mapIdx,Array.getElem?_eq_getElem htc,qf,zt,true_and,Nat.zero_add,Nat.sub_zero,size_flatK,hds,id]
     by_cases hq:t<n*2
     ·have h2:t<(flatK encS 2 d').size:=by rw[size_flatK,hds];exact hq
      rw[if_pos hq,getElem!_pos _ t h2,<-Array.getElem?_eq_getElem h2,<-qi,hfl',Zv,Zv,List.getElem?_append_left aa]
     rw[if_neg hq,<-Array.getElem?_eq_getElem htc,hcget t ht,Zv,Zv,z8 aa,List.getElem?_drop,hLl]
     congr 2;omega
   ·rw[hnew]
    intro x hx
    have:∀ l:List KI,∀ x∈valK l,x.oneCell'=true:=by
     intro l
     induction l with
     | nil=>intro x hx;cases hx
     | cons k l ih=>
      intro x hx
      rw[Z8] at hx
      rcases zF.1 hx with rfl|hx
      ·rfl
      rcases zF.1 hx with rfl|hx
      ·rfl
      exact ih x hx
    exact this _ x hx
   rw[hnew];exact rel_valK.2 Z) bc am
 rw[Gh.qX] at S2
 have S3:=S1.trans M (by rw[hu];exact S2)
 rw[hW]
 exact⟨G,by simpa [mrg] using S3⟩
end
theorem ck [Lz] [Fc] {n nb:Nat} {Q:Exit->St->Prop} {x:Code} {K:List Fr} {tm:List (Nat×DV)} {ms:Na} (h:TK Tryz.prog n nb Q x K ⟨tm,ms⟩):CG n nb Q (.t x K tm ms):=h
section
variable [Lz] {P:Program} {Y:Tab} [qL P Y] {nb:Nat} {s:St} {dst:Option Tmp} {ty u:TypeId} {pos:String} {af:Array Edge} {gd:Option (Nat×Bool)} {t:TypeId} {x y z:Operand}
theorem B.slL {α:Type} {enc:α->List PV} {l:List α} {lo:Operand} {h v sz i:Nat} {k:IntKind} {n:Int} {e T:TypeId} (hx:ev1 s x=.aref h v) (hm:qx s.ms h=some (.arr v sz T (l.map enc))) (hlo:ev1 s lo=lit (.int k n)) (und:Y.underlying t=some (.slice e)) (hs:szT Y e=some sz)
  (hn:n=(i:Int)) (hi:i<l.length):Body P Y nb s ⟨dst,.slice t x (some lo) none none,ty,pos,af,gd⟩ (.awin h v i (l.length-i)) [] [h]:=by
 refine .inr (kH.of fun σ G a w hv hl I=>?_)
 have hX:=hv x aS
 have hY:=hv lo aS
 rw[hx] at hX;rw[hlo] at hY
 have hY':=(qB hY).1
 have hlk:qx σ.ms h=some (.arr v sz T (l.map enc)):=by rw[hl h (.inl ao)];exact hm
 obtain⟨k1,k2,k3,k4,k5,k6,hA⟩:=I.ms _ _ hlk
 rw[zI] at k4 k5
 rcases hA with ⟨_,hc⟩|⟨b,c,e1,_⟩
 ·rw[hc] at k5;omega
 simp only[qy] at hX
 have hX':=hX.2 k2
 rw[e1,k4] at hX'
 subst hn
 have hb:=jU (P:=P) (w:=w) (isS:=true) (len:=l.length) (cap:=(G.ρ h).cap) (lo:=some (.int k (i:Int))) (hi:=none) (l:=some (i:Int)) (h:=none) ⟨k,rfl⟩ trivial ao aF aF
 have hrun:(Instr.sliceAt t (.slice (some ⟨b,0,none⟩) l.length (G.ρ h).cap) (some (.int k (i:Int))) none none).run P w=.ok (.slice (some ⟨b,i*sz,none⟩) (l.length-i) ((G.ρ h).cap-i)) w:=by
  rw[Zq (by simp[und]) und]
  simp only[Instr.slice,qu,qJ und,qt,hb,qZ hs,qw,zO,Option.getD_none,zT]
  rw[if_neg aa]
  simp[Addr.add]
  exact Eq.symm
 refine⟨_,w,G,.inl ?_,qH I.ctxS (r:=.slice (some ⟨b,i*sz,none⟩) (l.length-i) ((G.ρ h).cap-i)) ?_ (fun k hk=>?_)⟩
 ·simp only[execOp,Option.map_none,qf,hX',hY',qu,hrun,qt,qw]
 ·simp only[qy]
  exact⟨by rw[k2];exact zB _,fun _=>⟨by rw[k4];omega,b,0,e1,by rw[k3];simp⟩⟩
 simp only[DV.refs,zg] at hk;subst hk;exact⟨_,hlk⟩
theorem B.clrK {l:List KI} {h v o n:Nat} {i:TypeInfo} {zv:Value} (hx:ev1 s x=.awin h v o n) (hm:qx s.ms h=some (.arr v 2 103 (l.map eK))) (hn:0<n) (hon:o+n=l.length) (und:Y.underlying t=some (.slice 103)) (hi:Y.info? 103=some i) (hz:i.zero=some zv) (hzc:zv.cells.toList=[.int .i64 0,.int .i64 0]) :
  Body P Y nb s ⟨none,.call ⟨.builtin .clear,⟨[x]⟩,⟨[t]⟩⟩,ty,pos,af,gd⟩ (.tup []) [(h,.arr v 2 103 ((l.take o++List.replicate n (0,0)).map eK))] [h]:=by
 refine .inr (kH.of fun σ G a w hv hl I=>?_)
 have hX:=hv x (show x∈[x] by simp)
 rw[hx] at hX
 have hlk:qx σ.ms h=some (.arr v 2 103 (l.map eK)):=by rw[hl h (.inl ao)];exact hm
 obtain⟨k1,k2,k3,k4,k5,k6,hA⟩:=I.ms _ _ hlk
 rw[zI] at k4 k5
 rcases hA with ⟨_,hc⟩|⟨b,c,e1,e2,e3,e4,e5,e6,e7⟩
 ·rw[hc] at k5;omega
 rw[zI] at e6 e7
 have hc7:=rel_valK.1 e7
 simp only[qy] at hX
 obtain⟨_,b',off,g1,g2⟩:=hX.2 k2
 rw[e1] at g1
 simp only[zh,Addr.mk.injEq,and_true] at g1
 obtain⟨rfl,rfl⟩:=g1
 rw[k3,Nat.zero_add] at g2
 have hcs:l.length*2<=c.size:=by rw[e5];omega
 have hzl:(Builtin.zeroCells zv.cells n).toList=valK (List.replicate n (0,0)):=by
  rw[zeroCells_list,hzc]
  unfold valK
  rw[List.map_replicate]
 have hzr:(zeroValue 103).run P w=.ok zv w:=by simp[zeroValue,typeInfo,qL.inf P hi,hz]
 have hone:∀ l:List KI,∀ x∈valK l,x.oneCell'=true:=by
  intro l
  induction l with
  | nil=>intro x hx;cases hx
  | cons k l ih=>
   intro x hx
   rw[Z8] at hx
   rcases zF.1 hx with rfl|hx
   ·rfl
   rcases zF.1 hx with rfl|hx
   ·rfl
   exact ih x hx
 have hst:=run_storeCells_at P b (o*2) 103 (valK (List.replicate n (0,0))) 0 c w e3 (by rw[valK_len];simp;omega) (hone _)
 obtain⟨row,hrow⟩:∃ row,row=c.toList.take (o*2)++valK (List.replicate n (0,0))++c.toList.drop (o*2+n*2):=⟨_,rfl⟩
 have hst':(storeCells ⟨b,o*2,none⟩ (valK (List.replicate n (0,0))) 0).run P w=.ok () (w.setRow b row.toArray):=by rw[hst,hrow];simp[valK_len]
 have hnz:n≠0:=aa
 have hrun:(Builtin.clear_ #[t] ty #[.slice (some ⟨b,o*2,none⟩) n ((G.ρ h).cap-o)]).run P w=.ok (.tuple #[]) (w.setRow b row.toArray):=by
  obtain⟨m,rfl⟩:∃ m,n=m+1:=⟨n-1,aa⟩
  simp only[Builtin.clear_,List.getElem?_toArray,List.getElem?_cons_zero,qu,qJ und,qt,hzr,hzl,hst',qw]
 have hblk:∀ b',G.γ b'≠some h->(w.setRow b row.toArray).heap[b']? =w.heap[b']? :=fun b' hb'=>setRow_other w b b' _ (fun e=>hb' az)
 have htk:row.take (l.length*2)=valK (l.take o++List.replicate n (0,0)):=by
  have h1:(c.toList.take (o*2))=valK (l.take o):=by
   have:c.toList.take (o*2)=(valK l).take (o*2):=by rw[<-hc7,List.take_take,Nat.min_eq_left aa]
   rw[this]
   apply List.ext_getElem?
   intro t
   rw[qo,Zv,Zv]
   by_cases ht:t<o*2
   ·rw[if_pos ht,qo,if_pos aa]
   rw[if_neg ht,qo,if_neg aa];rfl
  have h2:valK (l.take o++List.replicate n (0,0))=valK (l.take o)++valK (List.replicate n (0,0)):=by simp[valK]
  rw[hrow,h1,h2,List.take_left']
  rw[za,valK_len,valK_len,zn,qd];omega
 have S:=jh (m:=.arr v 2 103 ((l.take o++List.replicate n (0,0)).map eK)) (val:=.tup []) (r:=.tuple #[]) I.ctxS (B:=G.ρ h) hlk aU
  (w':=w.setRow b row.toArray) Z Z Z ao hblk dI (by
   rw[Gh.qX]
   have hlen:(l.take o++List.replicate n (0,0)).length=l.length:=by simp;omega
   refine⟨k1,k2,k3,by rw[zI,hlen];exact k4,by rw[zI,hlen];exact k5,fun e he=>by obtain⟨k,_,rfl⟩:=zE.1 he;rfl,.inr ⟨b,_,e1,e2,setRow_heap w b c _ 103 _ e3,e4,?_,?_,?_⟩⟩
   ·rw[hrow];simp[valK_len];omega
   ·rw[zI,hlen];show ∀ x∈row.take (l.length*2),_;rw[htk];exact hone _
   rw[zI,hlen];show qA _ _ (row.take (l.length*2));rw[htk];exact rel_valK.2 Z) bc am
 rw[Gh.qX] at S
 refine⟨_,_,G,.inl ?_,S⟩
 have lift:∀ {q:Sem Value} {r:Value} {w':World},q.run P w=.ok r w'->(do Pure.pure (Next.value (<-q)):Sem Next).run P w=.ok (.value r) w':=by
  intro q r w' h
  simp only[qu,h,qt,qw]
 exact lift (by simpa [g2] using hrun)
end
end Go.Lens.Tb
end
section
namespace Go.Lens.Tb
open Go.Proofs Go.Lens.Un
variable [Lz] [Dn]
attribute [local irreducible] TK PK T RG EfR Body CG
def zq (x:Qn):Bool:=decide (j7 x.q.num=0)
def pK (m:List (KI×Qn)) (k:KI):Bool:=match Zb k m with|some x=>zq x|none=>true
def idxK (p:KI->Bool):List KI->Int->Int
 | [],_=> -1
 | a::l,i=>bif p a then i else idxK p l (i+1)
def kpK (m:List (KI×Qn)) (l:List KI):List KI:=l.filter fun k=>!pK m k
section
variable {m:List (KI×Qn)} {k:KI} {x:Qn} {l o:List KI} {p:KI->Bool} {i j q:Nat}
theorem pk_v (h:Zb k m=some x):decide (j7 x.q.num=0)=pK m k:=by unfold pK;rw[h];rfl
theorem get_mem (h:k∈m.map (·.1)):∃ x,Zb k m=some x:=by
 cases hg:Zb k m with
 | some x=>exact⟨x,rfl⟩
 | none=>
  exfalso
  induction m with
  | nil=>cases h
  | cons a m ih=>
   grind [Zb]
theorem ik_step {j:Nat} (hk:j<l.length) (h:p (l.getD j (0,0))=false):idxK p (l.drop j) j=idxK p (l.drop (j+1)) ((j+1:Nat):Int):=by rw[drop_at l j (0,0) hk,idxK,h];rfl
theorem ik_end {i:Int} {j:Nat} (h:i=idxK p (l.drop j) j) (hk:¬(j:Int)<(l.length:Int)): -1=i:=by rw[h,zV aa];rfl
theorem ik_at {i:Int} {j:Nat} (h:i=idxK p (l.drop j) j) (hk:j<l.length) (hp:p (l.getD j (0,0))=true):(j:Int)=i:=by rw[h,drop_at l j (0,0) hk,idxK,hp];rfl
theorem ik_all {i:Int} (h:∀ k∈l,p k=false):idxK p l i= -1:=by
 induction l generalizing i with
 | nil=>rfl
 | cons a l ih=>rw[idxK,h a ao];exact ih fun k hk=>h k (by simp[hk])
theorem ik_no (h:∀ k∈l,pK m k=false):idxK (pK m) l 0= -1:=ik_all h
theorem ik_find (i:Nat):(∀ k∈l,p k=false)\/∃ q,q<l.length/\idxK p l i=((i+q:Nat):Int)/\(∀ k∈l.take q,p k=false)/\p (l.getD q (0,0))=true:=by
 induction l generalizing i with
 | nil=>exact .inl fun k hk=>by cases hk
 | cons a l ih=>
  cases ha:p a with
  | true=>exact .inr ⟨0,by simp,by rw[idxK,ha];rfl,by simp,by simpa using ha⟩
  | false=>
   rcases ih (i+1) with h|⟨q,h1,h2,h3,h4⟩
   ·exact .inl fun k hk=>by
     rcases zF.1 hk with rfl|hk
     ·exact ha
     exact h k hk
   refine .inr ⟨q+1,by simpa using h1,?_,fun k hk=>?_,by simpa using h4⟩
   ·rw[idxK,ha]
    show idxK p l ((i:Int)+1)=_
    rw[show ((i:Int)+1)=((i+1:Nat):Int) from rfl,h2]
    omega
   rw[List.take_succ_cons] at hk
   rcases zF.1 hk with rfl|hk
   ·exact ha
   exact h3 k hk
theorem ik_q (h:idxK (pK m) l 0=q) (hl:q<l.length):(∀ k∈l.take q,pK m k=false)/\pK m (l.getD q (0,0))=true:=by
 rcases ik_find (l:=l) (p:=pK m) 0 with e|⟨q',h1,h2,h3,h4⟩
 ·rw[ik_all e] at h;omega
 rw[show ((0:Nat):Int)=0 from rfl] at h2
 rw[h2] at h
 have:q=q':=aa
 rw[this];exact⟨h3,h4⟩
def DeI (m:List (KI×Qn)) (l:List KI) (j i:Nat) (o:List KI):Prop:=j<=l.length/\i<j/\i=(kpK m (l.take j)).length/\o=kpK m (l.take j)++l.drop i
theorem de_0 (h:idxK (pK m) l 0=q) (hl:q<l.length):DeI m l (q+1) q l:=by
 obtain⟨h1,h2⟩:=ik_q h hl
 have e:kpK m (l.take (q+1))=l.take q:=by
  unfold kpK
  rw[List.take_succ_eq_append_getElem hl,List.filter_append,List.filter_eq_self.2 fun k hk=>by rw[h1 k hk];rfl]
  rw[ze,zm hl] at h2
  simp only[zO] at h2
  simp[h2]
 exact⟨aa,aa,by rw[e,zn];omega,by rw[e,List.take_append_drop]⟩
theorem de_ol (h:DeI m l j i o):o.length=l.length:=by
 obtain⟨h1,h2,h3,rfl⟩:=h
 grind
theorem de_get (h:DeI m l j i o) (hj:j<l.length):o.getD j (0,0)=l.getD j (0,0):=by
 obtain⟨h1,h2,h3,rfl⟩:=h
 rw[ze,z8 aa,<-h3,List.getElem?_drop,show i+(j-i)=j by omega,<-ze]
theorem gd_mem2 (h:DeI m l j i o) (hj:j<l.length):o.getD j (0,0)∈l:=by rw[de_get h hj];exact kj hj
theorem kp_snoc (hj:j<l.length):kpK m (l.take (j+1))=kpK m (l.take j)++(bif pK m (l.getD j (0,0)) then [] else [l.getD j (0,0)]):=by
 unfold kpK
 rw[List.take_succ_eq_append_getElem hj,List.filter_append,ze,zm hj]
 grind
theorem de_k (h:DeI m l j i o) (hj:j<l.length) (hp:(!pK m (o.getD j (0,0)))=true):DeI m l (j+1) (i+1) (o.set i (o.getD j (0,0))):=by
 rw[de_get h hj] at hp ⊢
 obtain⟨h1,h2,h3,rfl⟩:=h
 have hp':pK m (l.getD j (0,0))=false:=by grind
 have e:=kp_snoc (m:=m) hj
 rw[hp',cond_false] at e
 refine⟨aa,aa,by rw[e,za,<-h3];rfl,?_⟩
 rw[e,List.set_append_right _ _ aa,<-h3,Nat.sub_self,drop_at l i (0,0) aa,List.set_cons_zero,z7];rfl
theorem de_d (h:DeI m l j i o) (hj:j<l.length) (hp:(!pK m (o.getD j (0,0)))=false):DeI m l (j+1) i o:=by
 rw[de_get h hj] at hp
 obtain⟨h1,h2,h3,rfl⟩:=h
 have hp':pK m (l.getD j (0,0))=true:=by grind
 have e:=kp_snoc (m:=m) hj
 rw[hp',cond_true,zR] at e
 exact⟨aa,aa,by rw[e];exact h3,by rw[e]⟩
theorem de_len (h:DeI m l j i o) (hj:l.length<=j):i=(kpK m l).length:=by
 obtain⟨h1,h2,h3,_⟩:=h
 grind
theorem de_end (h:DeI m l j i o) (hj:l.length<=j):o.take i++List.replicate (o.length-i) ((0,0):KI)=kpK m l++List.replicate (l.length-(kpK m l).length) (0,0):=by
 have h1:=de_ol h
 have h2:=de_len h hj
 obtain⟨_,_,h3,h4⟩:=h
 grind
end
theorem in103:tab.info? 103=some ty103.info:=ae
theorem un161:tab.underlying 161=some (.slice 103):=ae
theorem w274:CKa 189 [.pv (.lit (.int .u64 ((0:Nat):Int)))] (vI ((jb 0:Nat):Int)):=by
 exact cG qf189 Z (nB Z) Z (CF Z Z (C Z (w309 0 ah) Z Z Z (Rt Z (leaf Z Z))))
theorem w300:CKa 221 [vL eK [],vI 0,vI 0,.pv (.fn (.func 105) [] [])] (.tup []):=by
 refine cG qf221 Z (nB Z) Z (E Z (B.add Z Z bg) (l1 (fun (u:Nat)=>[(0,vL eK []),(1,vI 0),(2,vI 0),(3,.pv (.fn (.func 105) [] [])),(8,vI (0+1))]) (fun _=>[]) (fun u=>u=u) (fun u=>u) 0 Z ?_ (sb Z Z Z) ?_))
 · rfl
 intro u hI0
 exact CF Z Z (Rn Z (leafE Z Z))
theorem w273 (n:Int):CKa 188 [vL eK [],vI 0,vI 0,vI n,.pv (.fn (.func 105) [] [])] (.tup []):=by
 refine cG qf188 Z (nB Z) Z (l1 (fun (u:Nat)=>[(0,vL eK []),(1,vI 0),(2,vI 0),(3,vI n),(4,.pv (.fn (.func 105) [] [])),(10,vB true),(11,vB true)]) (fun _=>[]) (fun u=>u=u) (fun u=>u) 0 Z ?_ (sb Z Z Z) ?_)
 · rfl
 intro u hI0
 exact E Z (B.sub Z Z bg) (CT Z Z (C Z (w300) Z Z Z (Rt Z (leaf Z Z))))
theorem w235':CKa 145 [.nils,.pv (.fn (.func 105) [] [])] (.tup []):=by
 exact cG qf145 Z (nB Z) Z (E Z (B.run Z) (E Z (B.run Z) (E Z (B.run Z) (E Z (B.toUN Z un3 un240 Z Z) (C Z (w274) Z Z Z (E Z (B.call (qD.nz (w273 ((jb 0:Nat):Int)) Z) Z Z Z) (Rn Z (leafE Z Z))))))))
theorem w234' (m:List (KI×Qn)) (k:KI) (x:Qn) (hg:Zb k m=some x) (hz:sz (Qn.q x)<=20000000):qD Tryz.prog 144 [.pv (.agg [pI (Prod.fst k),pI (Prod.snd k)]),.bref 11 0] (qx [(1,(kO eP m)),(11,.box 105 [.mref 1])]) (vB (pK m k)) [(11,.box 105 [.mref 1]),(1,(kO eP m))]:=by
 exact cL 12 [(1,(kO eP m)),(11,.box 105 [.mref 1])] qf144 Z (nB Z) Z Z (kc (E Z (B.getK0 kty Z Z Z in83 Z zP_ok hg) (C Z (w145 x hz) Z Z Z (Rt Z (lL Z (by exact lb (pk_v hg)))))))
theorem w234 (m:List (KI×Qn)) (k:KI) (hk:k∈m.map (·.1)) (hz:∀ k x,Zb k m=some x->sz (Qn.q x)<=20000000):qD Tryz.prog 144 [.pv (kkP k),.bref 11 0] (qx [(1,kO eP m),(11,.box 105 [.mref 1])]) (vB (pK m k)) [(11,.box 105 [.mref 1]),(1,kO eP m)]:=by
 obtain⟨x,hx⟩:=get_mem hk
 exact w234' m k x hx (hz k x hx)
theorem w272 (m:List (KI×Qn)) (l:List KI) (v:Nat) (hl:l.length<=1000000) (hk:∀ k∈l,k∈m.map (·.1)) (hz:∀ k x,Zb k m=some x->sz (Qn.q x)<=20000000):qD Tryz.prog 187 [.aref 901 v,.clos (.func 144) [] [.bref 11 0]] (qx [(1,(kO eP m)),(11,.box 105 [.mref 1]),(901,.arr v 2 103 (List.map eK l))]) (vI (idxK (pK m) l 0)) [(901,.arr v 2 103 (List.map eK l)),(11,.box 105 [.mref 1]),(1,(kO eP m))]:=by
 refine cL 902 [(1,(kO eP m)),(11,.box 105 [.mref 1]),(901,.arr v 2 103 (List.map eK l))] qf187 Z (nB Z) Z Z (kc (E Z (B.lenA Z Z un161) (l1 (fun (k:Nat)=>[(0,.aref 901 v),(1,.clos (.func 144) [] [.bref 11 0]),(7,vI (l.length:Int)),(8,vI (k:Int))]) (fun _=>[(1,(kO eP m)),(11,.box 105 [.mref 1]),(901,.arr v 2 103 (List.map eK l))]) (fun k=>k<=l.length/\idxK (pK m) l 0=idxK (pK m) (List.drop k l) k) (fun k=>l.length-k) 0 Z ?_ (sb Z Z Z) ?_)))
 · exact⟨zt _,rfl⟩
 intro k hI0
 refine Cp Z Z (fun h1=>?_) (fun h1=>?_)
 ·refine E Z (B.ZO Z Z Z un161 sz103 Z aa) (E Z (B.loadEA (z0:=(0,0)) Z Z ag103 sz103 aa Z) (E Z (B.jd (w234 m (l.getD k (0,0)) (hk _ (kj aa)) hz) Z Z ⟨rfl,rfl,trivial⟩ rfl rfl) (Cb Z Z (fun h2=>?_) (fun h2=>?_))))
  ·exact Rt Z (lL Z dJ)
  refine E Z (B.add Z Z bg) (pk Z (L1 (k+1) ?_ ?_ (sb Z Z Z)))
  · (exact⟨aa,by rw[hI0.2];exact ik_step aa ab⟩)
  · omega
 exact Rt Z (lL Z dJ)
theorem w233a (m:List (KI×Qn)) (l:List KI) (v:Nat) (hl:l.length<=1000000) (hk:∀ k∈l,k∈m.map (·.1)) (hz:∀ k x,Zb k m=some x->sz (Qn.q x)<=20000000) (hn:∀ k∈l,pK m k=false):qD Tryz.prog 143 [.aref 901 v,.clos (.func 144) [] [.bref 11 0]] (qx [(1,(kO eP m)),(11,.box 105 [.mref 1]),(901,.arr v 2 103 (List.map eK l))]) (.aref 901 v) [(11,.box 105 [.mref 1]),(1,(kO eP m)),(901,.arr v 2 103 (List.map eK l))]:=by
 refine cL 902 [(1,(kO eP m)),(11,.box 105 [.mref 1]),(901,.arr v 2 103 (List.map eK l))] qf143 Z (nB Z) Z Z (kc (E Z (B.ZH (enc:=eK) Z) (E Z (B.jd (w272 m l v hl hk hz) Z Z ⟨rfl,rfl,rfl,trivial⟩ rfl rfl) (Cp Z Z (fun h1=>?_) (fun h1=>?_)))))
 ·exact Rt Z (lL Z bz)
 exact absurd (ik_no hn) h1
theorem w233b (m:List (KI×Qn)) (l:List KI) (v:Nat) (q:Nat) (hl:l.length<=1000000) (hk:∀ k∈l,k∈m.map (·.1)) (hz:∀ k x,Zb k m=some x->sz (Qn.q x)<=20000000) (hq:idxK (pK m) l 0=q) (hql:q<l.length):qD Tryz.prog 143 [.aref 901 v,.clos (.func 144) [] [.bref 11 0]] (qx [(1,(kO eP m)),(11,.box 105 [.mref 1]),(901,.arr v 2 103 (List.map eK l))]) (.atrunc 901 v ((kpK m l).length)) [(11,.box 105 [.mref 1]),(1,(kO eP m)),(901,.arr v 2 103 (List.map eK (kpK m l++List.replicate (l.length-(kpK m l).length) (0,0))))]:=by
 refine cL 902 [(1,(kO eP m)),(11,.box 105 [.mref 1]),(901,.arr v 2 103 (List.map eK l))] qf143 Z (nB Z) Z Z (kc (E Z (B.ZH (enc:=eK) Z) (E Z (B.jd (w272 m l v hl hk hz) Z Z ⟨rfl,rfl,rfl,trivial⟩ rfl rfl) (Cp Z Z (fun h1=>?_) (fun h1=>?_)))))
 ·exact absurd h1 aa
 refine tk 4 Z ?_
 refine tn ⟨[(0,.aref 901 v),(1,.clos (.func 144) [] [.bref 11 0]),(5,vI (idxK (pK m) l 0))],[(1,(kO eP m)),(11,.box 105 [.mref 1]),(901,.arr v 2 103 (List.map eK l))]⟩ rfl rfl Z ?_
 rw[hq]
 refine kc (E Z (B.add Z Z bg) (l3 (fun (j:Nat) (i:Nat) (o:List KI)=>[(0,.aref 901 v),(1,.clos (.func 144) [] [.bref 11 0]),(5,vI (i:Int)),(6,vI (j:Int))]) (fun _ _ o=>[(1,(kO eP m)),(11,.box 105 [.mref 1]),(901,.arr v 2 103 (List.map eK o))]) (fun j i o=>DeI m l j i o) (fun j _ _=>l.length-j) (q+1) q l Z ?_ (sb Z Z Z) ?_))
 · exact de_0 hq hql
 intro j i o hI0
 have hol:=de_ol hI0
 have hd1:=hI0.1
 have hd2:=hI0.2.1
 refine E Z (B.lenA Z Z un161) (Cp Z Z (fun h2=>?_) (fun h2=>?_))
 ·refine E Z (B.ZO Z Z Z un161 sz103 Z aa) (E Z (B.loadEA (z0:=(0,0)) Z Z ag103 sz103 aa Z) (E Z (B.jd (w234 m (o.getD j (0,0)) (hk _ (gd_mem2 hI0 aa)) hz) Z Z ⟨rfl,rfl,trivial⟩ rfl rfl) (Cb Z Z (fun h3=>?_) (fun h3=>?_))))
  ·refine E Z (B.ZO Z Z Z un161 sz103 Z aa) (E Z (B.setA (z0:=(o.getD j (0,0))) Z Z Z Z sz103 aa (fun _=>rfl)) (E Z (B.add Z Z bg) (E Z (B.add Z Z bg) (pk Z (L3 (j+1) (i+1) (List.set o i (o.getD j (0,0))) ?_ ?_ (sb Z Z Z))))))
   · first|exact de_k hI0 aa ab|exact de_d hI0 aa ab
   · omega
  refine E Z (B.add Z Z bg) (pk Z (L3 (j+1) i o ?_ ?_ (sb Z Z Z)))
  · first|exact de_k hI0 aa ab|exact de_d hI0 aa ab
  · omega
 refine E Z (B.slL Z Z Z un161 sz103 Z aa) (E Z (B.clrK Z Z aa aa un161 in103 Z Z) ?_)
 have hol2:(List.take i o++List.replicate (o.length-i) ((0,0):KI)).length=List.length o:=by grind
 exact E Z (B.slA Z Z Z un161 sz103 Z aa) (Rt Z (leafL (val0:=.atrunc 901 v i) (out0:=[(11,.box 105 [.mref 1]),(1,(kO eP m)),(901,.arr v 2 103 (List.map eK (List.take i o++List.replicate (o.length-i) (0,0))))]) (.inr Z) ae (by rw[de_len hI0 aa]) (by rw[de_end hI0 aa])))
end Go.Lens.Tb
end
section
namespace Go.Proofs
open Go.Shelf
def Tryz.lays178_ren:Go.Shelf.Ren:=⟨fun|5=>102|7=>139|n=>n,fun|23=>105|25=>103|3=>83|4=>4|20=>20|n=>n,fun|n=>n⟩
theorem Tryz.lays178:Go.Proofs.SlLaysW.n5 Tryz.prog Tryz.lays178_ren:={
  mixed:=ae
  f5:=⟨Tryz.f102.name,ah,Tryz.func102.trans (congrArg some ae)⟩
  f7:=Tryz.func139.trans (congrArg some ae)
  t4:=Tryz.underlying4
  a4:=Tryz.isAgg4
  z4:=Tryz.sizeOf4
  v4:=Tryz.zeroValue4
  t20:=Tryz.underlying20
  a20:=Tryz.isAgg20
  z20:=Tryz.sizeOf20
  v20:=Tryz.zeroValue20
  t23:=Tryz.underlying105
  a23:=Tryz.isAgg105
  z23:=Tryz.sizeOf105
  v23:=Tryz.zeroValue105 }
end Go.Proofs
end
section
namespace Go.Lens.Un
theorem nd_len {β:Type} [DecidableEq β]:∀ {l r:List β},l.Nodup->(∀ x∈l,x∈r)->l.length<=r.length
 | [],_,_,_=>zt _
 | x::l,r,hn,h=>by
  rw[List.nodup_cons] at hn
  have hx:=h x ao
  have:=nd_len (l:=l) (r:=r.erase x) hn.2 fun y hy=>(List.mem_erase_of_ne (by rintro rfl;exact hn.1 hy)).2 (h y (by simp[hy]))
  grind
def visL {α:Type} (o:List α) (n:Array Nat):List α:=n.toList.filterMap fun i=>o[i]?
structure VI {α:Type} (o:List α) (n:Array Nat):Prop where
 nd:n.toList.Nodup
 lt:∀ i∈n.toList,i<o.length
theorem VI.nil {α:Type} (o:List α):VI o #[]:=⟨List.nodup_nil,fun _ h=>by cases h⟩
theorem visL_nil {α:Type} (o:List α):visL o #[]=[]:=rfl
section
variable {α:Type} {o:List α} {n:Array Nat} {i:Nat} {x:α}
theorem VI.push (h:VI o n) (hi:o[i]? =some x) (hn:i∉n):VI o (n.push i):=by
 refine⟨?_,fun j hj=>?_⟩
 ·rw[Array.toList_push,List.nodup_append]
  refine⟨h.nd,by simp,fun a ha b hb=>?_⟩
  grind
 rw[Array.toList_push] at hj
 rcases zH.1 hj with e|e
 ·exact h.lt j e
 grind
theorem kP (hi:o[i]? =some x):visL o (n.push i)=visL o n++[x]:=by
 unfold visL
 grind
theorem VI.size (h:VI o n):n.size<=o.length:=by
 have:=nd_len h.nd (r:=List.range o.length) fun j hj=>List.mem_range.2 (h.lt j hj)
 simpa using this
theorem VI.size_push (h:VI o n) (hi:o[i]? =some x) (hn:i∉n):n.size<o.length:=by
 have:=(h.push hi hn).size
 grind
theorem VI.meas (h:VI o n) (hi:o[i]? =some x) (hn:i∉n):o.length-(n.push i).size<o.length-n.size:=by
 have:=h.size_push hi hn
 rw[Array.size_push];omega
theorem vis_range (o:List α):(List.range o.length).filterMap (fun i=>o[i]?)=o:=by
 induction o with
 | nil=>rfl
 | cons a l ih=>
  rw[zb,List.range_succ_eq_map,List.filterMap_cons]
  simp only[List.getElem?_cons_zero,List.filterMap_map]
  have:((fun i=>(a::l)[i]?) ∘ Nat.succ)=fun i=>l[i]? :=by funext i;simp
  rw[this,ih]
theorem VI.all (h:VI o n) (ha:∀ i,i<o.length->i∈n):(visL o n).Perm o:=by
 have hp:n.toList.Perm (List.range o.length):=by
  rw[List.perm_ext_iff_of_nodup h.nd List.nodup_range]
  intro j
  rw[List.mem_range]
  exact⟨h.lt j,fun hj=>by simpa using ha j hj⟩
 have:=hp.filterMap (fun i=>o[i]?)
 rw[vis_range] at this
 exact this
theorem vis_len (o:List α) (n:Array Nat):(visL o n).length<=n.size:=by
 have:=List.length_filterMap_le (fun i=>o[i]?) n.toList
 rw[qj] at this
 exact this
theorem vis_mem (h:x∈visL o n):x∈o:=by grind [visL]
end
theorem szP_app (A B:PL):szP (A++B)+1=szP A+szP B:=by
 induction A with
 | nil=>show szP B+1=1+szP B;omega
 | cons p l ih=>obtain⟨a,c⟩:=p;show sz c+1+szP (l++B)+1=sz c+1+szP l+szP B;omega
theorem szP_le {A:PL} {N S:Nat} (hN:A.length<=N) (hS:∀ p∈A,sz p.2<=S):szP A<=N*(S+1)+1:=by
 induction A generalizing N with
 | nil=>show 1<=_;omega
 | cons p l ih=>
  obtain⟨a,c⟩:=p
  cases N with
  | zero=>simp at hN
  | succ N=>
   have h1:=ih (N:=N) (by simpa using hN) fun p hp=>hS p (by simp[hp])
   have h2:=hS (a,c) ao
   show sz c+1+szP l<=_
   grind
theorem szP_mem {A:PL} {p:KI×Rat} (h:p∈A):sz p.2<=szP A:=by
 induction A with
 | nil=>cases h
 | cons q l ih=>
  obtain⟨a,c⟩:=q
  rcases zF.1 h with e|e
  ·subst e;show sz c<=sz c+1+szP l;omega
  have:=ih e;show _<=sz c+1+szP l;omega
def scl (b:Rat) (R:PL):PL:=R.map fun p=>(p.1,p.2*b)
theorem cf_scl (b:Rat) (R:PL) (k:KI):cf (scl b R) k=cf R k*b:=by
 induction R with
 | nil=>simp[scl,cf_nil,Rat.zero_mul]
 | cons p l ih=>
  obtain⟨a,c⟩:=p
  show cf ((a,c*b)::scl b l) k=_
  rw[jP,jP,ih]
  split<;>grind
theorem scl_keys (b:Rat) (R:PL):(scl b R).map (·.1)=R.map (·.1):=by simp[scl]
theorem Eqv.scl {R R':PL} (b:Rat) (h:Eqv R R'):Eqv (scl b R) (scl b R'):=fun k=>by rw[cf_scl,cf_scl,h k]
def kadd (a b:KI):KI:=(a.1+b.1,a.2+b.2)
def rowP (a:KI×Rat) (B:PL):PL:=B.map fun b=>(kadd a.1 b.1,a.2*b.2)
def q6 (A B:PL):PL:=A.flatMap fun a=>rowP a B
theorem cf_row (a:KI×Rat) (B:PL) (k:KI):cf (rowP a B) k=a.2*lin (fun b=>if kadd a.1 b=k then 1 else 0) B:=by
 induction B with
 | nil=>simp[rowP,cf_nil,lin,Rat.mul_zero]
 | cons b l ih=>
  obtain⟨b,d⟩:=b
  show cf ((kadd a.1 b,a.2*d)::rowP a l) k=_
  rw[jP,ih]
  simp only[lin]
  split<;>grind
theorem cf_prods (A B:PL) (k:KI):cf (q6 A B) k=lin (fun a=>lin (fun b=>if kadd a b=k then 1 else 0) B) A:=by
 induction A with
 | nil=>rfl
 | cons a l ih=>
  obtain⟨a,c⟩:=a
  show cf (rowP (a,c) B++q6 l B) k=_
  rw[cf_app,cf_row,ih]
  rfl
theorem Eqv.q6 {A A' B B':PL} (h:Eqv A A') (g:Eqv B B'):Eqv (q6 A B) (q6 A' B'):=fun k=>by
 rw[cf_prods,cf_prods,h.lin]
 congr 1
 funext a
 exact g.lin _
theorem prods_keys {A B:PL} {k:KI}:k∈(q6 A B).map (·.1)↔∃ a∈A.map (·.1),∃ b∈B.map (·.1),k=kadd a b:=by grind [q6,rowP]
theorem prods_len (A B:PL):(q6 A B).length=A.length*B.length:=by
 induction A with
 | nil=>simp[q6]
 | cons a l ih=>
  show (rowP a B++q6 l B).length=_
  rw[za,ih,zb,Nat.succ_mul]
  simp[rowP];omega
theorem KP.keysP {P:PL} {m:List (KI×Qn)} (h:KP P m):∀ k∈(plM m).map (·.1),k∈P.map (·.1):=by
 intro k hk
 exact h.mem k (by simpa [plM,List.map_map,Function.comp_def] using hk)
theorem KP.len {P:PL} {m:List (KI×Qn)} (h:KP P m):m.length<=P.length:=by
 have:=nd_len h.nd h.mem
 simpa using this
def kax (ax:Int) (k:KI):Int:=if ax=0 then k.1 else k.2
def kdec (ax:Int) (k:KI):KI:=if ax=0 then (k.1-1,k.2) else (k.1,k.2-1)
def derT (ax:Int) (p:KI×Rat):PL:=if 0<kax ax p.1 then [(kdec ax p.1,p.2*(kax ax p.1:Int))] else []
def derP (ax:Int) (A:PL):PL:=A.flatMap (derT ax)
theorem cf_der (ax:Int) (A:PL) (k:KI):cf (derP ax A) k=lin (fun a=>if 0<kax ax a/\kdec ax a=k then (kax ax a:Rat) else 0) A:=by
 induction A with
 | nil=>rfl
 | cons p l ih=>
  obtain⟨a,c⟩:=p
  show cf (derT ax (a,c)++derP ax l) k=_
  rw[cf_app,ih]
  simp only[lin]
  unfold derT
  by_cases h:0<kax ax a
  ·simp only[h,qq,true_and,jP,cf_nil]
   split<;>grind
  simp only[h,qr,false_and,cf_nil]
  grind
theorem Eqv.der {A A':PL} (ax:Int) (h:Eqv A A'):Eqv (derP ax A) (derP ax A'):=fun k=>by rw[cf_der,cf_der,h.lin]
def turT (p:KI×Rat):KI×Rat:=((p.1.2,p.1.1),if p.1.2%2=1 then -p.2 else p.2)
def turP (A:PL):PL:=A.map turT
theorem cf_tur (A:PL) (k:KI):cf (turP A) k=lin (fun a=>if (a.2,a.1)=k then (if a.2%2=1 then -1 else 1) else 0) A:=by
 induction A with
 | nil=>rfl
 | cons p l ih=>
  obtain⟨a,c⟩:=p
  show cf (turT (a,c)::turP l) k=_
  unfold turT
  rw[jP,ih]
  simp only[lin]
  grind
theorem Eqv.tur {A A':PL} (h:Eqv A A'):Eqv (turP A) (turP A'):=fun k=>by rw[cf_tur,cf_tur,h.lin]
end Go.Lens.Un
end
section
namespace Go.Lens.Tb
open Go.Proofs Go.Lens.Un
variable [Lz] [Dn]
attribute [local irreducible] TK PK T RG EfR Body CG
theorem w178 (m:List (KI×Qn)) (x y:Nat) (hxy:x≠y):qD Tryz.prog 102 [.mref x] (qx [(x,kO eP m)]) (.mref y) [(y,kO eP m)]:=by
 refine⟨fun k hk=>?_,fun G w vs M hv=>.inl ?_⟩
 ·simp[DV.qO,DV.refs] at hk;subst hk;exact⟨kO eP m,by simp[qF]⟩
 obtain⟨v,rfl,hv1⟩:=hv.one
 simp only[qy] at hv1
 obtain⟨_,rfl⟩:=hv1
 obtain⟨k1,es,e1,e2,e3,e4,e5,e6⟩:=kO_at (M.ms x _ (show qx [(x,kO eP m)] x=some (kO eP m) by simp[qF]))
 refine⟨Tryz.call102 _ _,Calls.mono (AnyW.maps_Clone Tryz.lays178 (G.ρ x).map es.toArray es.length w e2) ?_⟩
 rintro e w' ⟨rfl,rfl⟩
 have hln:qx [(x,kO eP m)] y=none:=by simp[qF,hxy];rfl
 refine⟨_,rfl,_,j5 (B:={ map:=w.heap.size }) M.fresh hln ?_ ?_ ak am⟩
 ·simp[qy,Gh.new]
 exact at_kO c8 c8 c9 e3 e4 (qA.mono (later_new y _ _).rd _ _ e5)
def PlI (P:PL) (o:List (KI×Qn)) (b:Qn) (n:Array Nat) (q:List (KI×Qn)):Prop:=VI o n/\KP (P++scl b.q (plM (visL o n))) q
section
variable {P R:PL} {m o q:List (KI×Qn)} {b:Qn} {n:Array Nat} {i:Nat} {k:KI} {v:Qn}
theorem plM_app (a b:List (KI×Qn)):plM (a++b)=plM a++plM b:=qc
theorem scl_app (b:Rat) (A B:PL):scl b (A++B)=scl b A++scl b B:=qc
theorem pl_0 (hm:KP P m):PlI P o b #[] m:=⟨VI.nil _,by rw[visL_nil];simpa [plM,scl] using hm⟩
theorem pl_s (hI:PlI P o b n q) (hk:o[i]? =some (k,v)) (hi:i∉n):PlI P o b (n.push i) (addK k (Qn.mul v b) q):=by
 refine⟨hI.1.push hk hi,?_⟩
 rw[kP hk,plM_app,scl_app,<-z7]
 have:=hI.2.add k (Qn.mul v b)
 rw[Qn.mul_q] at this
 exact this
theorem pl_m (hm:KP P m) (ho:KP R o) (hz:szP P+(R.length+1)*(szP R+sz (Qn.q b)+2)<=10000000) (hk:o[i]? =some (k,v)):sz (Qn.q v)+sz (Qn.q b)<=20000000:=by
 have h1:=ho.sz (List.mem_of_getElem? hk)
 grind
theorem pl_a (hm:KP P m) (ho:KP R o) (hz:szP P+(R.length+1)*(szP R+sz (Qn.q b)+2)<=10000000) (hI:PlI P o b n q) (hk:o[i]? =some (k,v)):∀ x,Zb k q=some x->sz (Qn.q x)+sz (Qn.q (Qn.mul v b))<=20000000:=by
 intro x hx
 have h1:=ho.sz (List.mem_of_getElem? hk)
 have h2:=hI.2.szg hx
 have h3:=szP_app P (scl b.q (plM (visL o n)))
 have h4:szP (scl b.q (plM (visL o n)))<=R.length*(szP R+sz b.q+1)+1:=by
  refine szP_le ?_ fun p hp=>?_
  ·have:=vis_len o n
   have:=hI.1.size
   have:=ho.len
   simp[scl,plM];omega
  simp only[scl,plM,List.map_map,zE] at hp
  obtain⟨x,hx,rfl⟩:=hp
  have:=ho.sz (k:=x.1) (x:=x.2) (vis_mem hx)
  have h5:=jy x.2.q b.q
  grind
 have h5:=jy v.q b.q
 rw[Qn.mul_q]
 grind
theorem plM_perm {a b:List (KI×Qn)} (h:a.Perm b):(plM a).Perm (plM b):=h.map _
theorem pl_end (hm:KP P m) (ho:KP R o) (hI:PlI P o b n q) (ha:∀ i,i<o.length->i∈n):KP (P++scl b.q R) q:=by
 have hp:=plM_perm (hI.1.all ha)
 refine hI.2.congr (Eqv.rfl.app (Eqv.scl _ ((Eqv.perm hp).trans ho.eqv))) fun k hk=>?_
 simp only[qc,zH,scl_keys] at hk ⊢
 exact hk.imp id fun h=>ho.keysP k ((hp.map (·.1)).mem_iff.1 h)
def KB (P:PL):Prop:=∀ k∈P.map (·.1),0<=k.1/\0<=k.2/\k.1+k.2<=400
theorem ti_b (hm:KP P m) (hP:KB P) (hk:m[i]? =some (k,v)):0<=k.1/\0<=k.2/\k.1+k.2<=400:=hP k (hm.mem k (zE.2 ⟨_,List.mem_of_getElem? hk,rfl⟩))
def TiI (m o:List (KI×Qn)) (n:Array Nat) (q:List (KI×Qn)):Prop:=VI m n/\KP (q6 (plM (visL m n)) (plM o)) q
def TjI (m o:List (KI×Qn)) (n:Array Nat) (a:KI×Qn) (n2:Array Nat) (q:List (KI×Qn)):Prop:=VI o n2/\KP (q6 (plM (visL m n)) (plM o)++rowP (a.1,a.2.q) (plM (visL o n2))) q
variable {n2:Array Nat} {q2:List (KI×Qn)} {j:Nat} {k2:KI} {v2:Qn}
theorem ti_0:TiI m o #[] []:=⟨VI.nil _,by rw[visL_nil];exact KP.nil⟩
theorem tj_0 {a:KI×Qn} (h:TiI m o n q):TjI m o n a #[] q:=⟨VI.nil _,by rw[visL_nil];simpa [plM,rowP] using h.2⟩
theorem rowP_app (a:KI×Rat) (A B:PL):rowP a (A++B)=rowP a A++rowP a B:=qc
theorem tj_s {a:KI×Qn} (hI:TjI m o n a n2 q2) (hk:o[j]? =some (k2,v2)) (hi:j∉n2):TjI m o n a (n2.push j) (addK (a.1.1+k2.1,a.1.2+k2.2) (Qn.mul a.2 v2) q2):=by
 refine⟨hI.1.push hk hi,?_⟩
 rw[kP hk,plM_app,rowP_app,<-z7]
 have:=hI.2.add (a.1.1+k2.1,a.1.2+k2.2) (Qn.mul a.2 v2)
 rw[Qn.mul_q] at this
 exact this
theorem prods_app (A B C:PL):q6 (A++B) C=q6 A C++q6 B C:=List.flatMap_append
theorem ti_s (hI:TiI m o n q) (hJ:TjI m o n (k,v) n2 q2) (hk:m[i]? =some (k,v)) (hi:i∉n) (ha:∀ i,i<o.length->i∈n2):TiI m o (n.push i) q2:=by
 refine⟨hI.1.push hk hi,?_⟩
 have hp:=plM_perm (hJ.1.all ha)
 rw[kP hk,plM_app,prods_app]
 have e:q6 (plM [(k,v)]) (plM o)=rowP (k,v.q) (plM o):=by simp[q6,plM]
 rw[e]
 have hr:(rowP (k,v.q) (plM (visL o n2))).Perm (rowP (k,v.q) (plM o)):=hp.map _
 exact hJ.2.congr (Eqv.rfl.app (Eqv.perm hr)) fun k hk=>by
  grind
theorem ti_end (hm:KP P m) (ho:KP R o) (hI:TiI m o n q) (ha:∀ i,i<m.length->i∈n):KP (q6 P R) q:=by
 have hp:=plM_perm (hI.1.all ha)
 refine hI.2.congr (Eqv.q6 ((Eqv.perm hp).trans hm.eqv) ho.eqv) fun k hk=>?_
 rw[prods_keys] at hk ⊢
 obtain⟨a,h1,b,h2,rfl⟩:=hk
 exact⟨a,hm.keysP a ((hp.map (·.1)).mem_iff.1 h1),b,ho.keysP b h2,rfl⟩
theorem ti_m (hm:KP P m) (ho:KP R o) (hz:(P.length*R.length+2)*(szP P+szP R+2)<=10000000) (hk:m[i]? =some (k,v)) (hk2:o[j]? =some (k2,v2)):sz (Qn.q v)+sz (Qn.q v2)<=20000000:=by
 have h1:=hm.sz (List.mem_of_getElem? hk)
 have h2:=ho.sz (List.mem_of_getElem? hk2)
 grind
theorem ti_a (hm:KP P m) (ho:KP R o) (hz:(P.length*R.length+2)*(szP P+szP R+2)<=10000000) (hI:TiI m o n q) (hJ:TjI m o n (k,v) n2 q2) (hk:m[i]? =some (k,v)) (hi:i∉n) (hk2:o[j]? =some (k2,v2)) {k3:KI} :
  ∀ x,Zb k3 q2=some x->sz (Qn.q x)+sz (Qn.q (Qn.mul v v2))<=20000000:=by
 intro x hx
 have h1:=hm.sz (List.mem_of_getElem? hk)
 have h2:=ho.sz (List.mem_of_getElem? hk2)
 have h3:sz x.q<=szP (q6 (plM (visL m n)) (plM o)++rowP (k,v.q) (plM (visL o n2))):=hJ.2.szg hx
 have h4:szP (q6 (plM (visL m n)) (plM o)++rowP (k,v.q) (plM (visL o n2)))<=(P.length*R.length)*(szP P+szP R+1)+1:=by
  refine szP_le ?_ fun p hp=>?_
  ·rw[za,prods_len]
   have a1:=vis_len m n
   have a2:=hI.1.size_push hk hi
   have a3:=hm.len
   have b1:=vis_len o n2
   have b2:=hJ.1.size
   have b3:=ho.len
   have e1:(plM (visL m n)).length=(visL m n).length:=by simp[plM]
   have e2:(plM o).length=o.length:=by simp[plM]
   have e3:(rowP (k,v.q) (plM (visL o n2))).length=(visL o n2).length:=by simp[plM,rowP]
   rw[e1,e2,e3]
   calc (visL m n).length*o.length+(visL o n2).length<=(visL m n).length*R.length+R.length:=Nat.add_le_add (Nat.mul_le_mul_left _ b3) aa
    _=((visL m n).length+1)*R.length:=by rw[Nat.succ_mul]
    _<=P.length*R.length:=Nat.mul_le_mul_right _ aa
  rcases zH.1 hp with hp|hp
  ·simp only[q6,rowP,List.mem_flatMap,zE] at hp
   obtain⟨a,ha,b,hb,rfl⟩:=hp
   simp only[plM,zE] at ha hb
   obtain⟨a,ha,rfl⟩:=ha
   obtain⟨b,hb,rfl⟩:=hb
   have c1:=hm.sz (k:=a.1) (x:=a.2) (vis_mem ha)
   have c2:=ho.sz (k:=b.1) (x:=b.2) hb
   have:=jy a.2.q b.2.q
   simp only;omega
  simp only[rowP,plM,List.map_map,zE] at hp
  obtain⟨b,hb,rfl⟩:=hp
  have c2:=ho.sz (k:=b.1) (x:=b.2) (vis_mem hb)
  have:=jy v.q b.2.q
  grind
 have h5:=jy v.q v2.q
 rw[Qn.mul_q]
 grind
end
theorem w102' (m o:List (KI×Qn)) (P R:PL) (b:Qn) (hm:KP P m) (ho:KP R o) (hz:szP P+(R.length+1)*(szP R+sz (Qn.q b)+2)<=10000000):qD Tryz.prog 49 [.mref 1,.mref 2,qV b] (qx [(1,(kO eP m)),(2,(kO eP o))]) (.mref 15) [(2,(kO eP o)),(1,(kO eP m)),(15,kR (P++scl (Qn.q b) R))]:=by
 refine cL 3 [(1,(kO eP m)),(2,(kO eP o))] qf49 Z (nB Z) Z Z (kc (E Z (B.jd (w178 m 1 15 ah) Z Z ⟨rfl,trivial⟩ rfl rfl) (E Z (B.rangeK kty Z Z Z Z) (l2 (fun (n:Array Nat) (q:List (KI×Qn))=>[(0,.mref 1),(1,.mref 2),(5,.bref 8 0),(7,.mref 15),(8,.clos (.func 63) [.mref 15] []),(16,.bref 19 0)]) (fun n q=>[(1,(kO eP m)),(2,(kO eP o)),(8,.box 83 (gF b)),(15,(kO eP q)),(19,.miter 2 (o.length) n)]) (fun n q=>PlI P o b n q) (fun n _=>o.length-Array.size n) (#[]) m Z ?_ (sb Z Z Z) ?_))))
 · exact pl_0 hm
 intro n q hI0
 refine tk 4 Z ?_
 refine TK.nextK (Y:=tab) Z Z Z Z Z (fun i1 k1 v1 hk1 hi1=>?_) (fun hall1=>?_)
 ·refine rc (CT Z Z (E Z (B.entryK Z Z Z hk1) (E Z (B.bZ Z Z) (C Z (w126 v1 b (pl_m hm ho hz hk1)) Z Z Z (E Z (B.jd (w119 q k1 (Qn.mul v1 b) 15 (pl_a hm ho hz hI0 hk1)) Z Z ⟨rfl,trivial⟩ rfl rfl) (Dr Z ae (pk Z (L2 (Array.push n i1) (addK k1 (Qn.mul v1 b) q) ?_ ?_ (sb Z Z Z)))))))))
  · exact pl_s hI0 hk1 hi1
  · exact hI0.1.meas hk1 hi1
 refine rc (CF Z Z ?_)
 refine tk 7 Z ?_
 refine TK.shutK (h:=15) (R':=fun kv=>∃ m,KP (P++scl (Qn.q b) R) m/\kv=kvO eP m) Z (fun kv e=>⟨_,pl_end hm ho hI0 hall1,e⟩) ?_
 exact kc (Rt Z (lL Z Z))
theorem w102 (m o:List (KI×Qn)) (P R:PL) (b:Qn) (x y z:Nat) (hxy:x≠y) (hxz:x≠z) (hyz:y≠z) (hm:KP P m) (ho:KP R o) (hz:szP P+(R.length+1)*(szP R+sz (Qn.q b)+2)<=10000000):qD Tryz.prog 49 [.mref x,.mref y,.pv (eP b)] (qx [(x,kO eP m),(y,kO eP o)]) (.mref z) [(y,kO eP o),(x,kO eP m),(z,kR (P++scl (Qn.q b) R))]:=by
 have key:=w102' m o P R b hm ho hz
 simpa [renM,DV.renL,DV.ren,MO.ren,r3_1 (show 1≠2 by decide) (show 1≠15 by decide) hxy hxz,r3_2 (show 2≠15 by decide) hyz,r3_3] using key.r3 1 2 15 x y z
theorem w101' (m o:List (KI×Qn)) (P R:PL) (hm:KP P m) (ho:KP R o) (hP:KB P) (hR:KB R) (hz:(P.length*R.length+2)*(szP P+szP R+2)<=10000000):qD Tryz.prog 48 [.mref 1,.mref 2] (qx [(1,(kO eP m)),(2,(kO eP o))]) (.mref 14) [(2,(kO eP o)),(1,(kO eP m)),(14,kR (q6 P R))]:=by
 refine cL 3 [(1,(kO eP m)),(2,(kO eP o))] qf48 Z (nB Z) Z Z (kc (E Z (B.newK (enc:=eP) Z Z) (E Z (B.rangeK kty Z Z Z Z) (l2 (fun (n:Array Nat) (q:List (KI×Qn))=>[(0,.mref 1),(1,.mref 2),(5,.mref 14),(6,.clos (.func 63) [.mref 14] []),(15,.bref 18 0)]) (fun n q=>[(1,(kO eP m)),(2,(kO eP o)),(14,(kO eP q)),(18,.miter 1 (m.length) n)]) (fun n q=>TiI m o n q) (fun n _=>m.length-Array.size n) (#[]) [] Z ?_ (sb Z Z Z) ?_))))
 · exact ti_0
 intro n q hI0
 refine tk 4 Z ?_
 refine TK.nextK (Y:=tab) Z Z Z Z Z (fun i1 k1 v1 hk1 hi1=>?_) (fun hall1=>?_)
 ·refine rc (CT Z Z (E Z (B.entryK Z Z Z hk1) (E Z (B.bZ Z Z) (E Z (B.rangeK kty Z Z Z Z) (l2 (fun (n2:Array Nat) (q2:List (KI×Qn))=>[(0,.mref 1),(1,.mref 2),(5,.mref 14),(6,.clos (.func 63) [.mref 14] []),(7,.bref 10 0),(8,.bref 11 0),(15,.bref 18 0),(22,.bref 25 0)]) (fun n2 q2=>[(1,(kO eP m)),(2,(kO eP o)),(10,.box 103 [vI (Prod.fst k1),vI (Prod.snd k1)]),(11,.box 83 (gF v1)),(14,(kO eP q2)),(18,.miter 1 (m.length) (Array.push n i1)),(25,.miter 2 (o.length) n2)]) (fun n2 q2=>TjI m o n (k1,v1) n2 q2) (fun n2 _=>o.length-Array.size n2) (#[]) q Z ?_ (sb Z Z Z) ?_)))))
  · exact tj_0 hI0
  intro n2 q2 hI1
  refine tk 7 Z ?_
  refine TK.nextK (Y:=tab) Z Z Z Z Z (fun i2 k2 v2 hk2 hi2=>?_) (fun hall2=>?_)
  ·refine rc (CT Z Z (E Z (B.entryK Z Z Z hk2) (E Z (B.bZ Z Z) (E Z (B.run Z) (E Z (B.run Z) (E Z (B.add Z Z dK) (E Z (B.run Z) (E Z (B.run Z) (E Z (B.add Z Z dK) (E Z (B.run (val:=.pv (.agg [pI ((Prod.fst k1)+(Prod.fst k2)),pI ((Prod.snd k1)+(Prod.snd k2))])) (m:=[]) (rd:=[]) ae) (C Z (w126 v1 v2 (ti_m hm ho hz hk1 hk2)) Z Z Z (E Z (B.jd (w119 q2 (((Prod.fst k1)+(Prod.fst k2)),((Prod.snd k1)+(Prod.snd k2))) (Qn.mul v1 v2) 14 (ti_a hm ho hz hI0 hI1 hk1 hi1 hk2)) Z Z ⟨rfl,trivial⟩ rfl rfl) (Dr Z ae (pk Z (L2 (Array.push n2 i2) (addK (((Prod.fst k1)+(Prod.fst k2)),((Prod.snd k1)+(Prod.snd k2))) (Qn.mul v1 v2) q2) ?_ ?_ (sb Z Z Z))))))))))))))))
   · exact tj_s hI1 hk2 hi2
   · exact hI1.1.meas hk2 hi2
  refine rc (CF Z Z (pk Z (L2 (Array.push n i1) q2 ?_ ?_ (sb Z Z Z))))
  · exact ti_s hI0 hI1 hk1 hi1 hall2
  · exact hI0.1.meas hk1 hi1
 refine rc (CF Z Z ?_)
 refine tk 10 Z ?_
 refine TK.shutK (h:=14) (R':=fun kv=>∃ m,KP (q6 P R) m/\kv=kvO eP m) Z (fun kv e=>⟨_,ti_end hm ho hI0 hall1,e⟩) ?_
 exact kc (Rt Z (lL Z Z))
theorem w101 (m o:List (KI×Qn)) (P R:PL) (x y z:Nat) (hxy:x≠y) (hxz:x≠z) (hyz:y≠z) (hm:KP P m) (ho:KP R o) (hP:KB P) (hR:KB R) (hz:(P.length*R.length+2)*(szP P+szP R+2)<=10000000):qD Tryz.prog 48 [.mref x,.mref y] (qx [(x,kO eP m),(y,kO eP o)]) (.mref z) [(y,kO eP o),(x,kO eP m),(z,kR (q6 P R))]:=by
 have key:=w101' m o P R hm ho hP hR hz
 simpa [renM,DV.renL,DV.ren,MO.ren,r3_1 (show 1≠2 by decide) (show 1≠14 by decide) hxy hxz,r3_2 (show 2≠14 by decide) hyz,r3_3] using key.r3 1 2 14 x y z
noncomputable def rf270:Array Tmp×Code×Code:=(rfOf (fn185.body.getD .skip)).getD (#[],.skip,.skip)
noncomputable def ps270:Array Tmp:=rf270.1
noncomputable def as270:Code:=rf270.2.1
noncomputable def bo270:Code:=rf270.2.2
abbrev rZ (st:LoopState) (pe:Bool):MO:=.lrec st pe
abbrev dsZ:List DV:=[.dead,.dead,.bref 23 0,.dead,.dead,.dead,.dead,.dead,.dead,.dead,.dead,.dead,.dead]
def KeysOf (m:List (KI×Qn)) (es:List (List PV)):Prop:=∃ ks:List KI,ks.Perm (m.map (·.1))/\es=ks.map eK
def KyI (m:List (KI×Qn)) (n:Array Nat) (d:List KI):Prop:=VI m n/\d=(visL m n).map (·.1)
section
variable {m:List (KI×Qn)} {n:Array Nat} {d:List KI} {i:Nat} {k:KI} {v:Qn}
theorem ky_0:KyI m #[] []:=⟨VI.nil _,rfl⟩
theorem ky_s (h:KyI m n d) (hk:m[i]? =some (k,v)) (hi:i∉n):KyI m (n.push i) (d++[k]):=⟨h.1.push hk hi,by rw[kP hk,qc,<-h.2];rfl⟩
theorem ky_l (h:KyI m n d):d.length<=m.length:=by
 have h1:=vis_len m n
 have h2:=h.1.size
 rw[h.2,zI];omega
theorem ky_e (h:KyI m n d) (ha:∀ i,i<m.length->i∈n):d.Perm (m.map (·.1))/\d.length=m.length:=by
 have hp:=h.1.all ha
 exact⟨by rw[h.2];exact hp.map _,by rw[h.2,zI,hp.length_eq]⟩
end
theorem by103:ty103.info.bytes=16:=ae
theorem sz161:szT tab 161=some 1:=ae
theorem asgZ [Fc] (v:Nat) (l:List KI) (k:KI):TK Tryz.prog 13 2001 (fun e' s'=>e'=.normal/\Wk 2001 s' ⟨[(2,.bref 23 0),(5,.bref 2006 0)],[(23,.box 161 [.aref 901 v]),(901,.arr v 2 103 (List.map eK l)),(950,(rZ .ready false)),(2006,.box 103 [vI (Prod.fst k),vI (Prod.snd k)])]⟩) as270 [] ⟨[(2,.bref 23 0),(7,.pv (.agg [pI (Prod.fst k),pI (Prod.snd k)]))],[(23,.box 161 [.aref 901 v]),(901,.arr v 2 103 (List.map eK l)),(950,(rZ .ready false))]⟩:=by
 exact kc (Rn Z ⟨rfl,Sub.wk (sb Z Z Z)⟩)
theorem bodZ [Fc] (v:Nat) (l:List KI) (k:KI) (hl:l.length<=1000000):TK Tryz.prog 13 2001 (fun e' s'=>e'=.normal/\Wk 2001 s' ⟨[],(950,rZ .busy false)::[(23,.box 161 [.aref 901 (v+1)]),(901,.arr (v+1) 2 103 (List.map eK (l++[k])))]⟩) bo270 [] ⟨[(2,.bref 23 0),(5,.bref 2006 0)],[(23,.box 161 [.aref 901 v]),(901,.arr v 2 103 (List.map eK l)),(950,(rZ .busy false)),(2006,.box 103 [vI (Prod.fst k),vI (Prod.snd k)])]⟩:=by
 exact kc (E Z (B.runZ (val:=.pv (.slice (List.map eK [k]))) (m0:=[(2011,.arr 0 2 103 [[pI (Prod.fst k),pI (Prod.snd k)]])]) (rd:=[]) ae (fun l=>Frz.arr l _ _ _ _ _) Z) (E Z (B.append Z Z Z un161 in103 Z (fun _=>rfl) by103 (by simp only[qa];omega)) (E Z (B.storeR Z Z Z Z sz161 Z Z) (Rn Z ⟨rfl,Sub.wk (sb Z Z Z)⟩))))
theorem ylZ (v:Nat) (l:List KI) (k:KI) (hl:l.length<=1000000):YldOk Tryz.prog 950 ps270 as270 bo270 dsZ [.pv (kkP k)] (qx ((950,rZ .ready false)::[(23,.box 161 [.aref 901 v]),(901,.arr v 2 103 (List.map eK l))])) (lit (.bool true)) ((950,rZ .ready false)::[(23,.box 161 [.aref 901 (v+1)]),(901,.arr (v+1) 2 103 (List.map eK (l++[k])))]):=
 YldOk.of (n:=13) (nb:=2001) (tm1:=[(2,.bref 23 0),(5,.bref 2006 0)]) (l1:=[(23,.box 161 [.aref 901 v]),(901,.arr v 2 103 (List.map eK l)),(950,(rZ .ready false)),(2006,.box 103 [vI (Prod.fst k),vI (Prod.snd k)])]) (ps:=ps270) (assign:=as270) (body:=bo270) true Z Z ah (allLt Z) Z rfl
  (fun r=>letI ic:Fc:=⟨some r⟩;TK.start (TK.norm ⟨[(2,.bref 23 0),(7,.pv (.agg [pI (Prod.fst k),pI (Prod.snd k)]))],[(23,.box 161 [.aref 901 v]),(901,.arr v 2 103 (List.map eK l)),(950,(rZ .ready false))]⟩ (sb Z Z Z) (asgZ v l k))) rfl
  (fun r=>letI ic:Fc:=⟨some r⟩;TK.start (TK.norm ⟨[(2,.bref 23 0),(5,.bref 2006 0)],[(23,.box 161 [.aref 901 v]),(901,.arr v 2 103 (List.map eK l)),(950,(rZ .busy false)),(2006,.box 103 [vI (Prod.fst k),vI (Prod.snd k)])]⟩ (sb Z Z Z) (bodZ v l k hl))) (allNe Z) (ndM_ok Z) Z rfl
theorem w271 (m:List (KI×Qn)) (hn:m.length<=1000000):qD Tryz.prog 186 [.yld 950 ps270 as270 bo270 dsZ,.bref 20 0] (qx ((950,rZ .ready false)::[(1,(kO eP m)),(20,.box 105 [.mref 1]),(23,.box 161 [.aref 901 0]),(901,.arr 0 2 103 (List.map eK []))])) (.tup []) (List.reverse ((950,rZ .ready false)::[(1,(kO eP m)),(20,.box 105 [.mref 1]),(23,.box 161 [.aref 901 (m.length)]),(901,.arrK (m.length) 2 103 (KeysOf m))])):=by
 refine cL 1001 ((950,rZ .ready false)::[(1,(kO eP m)),(20,.box 105 [.mref 1]),(23,.box 161 [.aref 901 0]),(901,.arr 0 2 103 (List.map eK []))]) qf186 Z (nB Z) Z Z (kc (E Z (B.rangeK kty Z Z Z Z) (l3 (fun (n:Array Nat) (d:List KI) (c:Nat)=>[(0,.yld 950 ps270 as270 bo270 dsZ),(1,.bref 20 0),(5,.bref 1006 0)]) (fun n d c=>[(1,(kO eP m)),(20,.box 105 [.mref 1]),(23,.box 161 [.aref 901 c]),(901,.arr c 2 103 (List.map eK d)),(950,(rZ .ready false)),(1006,.miter 1 (m.length) n)]) (fun n d c=>KyI m n d/\c=d.length) (fun n _ _=>m.length-Array.size n) (#[]) [] 0 Z ?_ (sb Z Z Z) ?_)))
 · exact⟨ky_0,rfl⟩
 intro n d c hI0
 have hdl:d.length<=List.length m:=ky_l hI0.1
 refine tk 1 Z ?_
 refine TK.nextK (Y:=tab) Z Z Z Z Z (fun i1 k1 v1 hk1 hi1=>?_) (fun hall1=>?_)
 ·refine rc (CT Z Z (E Z (B.entryK Z Z Z hk1) (E Z (B.yieldS (ylZ c d k1 aa) Z Z ⟨rfl,rfl,rfl,trivial⟩ rfl rfl) (Cb Z Z (fun h1=>?_) (fun h1=>?_)))))
  ·exact absurd h1 ah
  refine pk Z (L3 (Array.push n i1) (d++[k1]) (c+1) ?_ ?_ (sb Z Z Z))
  · (exact⟨ky_s hI0.1 hk1 hi1,by rw[hI0.2,za];rfl⟩)
  · exact hI0.1.1.meas hk1 hi1
 refine rc (CF Z Z ?_)
 obtain⟨hke1,hke2⟩:=ky_e hI0.1 hall1
 rw[show c=List.length m by rw[hI0.2,hke2]]
 refine ck ?_
 refine TK.shutA (h:=901) (R:=KeysOf m) Z ⟨d,hke1,rfl⟩ ?_
 refine kc ?_
 refine Rn Z ?_
 exact leafL (val0:=.tup []) (out0:=[(901,(.arrK (m.length) 2 103 (KeysOf m))),(23,.box 161 [.aref 901 (m.length)]),(20,.box 105 [.mref 1]),(1,(kO eP m)),(950,(rZ .ready false))]) (.inl Z) ae Z rfl
end Go.Lens.Tb
end
section
namespace Go.Lens.Tb
open Go.Proofs Go.Lens.Un
variable [Lz] [Dn]
def rowK (n:Nat):List KI:=(List.range (n+1)).map fun i=>(((n-i:Nat):Int),(i:Int))
def keys32:List KI:=(List.range 33).flatMap rowK
def jm (P:PL):List KI:=keys32.filter fun k=>decide (cf P k≠0)
theorem mem_rowK {n:Nat} {k:KI}:k∈rowK n↔0<=k.1/\0<=k.2/\k.1+k.2=n:=by
 obtain⟨a,b⟩:=k
 simp only[rowK,zE,List.mem_range,zx]
 constructor
 ·rintro⟨i,hi,rfl,rfl⟩;omega
 rintro⟨h1,h2,h3⟩;exact⟨b.toNat,aa,aa,aa⟩
theorem mem_keys32 {k:KI}:k∈keys32↔0<=k.1/\0<=k.2/\k.1+k.2<=32:=by
 simp only[keys32,List.mem_flatMap,List.mem_range,mem_rowK]
 constructor
 ·rintro⟨n,hn,h1,h2,h3⟩;omega
 rintro⟨h1,h2,h3⟩;exact⟨(k.1+k.2).toNat,aa,h1,h2,aa⟩
theorem keys32_pw:keys32.Pairwise (fun a b=>ordI a b<0):=by
 unfold keys32
 rw[List.pairwise_flatMap]
 refine⟨fun n _=>?_,?_⟩
 ·unfold rowK
  rw[List.pairwise_map]
  refine List.pairwise_lt_range.imp_of_mem ?_
  intro i j hi hj hij
  rw[List.mem_range] at hi hj
  rw[ordI_lt];simp only;omega
 refine List.pairwise_lt_range.imp ?_
 intro i j hij x hx y hy
 rw[mem_rowK] at hx hy
 rw[ordI_lt];omega
theorem ordP_pw {P:PL}:(jm P).Pairwise (fun a b=>ordI a b<0):=keys32_pw.filter _
theorem pw_nd {l:List KI} (h:l.Pairwise (fun a b=>ordI a b<0)):l.Nodup:=h.imp fun {a b} hab e=>by
 subst e;rw[ordI_lt] at hab;omega
theorem mem_ordP {P:PL} {k:KI}:k∈jm P↔(0<=k.1/\0<=k.2/\k.1+k.2<=32)/\cf P k≠0:=by
 unfold jm;rw[List.mem_filter,mem_keys32];simp
section
variable {P:PL} {m:List (KI×Qn)} {ks:List KI} {k:KI} {x:Qn}
theorem zq_iff:zq x=true↔x.q=0:=by
 unfold zq
 rw[zf,sgn_0,Rat.num_eq_zero]
theorem or_m (h:ks.Perm (m.map (·.1))):∀ k∈ks,k∈m.map (·.1):=fun k hk=>h.mem_iff.1 hk
theorem or_l (h:ks.Perm (m.map (·.1))) (hn:m.length<=1000000):ks.length<=1000000:=by rw[h.length_eq,zI];exact hn
theorem or_c (m:List (KI×Qn)) (ks:List KI):(∀ k∈ks,pK m k=false)\/∃ q:Nat,idxK (pK m) ks 0=q/\q<ks.length:=by
 rcases ik_find (l:=ks) (p:=pK m) 0 with e|⟨q,h1,h2,_⟩
 ·exact .inl e
 exact .inr ⟨q,by rw[<-show (((0:Nat)+q:Nat):Int)=q by omega,<-h2];rfl,h1⟩
theorem pk_cf (hm:KP P m) (hk:k∈m.map (·.1)):pK m k=false↔cf P k≠0:=by
 obtain⟨x,hx⟩:=get_mem hk
 have:=hm.q k
 unfold cfM at this
 rw[hx] at this
 simp only at this
 unfold pK
 rw[hx,<-this]
 simp only
 cases e:zq x
 ·simp only[true_iff]
  intro q;rw[zq_iff.2 q] at e;cases e
 simp only[Bool.true_eq_false,false_iff];exact fun h=>h (zq_iff.1 e)
theorem or_p (hm:KP P m) (h32:∀ k∈m.map (·.1),0<=k.1/\0<=k.2/\k.1+k.2<=32) (hks:ks.Perm (m.map (·.1))):(jm P).Perm (kpK m ks):=by
 have hnd:(kpK m ks).Nodup:=(hks.nodup_iff.2 hm.nd).filter _
 rw[List.perm_ext_iff_of_nodup (pw_nd ordP_pw) hnd]
 intro k
 unfold kpK
 rw[mem_ordP,List.mem_filter,hks.mem_iff]
 constructor
 ·rintro⟨_,h2⟩
  have hk:k∈m.map (·.1):=by
   have:=hm.q k
   unfold cfM at this
   cases hg:Zb k m with
   | none=>rw[hg] at this;exact absurd this.symm h2
   | some x=>exact zE.2 ⟨_,mem_of_get hg,rfl⟩
  exact⟨hk,by rw[(pk_cf hm hk).2 h2];rfl⟩
 rintro⟨hk,h2⟩
 exact⟨h32 k hk,(pk_cf hm hk).1 (by simpa using h2)⟩
theorem or_ks (h32:∀ k∈m.map (·.1),0<=k.1/\0<=k.2/\k.1+k.2<=32) (hks:ks.Perm (m.map (·.1))):∀ k∈ks,KS k:=fun k hk=>by
 have:=h32 k (hks.mem_iff.1 hk)
 unfold KS;omega
theorem kp_all (hno:∀ k∈ks,pK m k=false):kpK m ks=ks:=by
 unfold kpK
 rw[List.filter_eq_self]
 intro k hk;rw[hno k hk];rfl
theorem or_a (hm:KP P m) (h32:∀ k∈m.map (·.1),0<=k.1/\0<=k.2/\k.1+k.2<=32) (hks:ks.Perm (m.map (·.1))) (hl:ks.length<=1000000) (hno:∀ k∈ks,pK m k=false) :
  ks.length<=ks.length/\ks.length<4611686018427387904/\(∀ k∈ks.take ks.length,KS k)/\(jm P).Perm (ks.take ks.length):=by
 rw[List.take_length]
 exact⟨zB _,aa,or_ks h32 hks,by have:=or_p hm h32 hks;rwa [kp_all hno] at this⟩
theorem kp_le:(kpK m ks).length<=ks.length:=List.length_filter_le _ _
theorem or_b (hm:KP P m) (h32:∀ k∈m.map (·.1),0<=k.1/\0<=k.2/\k.1+k.2<=32) (hks:ks.Perm (m.map (·.1))) (hl:ks.length<=1000000) :
  (kpK m ks).length<=(kpK m ks++List.replicate (ks.length-(kpK m ks).length) ((0,0):KI)).length/\(kpK m ks++List.replicate (ks.length-(kpK m ks).length) ((0,0):KI)).length<4611686018427387904/\
  (∀ k∈(kpK m ks++List.replicate (ks.length-(kpK m ks).length) ((0,0):KI)).take (kpK m ks).length,KS k)/\(jm P).Perm ((kpK m ks++List.replicate (ks.length-(kpK m ks).length) ((0,0):KI)).take (kpK m ks).length):=by
 have h:=kp_le (m:=m) (ks:=ks)
 rw[List.take_left',za,qd]
 ·exact⟨aa,aa,fun k hk=>or_ks h32 hks k (List.mem_filter.1 hk).1,or_p hm h32 hks⟩
 rfl
theorem or_v1:jm P++List.drop ks.length ks=jm P:=by rw[List.drop_length,zR]
theorem or_v2 {l:List KI} (h:(jm P).Perm (kpK m ks)):List.take (kpK m ks).length (jm P++l)=jm P:=by rw[<-h.length_eq,List.take_left'];rfl
end
theorem TK.frzT [Fc] {P:Program} {n nb:Nat} {Q:Exit->St->Prop} {K:List Fr} {c:Code} {s:St} {α:Type} {enc:α->List PV} {l:List α} {t h v k sz:Nat} {T0:TypeId} (ht:jJ s.tm t=.atrunc h v k) (hm:qx s.ms h=some (.arr v sz T0 (l.map enc)))
 (H:TK P n nb Q c K ⟨(t,.pv (.slice ((l.take k).map enc)))::s.tm,(h,.farr v (l.map enc))::s.ms⟩):TK P n nb Q c K s:=
 T.weak (wk_frz ht ao aR (by simp[pvOf,qF,List.map_take])) H
end Go.Lens.Tb
end
section
namespace Go.Lens.Tb
open Go.Proofs Go.Lens.Un
variable [Lz] [Dn]
attribute [local irreducible] TK PK T RG EfR Body CG
theorem w235 (l L:List KI) (n v:Nat) (d:DV) (hn:n<=l.length) (h62:l.length<4611686018427387904) (hd:d=.atrunc 901 v n\/(d=.aref 901 v/\n=l.length)) (hk:∀ k∈l.take n,KS k) (hp:L.Perm (l.take n)) (hs:L.Pairwise (fun a b=>ordI a b<0)) :
  qD Tryz.prog 145 [d,.pv (.fn (.func 105) [] [])] (qx [(901,.arr v 2 103 (l.map eK))]) (.tup []) [(901,.arr v 2 103 ((L++l.drop n).map eK))]:=by
 refine⟨fun h hh=>?_,fun G w vs M hv=>?_⟩
 ·rcases hd with rfl|⟨rfl,_⟩<;>(simp[DV.qO,DV.refs] at hh;subst hh;exact⟨.arr v 2 103 (l.map eK),by simp[qF]⟩)
 by_cases ha0:(G.ρ 901).addr≠none
 ·exact w235c l L n v d hn h62 hd hk hp hs M hv ha0
 have ha:=zi.1 ha0
 have hl0:l=[]:=by
  obtain⟨k1,k2,k3,k4,k5,k6,hA⟩:=M.ms 901 _ (show qx [(901,MO.arr v 2 103 (l.map eK))] 901=some (.arr v 2 103 (l.map eK)) by simp[qF])
  rcases hA with ⟨_,hc⟩|⟨b,c,e1,_⟩
  ·rw[hc,zI] at k5;exact zK aa
  rw[ha] at e1;cases e1
 subst hl0
 have hn0:n=0:=by simpa using hn
 subst hn0
 have hL:L=[]:=by simpa using hp
 subst hL
 have hl1:qx [(901,MO.arr v 2 103 ([].map eK))] 901=some (.arr v 2 103 ([].map eK)):=by simp[qF]
 obtain⟨k1,k2,k3,k4,k5,k6,hA⟩:=M.ms 901 _ hl1
 rcases hA with ⟨_,hc⟩|hA
 ·obtain⟨v1,v2,e,q1,q2⟩:=hv.two
  have hv1:v1=.slice none 0 0:=by
   rcases hd with rfl|⟨rfl,_⟩
   ·simp only[qy] at q1;rw[(q1.2 k2).2,ha,hc]
   simp only[qy] at q1;rw[q1.2 k2,ha,hc,k4];rfl
  have H:qD Tryz.prog 145 [.nils,.pv (.fn (.func 105) [] [])] (qx [(901,MO.arr v 2 103 ([].map eK))]) (.tup []) []:=w235'.frame (fun h o e=>by cases e) (fun k o h e=>by cases e) (fun h hh=>by cases hh)
  refine (H.call G w vs M (by rw[e,hv1];simp only[qC,qy];exact⟨_,_,rfl,rfl,_,_,rfl,by simpa only[qy] using q2,rfl⟩)).mono ?_
  rintro r w' ⟨G',S⟩
  have M1:=M.out S
  have hu:upd [] (qx [(901,MO.arr v 2 103 ([].map eK))])=qx [(901,MO.arr v 2 103 ([].map eK))]:=by funext h;rfl
  rw[hu] at M1
  have S2:=jh (m:=.arr v 2 103 ([].map eK)) (val:=.tup []) (r:=r) M1.ctx (B:=G'.ρ 901) (h:=901) hl1 aU (w':=w') Z Z Z Z (fun _ _=>rfl) (by rw[Gh.qX];exact S.hval) (by rw[Gh.qX];exact M1.ms 901 _ hl1) bc am
  rw[Gh.qX] at S2
  have S3:=S.trans M (by rw[hu];exact S2)
  exact⟨G',by simpa [mrg] using S3⟩
 obtain⟨b,c,e1,_⟩:=hA;rw[ha] at e1;cases e1
theorem w270 (m:List (KI×Qn)) (hn:m.length<=1000000):qD Tryz.prog 185 [.nils,.clos (.func 186) [] [.bref 20 0]] (qx [(1,(kO eP m)),(20,.box 105 [.mref 1])]) (.aref 901 (m.length)) [(20,.box 105 [.mref 1]),(1,(kO eP m)),(901,.arrK (m.length) 2 103 (KeysOf m))]:=by
 refine cL 21 [(1,(kO eP m)),(20,.box 105 [.mref 1])] qf185 Z (nB Z) Z Z (kc (E Z (B.run Z) (E Z (B.ZH (enc:=eK) Z) ?_)))
 refine tk 1 Z ?_
 refine TK.adoptC 23 0 901 2 103 Z Z Z Z ?_
 refine TK.norm ⟨[(1,.clos (.func 186) [] [.bref 20 0]),(2,.bref 23 0),(4,vL eK [])],[(1,(kO eP m)),(20,.box 105 [.mref 1]),(23,.box 161 [.aref 901 0]),(901,.arr 0 2 103 (List.map eK []))]⟩ (sb Z Z Z) ?_
 refine kc ?_
 refine tk 9999 Z ?_
 refine TK.norm ⟨[(1,.clos (.func 186) [] [.bref 20 0]),(2,.bref 23 0),(4,vL eK []),(6,.clos (.func 186) [] [.bref 20 0])],[(1,(kO eP m)),(20,.box 105 [.mref 1]),(23,.box 161 [.aref 901 0]),(901,.arr 0 2 103 (List.map eK []))]⟩ (sb Z Z Z) ?_
 refine TK.range (hl:=950) (st:=.ready) false (fun a w=>Tryz.call186 a w) Z Z Z (fun i _=>agD0 (tm:=[(1,.clos (.func 186) [] [.bref 20 0]),(2,.bref 23 0),(4,vL eK []),(6,.clos (.func 186) [] [.bref 20 0])]) (ds:=dsZ) ⟨rfl,trivial⟩ i) ((w271 m hn).rev) ah (allNe Z) ?_
 exact pc (Rt Z (lL Z Z))
theorem w231 (m:List (KI×Qn)) (hn:m.length<=1000000):qD Tryz.prog 141 [.clos (.func 186) [] [.bref 20 0]] (qx [(1,(kO eP m)),(20,.box 105 [.mref 1])]) (.aref 901 (m.length)) [(20,.box 105 [.mref 1]),(1,(kO eP m)),(901,.arrK (m.length) 2 103 (KeysOf m))]:=by
 exact cL 21 [(1,(kO eP m)),(20,.box 105 [.mref 1])] qf141 Z (nB Z) Z Z (kc (E Z (B.ZH (enc:=eK) Z) (E Z (B.jd (w270 m hn) Z Z ⟨rfl,rfl,trivial⟩ rfl rfl) (Rt Z (lL Z Z)))))
theorem w232 (m:List (KI×Qn)):qD Tryz.prog 142 [.mref 1] (qx [(1,(kO eP m))]) (.clos (.func 186) [] [.bref 20 0]) [(1,(kO eP m)),(20,.box 105 [.mref 1])]:=by
 exact cL 19 [(1,(kO eP m))] qf142 Z (nB Z) Z Z (kc (Rt Z (lL Z Z)))
theorem w180' (m:List (KI×Qn)) (P:PL) (hm:KP P m) (h32:∀ k∈m.map (·.1),0<=k.1/\0<=k.2/\k.1+k.2<=32) (hn:m.length<=1000000) (hz:∀ k x,Zb k m=some x->sz (Qn.q x)<=20000000):qD Tryz.prog 104 [.mref 1] (qx [(1,(kO eP m))]) (vL eK (jm P)) [(1,(kO eP m))]:=by
 refine cL 10 [(1,(kO eP m))] qf104 Z (nB Z) Z Z (kc (E Z (B.ZH (enc:=eK) Z) (E Z (B.jd (w232 m) Z Z ⟨rfl,trivial⟩ rfl rfl) (E Z (B.jd (w231 m hn) Z Z ⟨rfl,rfl,trivial⟩ rfl rfl) ?_))))
 refine tk 2 Z ?_
 refine tn ⟨[(0,.mref 1),(1,.bref 11 0),(3,.aref 901 (m.length))],[(1,(kO eP m)),(11,.box 105 [.mref 1]),(901,(.arrK (m.length) 2 103 (KeysOf m)))]⟩ rfl rfl Z ?_
 refine TK.openA (h:=901) Z (fun es hes=>?_)
 obtain⟨ks,hks,rfl⟩:=hes
 have hkm:=or_m hks
 have hkl:=or_l hks hn
 rcases or_c m ks with hno|⟨q,hq,hql⟩
 ·refine kc (E Z (B.jd (w233a m ks (m.length) hkl hkm hz hno) Z Z ⟨rfl,rfl,rfl,trivial⟩ rfl rfl) (E Z (B.jd (w235 ks (jm P) (ks.length) (m.length) _ (or_a hm h32 hks hkl hno).1 (or_a hm h32 hks hkl hno).2.1 (.inr ⟨rfl,rfl⟩) (or_a hm h32 hks hkl hno).2.2.1 (or_a hm h32 hks hkl hno).2.2.2 ordP_pw) Z Z ⟨rfl,trivial⟩ rfl rfl) ?_))
  refine tk 4 Z ?_
  refine TK.frz (t:=3) Z Z ?_
  exact kc (Rt Z (lL Z dL))
 refine kc (E Z (B.jd (w233b m ks (m.length) q hkl hkm hz hq hql) Z Z ⟨rfl,rfl,rfl,trivial⟩ rfl rfl) (E Z (B.jd (w235 (kpK m ks++List.replicate (ks.length-(kpK m ks).length) (0,0)) (jm P) ((kpK m ks).length) (m.length) _ (or_b hm h32 hks hkl).1 (or_b hm h32 hks hkl).2.1 (.inl Z) (or_b hm h32 hks hkl).2.2.1 (or_b hm h32 hks hkl).2.2.2 ordP_pw) Z Z ⟨rfl,trivial⟩ rfl rfl) ?_))
 refine tk 4 Z ?_
 refine TK.frzT (t:=3) Z Z ?_
 exact kc (Rt Z (lL Z dL))
theorem w180 (m:List (KI×Qn)) (P:PL) (a:Nat) (hm:KP P m) (h32:∀ k∈m.map (·.1),0<=k.1/\0<=k.2/\k.1+k.2<=32) (hn:m.length<=1000000) (hz:∀ k x,Zb k m=some x->sz (Qn.q x)<=20000000):qD Tryz.prog 104 [.mref a] (qx [(a,(kO eP m))]) (vL eK (jm P)) [(a,(kO eP m))]:=by
 simpa [renM,DV.renL,DV.ren,MO.ren,r1_1] using (w180' m P hm h32 hn hz).r1 1 a
def keyT (t:Trm):KI:=(t.i,t.j)
abbrev cE0 (t:Trm):Int:=qM [jA t.c,ju (decide (t.c=[48])) 6,qU t.i 0 16,qU t.j 0 16]
def cE1 (t:Trm):Int:=if cE0 t=0 then qU (t.i+t.j) 0 16 else cE0 t
def chkA (f:List Trm) (k:Nat):Int:=if cE1 (f.getD k trZ)=0/\0<(k:Int)/\0<=ordI ((f.getD (k-1) trZ).i,(f.getD (k-1) trZ).j) ((f.getD k trZ).i,(f.getD k trZ).j) then 11 else cE1 (f.getD k trZ)
def jf (f:List Trm):Int:=qM ((List.range f.length).map (chkA f))
def ky (f g:List Trm):Int:=qM [jf f,jf g]
theorem wi_0 {n a b:Int}:qU n a b=0↔a<=n/\n<=b:=by
 unfold qU ju outF
 grind
theorem wh_0 {b:Bool} {e:Int} (he:e≠0):ju b e=0↔b=false:=by cases b<;>simp[ju,he]
theorem ff_0 {a:Int} {l:List Int}:qM (a::l)=0↔a=0/\qM l=0:=by rw[qM];split<;>simp_all
theorem cE0_0 {t:Trm}:cE0 t=0↔jA t.c=0/\t.c≠[48]/\(0<=t.i/\t.i<=16)/\(0<=t.j/\t.j<=16):=by
 unfold cE0
 grind [ff_0,wh_0,wi_0,decide_eq_false_iff_not,qM]
theorem cE1_0 {t:Trm}:cE1 t=0↔jA t.c=0/\t.c≠[48]/\0<=t.i/\0<=t.j/\t.i+t.j<=16:=by
 unfold cE1
 by_cases h:cE0 t=0
 ·rw[if_pos h,wi_0]
  have:=cE0_0.1 h
  grind
 rw[if_neg h]
 constructor
 ·intro g;exact absurd g h
 intro g
 exact absurd (cE0_0.2 ⟨g.1,g.2.1,⟨g.2.2.1,aa⟩,g.2.2.2.1,aa⟩) h
section
variable {f g:List Trm} {k:Nat} {t:Trm} {p q r:Prop} [Decidable p] [Decidable q] [Decidable r]
theorem cg_1 (h:(bif decide p then decide q else false)=true):p:=by by_cases hp:p<;>simp_all
theorem cg_2 (h:(bif decide p then decide q else false)=true):q:=by by_cases hp:p<;>simp_all
theorem cg_4 (h:(bif decide p then decide q else false)=false):¬(p/\q):=by grind
theorem ca_0 (h:chkA f k=0):cE1 (f.getD k trZ)=0/\(0<k->ordI (keyT (f.getD (k-1) trZ)) (keyT (f.getD k trZ))<0):=by
 unfold chkA at h
 split at h
 ·cases h
 rename_i hn
 refine⟨h,fun hk=>?_⟩
 by_cases ho:ordI (keyT (f.getD (k-1) trZ)) (keyT (f.getD k trZ))<0
 ·exact ho
 exact absurd ⟨h,aa,by unfold keyT at ho;omega⟩ hn
theorem ks_e (h:cE1 t=0):KS (t.i,t.j):=by
 have:=cE1_0.1 h
 unfold KS;simp only;omega
theorem ca_kp (h:∀ j,j<k->chkA f j=0) (hk:0<(k:Int)):KS ((f.getD (k-1) trZ).i,(f.getD (k-1) trZ).j):=ks_e (ca_0 (h (k-1) aa)).1
theorem ca_kc (h0:cE0 t=0) (h1:qU (t.i+t.j) 0 16=0):KS (t.i,t.j):=ks_e (by unfold cE1;rw[if_pos h0];exact h1)
theorem ca_bd (h0:cE0 t=0):0<=t.i/\t.i<=16/\0<=t.j/\t.j<=16:=by have:=cE0_0.1 h0;omega
theorem ca_1 (h0:cE0 (f.getD k trZ)=0) (hb:(bif decide (qU ((f.getD k trZ).i+(f.getD k trZ).j) 0 16=0) then decide (0<(k:Int)) else false)=true) (ho:0<=ordI ((f.getD (k-1) trZ).i,(f.getD (k-1) trZ).j) ((f.getD k trZ).i,(f.getD k trZ).j)):11=chkA f k:=by
 unfold chkA cE1
 grind
theorem ca_2v (h0:cE0 (f.getD k trZ)=0) (hb:(bif decide (qU ((f.getD k trZ).i+(f.getD k trZ).j) 0 16=0) then decide (0<(k:Int)) else false)=true) (ho:¬0<=ordI ((f.getD (k-1) trZ).i,(f.getD (k-1) trZ).j) ((f.getD k trZ).i,(f.getD k trZ).j)):qU ((f.getD k trZ).i+(f.getD k trZ).j) 0 16=chkA f k:=by
 unfold chkA cE1
 omega
theorem ca_2w (h0:cE0 (f.getD k trZ)=0) (hb:(bif decide (qU ((f.getD k trZ).i+(f.getD k trZ).j) 0 16=0) then decide (0<(k:Int)) else false)=false):qU ((f.getD k trZ).i+(f.getD k trZ).j) 0 16=chkA f k:=by
 unfold chkA cE1
 grind
theorem ca_2 (h0:cE0 (f.getD k trZ)=0) (hb:(bif decide (qU ((f.getD k trZ).i+(f.getD k trZ).j) 0 16=0) then decide (0<(k:Int)) else false)=true) (ho:¬0<=ordI ((f.getD (k-1) trZ).i,(f.getD (k-1) trZ).j) ((f.getD k trZ).i,(f.getD k trZ).j)) (h:qU ((f.getD k trZ).i+(f.getD k trZ).j) 0 16=0):chkA f k=0:=by rw[<-ca_2v h0 hb ho,h]
theorem ca_2f (h0:cE0 (f.getD k trZ)=0) (hb:(bif decide (qU ((f.getD k trZ).i+(f.getD k trZ).j) 0 16=0) then decide (0<(k:Int)) else false)=false) (h:qU ((f.getD k trZ).i+(f.getD k trZ).j) 0 16=0):chkA f k=0:=by rw[<-ca_2w h0 hb,h]
theorem ca_3 {a:Int} (h0:¬a=0) (hb:(bif decide (a=0) then decide q else false)=true):False:=h0 (cg_1 hb)
theorem ca_4 (h0:¬cE0 (f.getD k trZ)=0):cE0 (f.getD k trZ)=chkA f k:=by
 unfold chkA cE1
 omega
theorem ca_nx (h:∀ j,j<k->chkA f j=0) (hk:chkA f k=0):∀ j,j<k+1->chkA f j=0:=fun j hj=>by
 grind
theorem ff_pre {α:Type} {F:α->Int}:∀ {l m:List α},(∀ a∈l,F a=0)->qM ((l++m).map F)=qM (m.map F)
 | [],_,_=>rfl
 | a::l,m,h=>by
  rw[zQ,zy,qM,if_pos (h a ao)]
  exact ff_pre fun b hb=>h b (by simp[hb])
theorem po_at (h:∀ j,j<k->chkA f j=0) (hk:k<=f.length):jf f=qM ((List.range' k (f.length-k)).map (chkA f)):=by
 unfold jf
 have:List.range f.length=List.range k++List.range' k (f.length-k):=by
  have e:= @List.range'_append_1 0 k (f.length-k)
  rw[Nat.zero_add,show k+(f.length-k)=f.length by omega] at e
  rw[List.range_eq_range',List.range_eq_range',e]
 rw[this,ff_pre fun a ha=>h a (List.mem_range.1 ha)]
theorem cr {v:Int} (h:∀ j,j<k->chkA f j=0) (hk:k<f.length) (e:v=chkA f k) (hv:v≠0):v=jf f:=by rw[po_at h aa,show f.length-k=(f.length-k-1)+1 by omega,List.range'_succ,zy,qM,if_neg (by rw[<-e];exact hv),e]
theorem ce (h:∀ j,j<k->chkA f j=0) (hk:f.length<=k):0=jf f:=by
 unfold jf
 have:=ff_pre (F:=chkA f) (l:=List.range f.length) (m:=[]) fun a ha=>h a (by have:=List.mem_range.1 ha;omega)
 rw[zR] at this
 rw[this];rfl
theorem po_0 (h:jf f=0):∀ k,k<f.length->chkA f k=0:=by
 have key:∀ l:List Nat,qM (l.map (chkA f))=0->∀ k∈l,chkA f k=0:=by
  intro l
  induction l with
  | nil=>intro _ k hk;cases hk
  | cons a l ih=>
   grind [ff_0]
 exact fun k hk=>key _ h k (List.mem_range.2 hk)
theorem po_t (h:jf f=0) (ht:t∈f):jA t.c=0/\t.c≠[48]/\0<=t.i/\0<=t.j/\t.i+t.j<=16:=by
 obtain⟨k,hk,rfl⟩:=List.getElem_of_mem ht
 have:=(ca_0 (po_0 h k hk)).1
 rw[ze,zm hk] at this
 exact cE1_0.1 this
theorem ord_tr {a b c:KI} (h:ordI a b<0) (g:ordI b c<0):ordI a c<0:=by rw[ordI_lt] at *;omega
theorem po_pw (h:jf f=0):(f.map keyT).Pairwise (fun a b=>ordI a b<0):=by
 rw[List.pairwise_map,List.pairwise_iff_getElem]
 intro i j hi hj hij
 have key:∀ d i,i+d+1<f.length->ordI (keyT (f.getD i trZ)) (keyT (f.getD (i+d+1) trZ))<0:=by
  intro d
  induction d with
  | zero=>intro i hi;have:=(ca_0 (po_0 h (i+1) hi)).2 aa;rwa [Nat.add_sub_cancel] at this
  | succ d ih=>
   intro i hi
   have h1:=ih i aa
   have h2:=(ca_0 (po_0 h (i+(d+1)+1) hi)).2 aa
   rw[Nat.add_sub_cancel] at h2
   exact ord_tr h1 h2
 have:=key (j-i-1) i aa
 rw[show i+(j-i-1)+1=j by omega,ze,zm hi,ze,zm hj] at this
 exact this
def plF (f:List Trm):PL:=f.map fun t=>(keyT t,(jc t.c).q)
theorem sum_map (hn:(f.map keyT).Nodup):sumM f=f.map fun t=>(keyT t,jc t.c):=by
 have key:∀ (l:List Trm) (m:List (KI×Qn)),((m.map (·.1))++l.map keyT).Nodup->l.foldl (fun m t=>ZZ (t.i,t.j) (jc t.c) m) m=m++l.map fun t=>(keyT t,jc t.c):=by
  intro l
  induction l with
  | nil=>intro m _;simp
  | cons t l ih=>
   intro m h
   have hno:keyT t∉m.map (·.1):=by grind
   have hset:∀ m:List (KI×Qn),keyT t∉m.map (·.1)->ZZ (keyT t) (jc t.c) m=m++[(keyT t,jc t.c)]:=by
    intro m
    induction m with
    | nil=>intro _;rfl
    | cons a m ihm=>
     intro h
     obtain⟨a,x⟩:=a
     simp only[zy,zF,not_or] at h
     simp only[ZZ,if_neg h.1,ihm h.2,zQ]
   rw[List.foldl_cons]
   show l.foldl _ (ZZ (keyT t) (jc t.c) m)=_
   grind
 exact key f [] (by simpa using hn)
theorem kp_sum (h:jf f=0):KP (plF f) (sumM f):=by
 have hn:=pw_nd (po_pw h)
 rw[sum_map hn]
 refine⟨by simpa [List.map_map,Function.comp_def] using hn,fun k=>?_,fun k hk=>by simpa [plF,List.map_map,Function.comp_def] using hk⟩
 rw[<-cf_plM (by simpa [List.map_map,Function.comp_def] using hn)]
 simp[plM,plF,List.map_map,Function.comp_def]
theorem kb_f (h:jf f=0):∀ k∈(plF f).map (·.1),0<=k.1/\0<=k.2/\k.1+k.2<=16:=by
 intro k hk
 simp only[plF,List.map_map,zE,Function.comp_def] at hk
 obtain⟨t,ht,rfl⟩:=hk
 have:=po_t h ht
 exact this.2.2
def Qn.ofI (n:Int):Qn:=if h: -9223372036854775808<=n/\n<=9223372036854775807 then Qn.ofZ n bg else frZ
theorem ofI_q {n:Int} (h:R64 n):(Qn.ofI n).q=(n:Rat):=by unfold Qn.ofI;rw[dif_pos ch,Qn.ofZ_q]
theorem w100i (n:Int) (h: -1000000<=n/\n<=1000000):CKa 35 [vI n] (qV (Qn.ofI n)):=by
 unfold Qn.ofI
 rw[dif_pos aa]
 exact w100 _ _
end
def dblF:Nat->Int->Qn->Qn
 | 0,_,r=>r
 | n+1,k,r=>if 1<k then dblF n (k-2) (Qn.mul r (Qn.ofI k)) else r
def Qg (k:Int):Qn:=dblF 40 k (Qn.ofZ 1 bg)
def DbI (k j:Int) (r:Qn):Prop:= -1<=j/\(j<=64/\j<=k)/\(∃ n,Qg k=dblF n j r/\j<2*(n:Int)+1/\sz r.q<=1+(40-n)*7/\n<=40)
theorem ofI_sz {j:Int} (h: -1<=j/\j<=64):sz (Qn.ofI j).q<=7:=by
 rw[ofI_q bg]
 refine qh (sz_int j) ?_
 have:jb j.natAbs<=7:=jS aa
 omega
theorem db_0 {k:Int} (hk: -1<=k/\k<=64):DbI k k (Qn.ofZ 1 bg):=by
 refine⟨hk.1,⟨hk.2,Int.le_refl _⟩,40,rfl,aa,?_,zB _⟩
 rw[Qn.ofZ_q]
 exact qh (sz_int 1) ah
theorem db_s {k j:Int} {r:Qn} (h:DbI k j r) (_: -1<=k/\k<=64):sz r.q+sz (Qn.ofI j).q<=20000000:=by
 obtain⟨h1,⟨h2,_⟩,n,_,_,h3,_⟩:=h
 have:=ofI_sz ⟨h1,h2⟩
 omega
theorem db_n {k j:Int} {r:Qn} (h:DbI k j r) (hj:1<j):DbI k (j-2) (Qn.mul r (Qn.ofI j)):=by
 obtain⟨h1,⟨h2,h5⟩,n,h6,h7,h3,h4⟩:=h
 have hs:=ofI_sz ⟨h1,h2⟩
 cases n with
 | zero=>omega
 | succ n=>
  refine⟨aa,⟨aa,aa⟩,n,?_,aa,?_,aa⟩
  ·rw[h6,dblF,if_pos hj]
  rw[Qn.mul_q]
  have:=jy r.q (Qn.ofI j).q
  omega
theorem db_e {k j:Int} {r:Qn} (h:DbI k j r) (hj:¬1<j):r=Qg k:=by
 obtain⟨_,_,n,h6,_⟩:=h
 rw[h6]
 cases n with
 | zero=>rfl
 | succ n=>rw[dblF,if_neg hj]
theorem w81 (f:List Trm) (hl:f.length<=1000000) (hs:∀ t∈f,(Trm.c t).length<=1000000000):CKa 52 [vL eY f] (vI (jf f)):=by
 refine cG qf52 Z (nB Z) Z (E Z (B.jp Z un49) (l1 (fun (k:Nat)=>[(0,vL eY f),(6,vL eY f),(7,vI (f.length:Int)),(8,vI (k:Int))]) (fun _=>[]) (fun k=>k<=f.length/\∀ j,j<k->chkA f j=0) (fun k=>f.length-k) 0 Z ?_ (sb Z Z Z) ?_))
 · exact⟨zt _,fun j hj=>aa⟩
 intro k hI0
 refine Cp Z Z (fun h1=>?_) (fun h1=>?_)
 ·refine E Z (B.idx (z:=trZ) Z Z un49 sz57 (fun _=>rfl) Z aa) (C Z (w112 (Trm.c (f.getD k trZ)) (hs _ (kj aa))) Z Z Z (E Z (B.seqB Z Z) (C Z (w99 (decide ((Trm.c (f.getD k trZ))=[48])) 6) Z Z Z (C Z (w97 (Trm.i (f.getD k trZ)) 0 16) Z Z Z (C Z (w97 (Trm.j (f.getD k trZ)) 0 16) Z Z Z (E Z (B.zA (es:=List.map eI [(jA (Trm.c (f.getD k trZ))),(ju (decide ((Trm.c (f.getD k trZ))=[48])) 6),(qU (Trm.i (f.getD k trZ)) 0 16),(qU (Trm.j (f.getD k trZ)) 0 16)]) Z) (C Z (w98 [(jA (Trm.c (f.getD k trZ))),(ju (decide ((Trm.c (f.getD k trZ))=[48])) 6),(qU (Trm.i (f.getD k trZ)) 0 16),(qU (Trm.j (f.getD k trZ)) 0 16)] (nB Z)) Z Z Z (Dr Z ae (Cp Z Z (fun h2=>?_) (fun h2=>?_))))))))))
  ·refine E Z (B.add Z Z dM) (C Z (w97 ((Trm.i (f.getD k trZ))+(Trm.j (f.getD k trZ))) 0 16) Z Z Z ?_)
   refine Em Z Z Z Z ?_
   refine Eg Z Z (fun hc=>B.gtr (qz Z hc) Z) Z (E Z (B.pA Z Z Z Z Z) ?_)
   refine ek Z ?_
   cases h3:(bif (decide ((qU ((Trm.i (f.getD k trZ))+(Trm.j (f.getD k trZ))) 0 16)=0)) then (decide (0<(k:Int))) else false)
   ·refine Ef' Z Z (Ef' Z Z (Ef' Z Z (Ef' Z Z (Ef' Z Z (Ef' Z Z (Ef' Z Z (Ef' Z Z (Ef' Z Z (Ef' Z Z (Ef' Z Z (Ef' Z Z (Ef' Z Z (Ef' Z Z ?_)))))))))))))
    refine Ef' Z Z (Ef' Z Z (Ef' Z Z (Ef' Z Z (Ef' Z Z (Ef' Z Z (E Z (B.pkF Z Z Z Z Z) (Dr Z ae (CF Z Z (Cp Z Z (fun h4=>?_) (fun h4=>?_))))))))))
    ·exact Rt Z (lF Z (li dN))
    refine E Z (B.add Z Z dM) (pk Z (L1 (k+1) ?_ ?_ (sb Z Z Z)))
    · exact⟨aa,ca_nx hI0.2 dO⟩
    · omega
   refine Et Z Z (B.move Z) (Et Z Z (B.move Z) (Et Z Z (B.sub Z Z dM) (Et Z Z (B.idx (z:=trZ) (i:=(k-1)) Z Z un49 sz57 (fun _=>rfl) (by have hc2:=cg_2 ab;omega) aa) (Et Z Z (B.fadP Z fa57_1 Z) (Et Z Z (B.loadP Z ag3 sz3) (Et Z Z (B.move Z) (Et Z Z (B.move Z) (Et Z Z (B.sub Z Z dM) (Et Z Z (B.idx (z:=trZ) (i:=(k-1)) Z Z un49 sz57 (fun _=>rfl) (by have hc2:=cg_2 ab;omega) aa) (Et Z Z (B.fadP Z fa57_2 Z) (Et Z Z (B.loadP Z ag3 sz3) (Et Z Z (B.run Z) (Et Z Z (B.fadB Z fa57_1 Z) ?_)))))))))))))
   refine Et Z Z (B.loadB Z Z Z ag3 sz3 Z) (Et Z Z (B.fadB Z fa57_2 Z) (Et Z Z (B.loadB Z Z Z ag3 sz3 Z) (Et Z Z (B.run Z) (Et Z Z (B.call (w170 ((Trm.i (f.getD (k-1) trZ)),(Trm.j (f.getD (k-1) trZ))) ((Trm.i (f.getD k trZ)),(Trm.j (f.getD k trZ))) (ca_kp hI0.2 (cg_2 h3)) (by first|exact ca_kc ab (cg_1 h3)|exact absurd (cg_1 h3) ab)) Z Z Z) (Et Z Z (B.geq Z Z) (E Z (B.pkT Z Z Z Z Z) (Dr Z ae (Cp Z Z (fun h5=>?_) (fun h5=>?_)))))))))
   ·exact CT Z Z (Rt Z (lF Z (li dN)))
   refine Cp Z Z (fun h6=>?_) (fun h6=>?_)
   ·grind
   refine E Z (B.add Z Z dM) (pk Z (L1 (k+1) ?_ ?_ (sb Z Z Z)))
   · exact⟨aa,ca_nx hI0.2 dO⟩
   · omega
  refine Em Z Z Z Z ?_
  refine Eg Z Z (fun hc=>B.gtr (qz Z hc) Z) Z (E Z (B.pA Z Z Z Z Z) ?_)
  refine ek Z ?_
  cases h7:(bif (decide ((qM [(jA (Trm.c (f.getD k trZ))),(ju (decide ((Trm.c (f.getD k trZ))=[48])) 6),(qU (Trm.i (f.getD k trZ)) 0 16),(qU (Trm.j (f.getD k trZ)) 0 16)])=0)) then (decide (0<(k:Int))) else false)
  ·refine Ef' Z Z (Ef' Z Z (Ef' Z Z (Ef' Z Z (Ef' Z Z (Ef' Z Z (Ef' Z Z (Ef' Z Z (Ef' Z Z (Ef' Z Z (Ef' Z Z (Ef' Z Z (Ef' Z Z (Ef' Z Z ?_)))))))))))))
   refine Ef' Z Z (Ef' Z Z (Ef' Z Z (Ef' Z Z (Ef' Z Z (Ef' Z Z (E Z (B.pkF Z Z Z Z Z) (Dr Z ae (CF Z Z (Cp Z Z (fun h8=>?_) (fun h8=>?_))))))))))
   ·exact Rt Z (lF Z (li dN))
   omega
  grind
 exact Rt Z (lF Z (li dN))
theorem w124 (f g:List Trm) (hlf:f.length<=1000000) (hsf:∀ t∈f,(Trm.c t).length<=1000000000) (hlg:g.length<=1000000) (hsg:∀ t∈g,(Trm.c t).length<=1000000000):CKa 57 [vL eY f,vL eY g] (vI (ky f g)):=by
 exact cG qf57 Z (nB Z) Z (C Z (w81 f hlf hsf) Z Z Z (C Z (w81 g hlg hsg) Z Z Z (E Z (B.zA (es:=List.map eI [(jf f),(jf g)]) Z) (C Z (w98 [(jf f),(jf g)] (nB Z)) Z Z Z (Rt Z (lF Z (li bz)))))))
theorem w127 (k:Int) (hk: -1<=k/\k<=64):CKa 60 [vI k] (qV (Qg k)):=by
 refine cG qf60 Z (nB Z) Z (E Z (B.bZ Z Z) (C Z (w100 1 bg) Z Z Z (E Z (B.bZ Z Z) (l2 (fun (j:Int) (r:Qn)=>[(0,vI j),(2,.bref 3 0),(3,.bref 4 0)]) (fun _ r=>[(3,.box 83 [vI 0,.pv (ZP),vI 0,.pv (ZP)]),(4,.box 83 (gF r))]) (fun j r=>DbI k j r) (fun j _=>Int.toNat (j+1)) k (Qn.ofZ 1 bg) Z ?_ (sb Z Z Z) ?_))))
 · exact db_0 hk
 intro j r hI0
 have hb1:=hI0.1
 have hb2:=hI0.2.1
 refine Cp Z Z (fun h1=>?_) (fun h1=>?_)
 ·refine C Z (w100i j aa) Z Z Z (C Z (w126 r (Qn.ofI j) (db_s hI0 hk)) Z Z Z (Dr Z ae (E Z (B.sub Z Z (by have:=hI0.2.1;unfold R64;omega)) (pk Z (L2 (j-2) (Qn.mul r (Qn.ofI j)) ?_ ?_ (sb Z Z Z))))))
  · exact db_n hI0 ab
  · omega
 exact Rt Z (lF Z (by rw[db_e hI0 ab]))
end Go.Lens.Tb
end
