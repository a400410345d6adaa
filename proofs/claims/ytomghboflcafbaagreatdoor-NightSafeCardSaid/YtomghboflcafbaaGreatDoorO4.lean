/- A part of the proof of NightSafeCardSaid, without conditions. -/
import Derived.Test.YtomghboflcafbaaGreatDoorO3
import Derived.Test.YtomghboflcafbaaGreatDoorO2
import Derived.Test.YtomghboflcafbaaGreatDoorS4
import Derived.Test.YtomghboflcafbaaGreatDoorS10
import Derived.Stop.LaidErr
import Derived.Stop.ErrReads
import Derived.Test.YtomghboflcafbaaGreatDoorRows
import Derived.MakeChecks
import Derived.Lib.LaidTab
import Derived.LaidLaws
import Derived.Stop.Joined
import Derived.RowKit
set_option linter.unusedVariables false
set_option linter.unusedSimpArgs false
set_option linter.unusedSectionVars false
section
namespace Go.Lens.Tm
open Go.Lens.Tb Go.Proofs
variable [Lz]
theorem fold_app:∀ {a:List Stp} {s u:LSt} {b:List Stp},Z6 s a=(u,true)->Z6 s (a++b)=Z6 u b
 | [],s,u,b,h=>by rw[Z6] at h;cases h;rfl
 | p::a,s,u,b,h=>by
  rw[Z6] at h
  rw[zQ,Z6]
  split at h
  ·cases h
  rename_i hb;rw[if_neg hb];exact fold_app h
def TkI (a m:Mc) (n:Nat):Prop:=∃ q,m.2.2=a.2.2++q/\Z6 a.1 q=(m.1,true)/\a.2.1<=m.2.1/\q.Pairwise (fun x y=>x.1<=y.1)/\(∀ x∈q,a.2.1<=x.1/\x.1<=m.2.1)/\q.length<=n
theorem tki_refl (m:Mc) (n:Nat):TkI m m n:=⟨[],by simp,rfl,Int.le_refl _,.nil,(fun x hx=>by cases hx),zq _⟩
theorem tki_trans {a b c:Mc} {n k:Nat} (h:TkI a b n) (g:TkI b c k):TkI a c (n+k):=by
 obtain⟨q,h1,h2,h3,h4,h5,h6⟩:=h
 obtain⟨p,g1,g2,g3,g4,g5,g6⟩:=g
 refine⟨q++p,by rw[g1,h1,z7],by rw[fold_app h2,g2],by omega,List.pairwise_append.2 ⟨h4,g4,fun x hx y hy=>?_⟩,fun x hx=>?_,by rw[za];omega⟩
 ·have:=h5 x hx
  have:=g5 y hy
  omega
 rcases zI.1 hx with hx|hx
 ·have:=h5 x hx;omega
 have:=g5 x hx;omega
theorem tki_one {bb:Nat} {m:Mc} {c:Cmd} (hc:jI c=0):TkI m (ZD bb m c).1 1:=by
 obtain⟨s,t,p⟩:=m
 unfold ZD
 split
 ·rename_i hw
  have:=cnt_wait hc hw
  split
  ·exact tki_refl _ _
  exact⟨[],by simp,rfl,by show t<=t+c.2.2;omega,.nil,(fun x hx=>by cases hx),zq _⟩
 split
 ·exact tki_refl _ _
 split
 ·exact tki_refl _ _
 rename_i ha
 refine⟨[(t,c.2.1)],rfl,?_,Int.le_refl _,List.pairwise_singleton ..,fun x hx=>?_,zz _⟩
 ·rw[Z6,if_neg ha];rfl
 rw[zg.1 hx];exact⟨Int.le_refl _,Int.le_refl _⟩
theorem tki_all {bb:Nat}:∀ {l:List Cmd} {m:Mc},(∀ c∈l,jI c=0)->TkI m (jb bb m l).1 l.length
 | [],m,_=>tki_refl _ _
 | c::l,m,h=>by
  have k:=tki_one (bb:=bb) (m:=m) (h c (qm ..))
  rw[zb,Nat.add_comm]
  by_cases h0:(ZD bb m c).2=0
  ·rw[taks_ok h0]
   exact tki_trans k (tki_all fun x hx=>h x (zO _ hx))
  rw[taks_bad h0]
  exact tki_trans k (tki_refl _ _)
def SfR (N:Nat) (r:Reg):Prop:=Z6 idl r.2.2.2.2.2=(r.2.1,true)/\0<=r.1/\r.2.2.2.2.2.Pairwise (fun a b=>a.1<=b.1)/\(∀ x∈r.2.2.2.2.2,x.1<=r.1)/\r.2.2.2.2.2.length<=N/\∀ t∈r.2.2.1,qV t.name=true
theorem SfR.up {N:Nat} {r:Reg} (h:SfR N r):SfR (N+40) r:=⟨h.1,h.2.1,h.2.2.1,h.2.2.2.1,qi h.2.2.2.2.1 (Nat.le_add_right ..),h.2.2.2.2.2⟩
theorem sf_at {N:Nat} {r:Reg} (h:SfR N r) {t:Int} (ht:r.1<=t) {a:List Tgt} (ha:∀ x∈a,qV x.name=true) {b:List (List UInt8)} {c:List Doc}:SfR (N+40) (t,r.2.1,r.2.2.1++a,b,c,r.2.2.2.2.2):=by
 obtain⟨h1,h2,h3,h4,h5,h6⟩:=h
 refine⟨h1,by show 0<=t;omega,h3,fun x hx=>?_,qi h5 (Nat.le_add_right ..),fun x hx=>?_⟩
 ·have:=h4 x hx
  show x.1<=t
  omega
 rcases zI.1 hx with hx|hx
 ·exact h6 x hx
 exact ha x hx
theorem sf_ex {N:Nat} {r:Reg} (h:SfR N r) {t:Int} (ht:r.1<=t) {l:List Cmd} (hw:Wf 4 l) (hc:∀ c∈l,jI c=0) (h4:kH l<=40):SfR (N+40) (exE r t l).1:=by
 by_cases h0:(jb r.2.2.2.2.2.length (r.2.1,t,[]) (q9 l)).2=0
 ·rw[ex_ok h0]
  have hk:=tki_all (bb:=r.2.2.2.2.2.length) (m:=(r.2.1,t,[])) (unr_chk hw hc)
  have hl:=(wf_unr_len hw hc).1
  generalize jb r.2.2.2.2.2.length (r.2.1,t,[]) (q9 l)=T at hk ⊢
  obtain⟨q,k1,k2,k3,k4,k5,k6⟩:=hk
  obtain⟨g1,g2,g3,g4,g5,g6⟩:=h
  simp only[zW] at k1
  simp only at k2 k3 k5
  refine⟨?_,?_,?_,?_,?_,g6⟩
  ·show Z6 idl (r.2.2.2.2.2++T.1.2.2)=(T.1.1,true)
   rw[fold_app g1,k1,k2]
  ·show 0<=T.1.2.1
   omega
  ·show List.Pairwise _ (r.2.2.2.2.2++T.1.2.2)
   rw[k1]
   refine List.pairwise_append.2 ⟨g3,k4,fun x hx y hy=>?_⟩
   have:=g4 x hx
   have:=k5 y hy
   omega
  ·show ∀ x∈r.2.2.2.2.2++T.1.2.2,x.1<=T.1.2.1
   intro x hx
   rw[k1] at hx
   rcases zI.1 hx with hx|hx
   ·have:=g4 x hx;omega
   exact (k5 x hx).2
  show (r.2.2.2.2.2++T.1.2.2).length<=N+40
  rw[k1,za]
  omega
 rw[ex_no h0];exact h.up
theorem sf_eff {N:Nat} {r:Reg} {e:Ev} (h:SfR N r) (hv:jp e=0) (hs:shE e=true) (hu:¬e.2.1=Z5) (ht:r.1<=evI e 0):SfR (N+40) (ZB r e).1:=by
 have nil:∀ x∈([]:List Tgt),qV x.name=true:=fun x hx=>by cases hx
 rcases ve_kind hv hu with hk|hk|hk|hk|hk
 ·rw[eff_tar hk]
  by_cases h0:tgX r e=0
  ·rw[tg_ok h0]
   refine sf_at h ht fun x hx=>?_
   rw[zg.1 hx]
   exact (ve_all hv).2.2.2.1 _ (getD_mem (z:=[]) (by have:=len_tar hv hk;omega))
  rw[tg_no h0];exact h.up
 ·rw[eff_act hk]
  exact sf_ex h ht (act_wf _) (act_chk (evN_chk hv (by have:=len_act hv hk;omega))) (by show (0:Int)+1<=40;decide)
 ·rw[eff_run hk]
  by_cases h0:(qY ZP e.2.2.2.2).2.2=0
  ·rw[ru_ok h0]
   refine sf_ex h ht (parScr_wf _ _) (jL _ _).2 ?_
   have ht:=(ve_all hv).2.2.2.2.2
   have h1:=hs
   unfold shE at h1
   cases hc:shC e
   ·rw[hc] at h1
    cases hn:shN e
    ·rw[hn] at h1;cases h1
    rw[hn] at h1
    have h2:shR e=true:=h1
    unfold shR at h2
    rw[zl hk,ht] at h2
    rw[par_same]
    simpa using h2
   rw[hc] at h1;cases h1
  rw[ru_no h0];exact h.up
 ·rw[eff_obs hk]
  by_cases h0:obX r e=0
  ·rw[ob_ok h0]
   have:=sf_at h ht nil (b:=r.2.2.2.1++[evN e]) (c:=r.2.2.2.2.1)
   rwa [zS] at this
  rw[ob_no h0];exact h.up
 rw[eff_cal hk]
 have key:∀ f,SfR (N+40) (caF r e f):=fun f=>by
  have:=sf_at h ht nil (b:=r.2.2.2.1) (c:=r.2.2.2.2.1++[(evN e,(caL r e).1+1,f)])
  rwa [zS] at this
 by_cases h0:caX r e=0
 ·by_cases h1:evI e 1<(caL r e).1
  ·by_cases h2:caY r e=0
   ·rw[ca_mrg h0 h1 h2];exact key _
   rw[ca_con h0 h1 h2];exact h.up
  rw[ca_new h0 h1];exact key _
 rw[ca_no h0];exact h.up
def SfC (C:List Ev):Prop:=∀ k,k<=C.length->SfR (40*k) (qZ (C.take k))
theorem sf_nil:SfC []:=fun k hk=>by
 have:k=0:=by simpa using hk
 subst this
 exact⟨rfl,Int.le_refl _,.nil,(fun x hx=>by cases hx),zz _,(fun x hx=>by cases hx)⟩
theorem sf_new {n:Nat} {C:List Ev} {e:Ev} (h:SfC C) (hv:jp e=0) (hs:shE e=true) (ha:(jQ n C e).2=0):SfC (newC C e):=by
 intro k hk
 by_cases hu:e.2.1=Z5
 ·rw[new_und hu] at hk ⊢
  rw[zn] at hk
  rw[List.take_take,show min k (C.length-1)=k by omega]
  exact h k (by omega)
 rw[new_add hu] at hk ⊢
 rw[za,qb] at hk
 by_cases h1:k<=C.length
 ·rw[zK h1];exact h k h1
 rw[zx (by simp;omega),regF_snoc]
 have h2:=h C.length (zz _)
 rw[List.take_length] at h2
 have:=sf_eff h2 hv hs hu (ay_yes ha hu).2
 rwa [show k=C.length+1 by omega]
theorem cg_app:∀ (a:List Ev) (n:Nat) (C b:List Ev),(cntG n C a).2.2=0->cntG n C (a++b)=cntG (n+a.length) (cntG n C a).1 b
 | [],n,C,b,_=>rfl
 | x::a,n,C,b,h=>by
  rw[zQ]
  by_cases h1:jp x=0
  ·by_cases h2:(jQ n C x).2=0
   ·rw[cg_c3 h1 h2] at h
    rw[cg_c3 h1 h2,cg_c3 h1 h2,cg_app a _ _ b h,zb,show n+(a.length+1)=n+1+a.length by omega]
   rw[cg_c2 h1 h2] at h;exact absurd h h2
  rw[cg_c1 h1] at h;exact absurd h h1
theorem cg_pre:∀ (a:List Ev) (n:Nat) (C b:List Ev),(cntG n C (a++b)).2.2=0->(cntG n C a).2.2=0
 | [],n,C,b,_=>rfl
 | x::a,n,C,b,h=>by
  rw[zQ] at h
  by_cases h1:jp x=0
  ·by_cases h2:(jQ n C x).2=0
   ·rw[cg_c3 h1 h2] at h ⊢
    exact cg_pre a _ _ b h
   rw[cg_c2 h1 h2] at h;exact absurd h h2
  rw[cg_c1 h1] at h;exact absurd h h1
abbrev cK (l:List Ev) (k:Nat):List Ev:=(cntF (l.take k)).1
section
variable {l:List Ev} (hb:(cntF l).2.2=0)
include hb
theorem ck_z (k:Nat):(cntF (l.take k)).2.2=0:=cg_pre (l.take k) 0 [] (l.drop k) (by rw[List.take_append_drop];exact hb)
theorem ck_rp (k:Nat):rpF (l.take k)=(qZ (cK l k),0,0):=rp_ok (ck_z hb k)
theorem ck_next {k:Nat} (hk:k<l.length):jp (l.getD k zV)=0/\(jQ k (cK l k) (l.getD k zV)).2=0/\cK l (k+1)=newC (cK l k) (l.getD k zV):=by
 have h0:=ck_z hb (k+1)
 have e:cntF (l.take (k+1))=cntG k (cK l k) [l.getD k zV]:=by
  rw[<-take_gx zV hk]
  show cntG 0 [] _=_
  rw[cg_app _ _ _ _ (ck_z hb k),Nat.zero_add,zn,Nat.min_eq_left (by omega)];rfl
 rw[e] at h0
 by_cases h1:jp (l.getD k zV)=0
 ·by_cases h2:(jQ k (cK l k) (l.getD k zV)).2=0
  ·refine⟨h1,h2,?_⟩
   show (cntF (l.take (k+1))).1=_
   rw[e,cg_c3 h1 h2];rfl
  rw[cg_c2 h1 h2] at h0;exact absurd h0 h2
 rw[cg_c1 h1] at h0;exact absurd h0 h1
theorem ck_ok (k:Nat):CntOk k (cK l k):=by
 have:=cntF_ok (l.take k)
 exact⟨by have:=this.1;rw[zn] at this;show (cntF _).1.length<=k;omega,this.2⟩
theorem ck_sf (hs:∀ e∈l,shE e=true):∀ k,k<=l.length->SfC (cK l k)
 | 0,_=>sf_nil
 | k+1,hk=>by
  obtain⟨h1,h2,h3⟩:=ck_next hb (k:=k) (by omega)
  rw[h3]
  exact sf_new (ck_sf hs k (by omega)) h1 (hs _ (getD_mem (z:=zV) (by omega))) h2
theorem ck_reg (hs:∀ e∈l,shE e=true) {k:Nat} (hk:k<=l.length):SfR (40*k) (qZ (cK l k)):=by
 have h:=ck_sf hb hs k hk _ (zz _)
 rw[List.take_length] at h
 have h2:=(ck_ok hb k).1
 exact⟨h.1,h.2.1,h.2.2.1,h.2.2.2.1,qi h.2.2.2.2.1 (Nat.mul_le_mul_left 40 h2),h.2.2.2.2.2⟩
theorem ck_still {k:Nat} (hk:k<l.length) (h1:¬(l.getD k zV).2.1=jV) (h2:¬(l.getD k zV).2.1=ZN):(qZ (cK l (k+1))).2.1=(qZ (cK l k)).2.1/\(qZ (cK l (k+1))).2.2.2.2.2=(qZ (cK l k)).2.2.2.2.2:=by
 have key:∀ (r:Reg) (e:Ev),jp e=0->¬e.2.1=Z5->¬e.2.1=jV->¬e.2.1=ZN->(ZB r e).1.2.1=r.2.1/\(ZB r e).1.2.2.2.2.2=r.2.2.2.2.2:=by
  intro r e hv hu ha hr
  rcases ve_kind hv hu with hk|hk|hk|hk|hk
  ·rw[eff_tar hk,tgE];split<;>exact⟨rfl,rfl⟩
  ·exact absurd hk ha
  ·exact absurd hk hr
  ·rw[eff_obs hk,obE];split<;>exact⟨rfl,rfl⟩
  rw[eff_cal hk,caE]
  split
  ·exact⟨rfl,rfl⟩
  split
  ·split<;>exact⟨rfl,rfl⟩
  exact⟨rfl,rfl⟩
 obtain⟨hv,ha,e⟩:=ck_next hb hk
 rw[e]
 by_cases hu:(l.getD k zV).2.1=Z5
 ·have hp:=ap_pos ha hu
  have hz:qF (bif (decide (lastK (cK l k)=jV)) then true else (decide (lastK (cK l k)=ZN))) 18=0:=by
   by_cases hq:(l.getD k zV).1≠((k:Nat):Int)+1
   ·rw[ap_ord hq] at ha;cases ha
   rw[ap_und hq hu (by omega)] at ha;exact ha
  have hz:=when_zero (by decide) hz
  rw[jA,qc,zH,zH] at hz
  rw[new_und hu]
  have hm:=(ck_ok hb k).2 _ (getD_mem (z:=zV) (k:=(cK l k).length-1) (by omega))
  have:=key (qZ ((cK l k).take ((cK l k).length-1))) _ hm.1 hm.2 hz.1 hz.2
  rw[<-regF_snoc,take_gx zV (by omega),show (cK l k).length-1+1=(cK l k).length by omega,List.take_length] at this
  exact⟨this.1.symm,this.2.symm⟩
 rw[new_add hu,regF_snoc]
 exact key _ _ hv hu h1 h2
theorem ck_sts (k:Nat):(qZ (cK l k)).2.1∈sts:=(regF_ok (ck_ok hb k)).1
theorem ck_obs {k:Nat} (hk:k<l.length) (h1:(l.getD k zV).2.1=kObs):(qZ (cK l k)).2.1.1=jg:=by
 obtain⟨hv,ha,_⟩:=ck_next hb hk
 have hu:¬(l.getD k zV).2.1=Z5:=by rw[h1];decide
 rw[(ay_yes ha hu).1,rf_obs h1,obX_eq (ck_sts hb k)] at ha
 split at ha
 ·cases ha
 split at ha
 ·cases ha
 split at ha
 ·cases ha
 rename_i h;simpa using h
end
theorem sf_pair {l:List Stp} (h:l.Pairwise fun a b=>a.1<=b.1) {k:Nat} (hk:k<l.length) (h0:0<k):(l.getD (k-1) (0,[])).1<=(l.getD k (0,[])).1:=by
 have:=List.pairwise_iff_getElem.1 h (k-1) k (by omega) hk (by omega)
 rw[ze,ze,zm hk,zm (show k-1<l.length by omega)]
 exact this
def permP (s:LSt):List (List UInt8):=ju.filter fun a=>decide ((Zu s a).2=0)
theorem prm_any {s:LSt} {a:List UInt8} (ha:a∈ju):((permP s).any fun y=>decide (y=a))=decide ((Zu s a).2=0):=by
 rw[zM,List.any_eq_true,zf]
 constructor
 ·rintro⟨x,hx,e⟩
  rw[zf] at e
  subst e
  simpa using (List.mem_filter.1 hx).2
 intro h
 exact⟨a,List.mem_filter.2 ⟨ha,by simpa using h⟩,by simp⟩
abbrev nxE (l:List Ev) (k n:List UInt8) (t:Int):Ev:=(((l.length:Nat):Int)+1,k,[n],[t],[])
theorem nx_chk {l:List Ev} {k n:List UInt8} {t:Int} (hl:l.length<=999) (hk:k=jV\/k=kObs) (hn:qV (bsO n)=true) (ht:0<=t/\t<=999999999):jp (nxE l k n t)=0:=by
 have h1:qG (((l.length:Nat):Int)+1) 1 1000=0:=by
  have:Zw (((l.length:Nat):Int)+1) 1 1000=false:=by
   unfold Zw
   rw[qc]
   exact⟨zk (by omega),zk (by omega)⟩
  unfold qG
  rw[this];rfl
 have h2:namE [n]=0:=by simp[namE,hn]
 have h3:valE [t]=0:=by
  have:Zw t 0 999999999=false:=by
   unfold Zw
   rw[qc]
   exact⟨zk (by omega),zk (by omega)⟩
  simp[valE,this]
 unfold jp
 show qP [qG (((l.length:Nat):Int)+1) 1 1000,_,_,namE [n],valE [t],_]=0
 rw[h1,h2,h3]
 rcases hk with rfl|rfl<;>rfl
theorem nx_acc {l:List Ev} {k n:List UInt8} {t:Int} (hb:(cntF l).2.2=0) (hl:l.length<=999) (hk:k=jV\/k=kObs) (hn:qV (bsO n)=true) (h0:0<=t) (ht:t<=999999999) (hr:(qZ (cntF l).1).1<=t):accF l (nxE l k n t)=(ZB (qZ (cntF l).1) (nxE l k n t)).2:=by
 have hq:accQ l (nxE l k n t)=0:=by
  unfold accQ
  rw[nx_chk hl hk hn ⟨h0,ht⟩,zk (by omega)];rfl
 rw[ac_yes hb hq,ap_eff (by simp) (fun h=>by
  rcases hk with rfl|rfl
  ·exact absurd h (show ¬jV=Z5 by decide)
  exact absurd h (show ¬kObs=Z5 by decide)) (by show ¬t<_;omega)]
section
variable {l:List Ev} {t:Int} (hb:(cntF l).2.2=0) (hs:∀ e∈l,shE e=true) (hl:l.length<=16) (h0:0<=t) (ht:t<=999999999) (hr:(qZ (cntF l).1).1<=t)
include hb hs hl h0 ht hr
theorem nx_act {a:List UInt8} (ha:a∈ju):decide (accF l (nxE l jV a t)=0)=(permP (qZ (cntF l).1).2.1).any fun y=>decide (y=a):=by
 have hn:qV (bsO a)=true:=(show ∀ x∈ju,qV (bsO x)=true by decide +kernel) a ha
 have hz:=ck_reg hb hs (zz l.length)
 rw[show cK l l.length=(cntF l).1 by rw[cK,List.take_length]] at hz
 rw[prm_any ha,nx_acc hb (by omega) (.inl Z) hn h0 ht hr,eff_act Z]
 have hz5:=hz.2.2.2.2.1
 show decide ((exE _ t [(jV,a,0)]).2=0)=_
 have e:jb (qZ (cntF l).1).2.2.2.2.2.length ((qZ (cntF l).1).2.1,t,[]) (q9 [(jV,a,0)])=ZD (qZ (cntF l).1).2.2.2.2.2.length ((qZ (cntF l).1).2.1,t,[]) (jV,a,0):=by
  show jb _ _ [(jV,a,0)]=_
  by_cases hq:(ZD (qZ (cntF l).1).2.2.2.2.2.length ((qZ (cntF l).1).2.1,t,[]) (jV,a,0)).2=0
  ·rw[taks_ok hq,taks_nil];exact Prod.ext Z hq.symm
  rw[taks_bad hq]
 have e2:(ZD (qZ (cntF l).1).2.2.2.2.2.length ((qZ (cntF l).1).2.1,t,[]) (jV,a,0)).2=(Zu (qZ (cntF l).1).2.1 a).2:=by
  rw[ZD,if_neg (show ¬jV=Z7 by decide),if_neg (by show ¬1000<=_+0;omega)]
  split
  ·rfl
  rename_i h;exact (zi.1 h).symm
 rw[<-e2,<-e]
 by_cases hq:(jb (qZ (cntF l).1).2.2.2.2.2.length ((qZ (cntF l).1).2.1,t,[]) (q9 [(jV,a,0)])).2=0
 ·rw[ex_ok hq,hq]
 rw[ex_no hq]
theorem nx_obs {x:Tgt} {n:List UInt8} (hx:x∈(qZ (cntF l).1).2.2.1) (hn:x.name=bsO n):decide (accF l (nxE l kObs n t)=0)=(bif movP (qZ (cntF l).1).2.1 then !((qZ (cntF l).1).2.2.2.1.any fun y=>decide (y=n)) else false):=by
 have hz:=ck_reg hb hs (zz l.length)
 have hst:=ck_sts hb l.length
 rw[show cK l l.length=(cntF l).1 by rw[cK,List.take_length]] at hz hst
 have hnm:qV (bsO n)=true:=by rw[<-hn];exact hz.2.2.2.2.2 x hx
 rw[nx_acc hb (by omega) (.inr Z) hnm h0 ht hr,rf_obs Z,obX_eq hst,movP_ok (st_chk _ hst)]
 have hf:¬kI (fun o=>decide (Tgt.name o=bsO (evN (nxE l kObs n t)))) (qZ (cntF l).1).2.2.1<0:=by
  intro h
  have h1:((qZ (cntF l).1).2.2.1.any fun o=>decide (o.name=bsO (evN (nxE l kObs n t))))=true:=by
   rw[List.any_eq_true]
   exact⟨x,hx,by simpa using hn⟩
  rw[<-findI_nonneg_t] at h1
  omega
 rw[if_neg hf]
 show decide ((if ((qZ (cntF l).1).2.2.2.1.any fun y=>decide (y=n))=true then (9:Int) else _)=0)=_
 cases (qZ (cntF l).1).2.2.2.1.any fun y=>decide (y=n)<;>by_cases h:(qZ (cntF l).1).2.1.1=jg<;>simp[h]
end
end Go.Lens.Tm
end
section
namespace Go.Lens.Tm
open Go.Lens.Tb Go.Proofs
variable [Lz]
set_option maxHeartbeats 4000000
set_option maxRecDepth 100000
attribute [local irreducible] TK PK T RG EfR Body CG
def permN:List FuncId:=[222,224,225,226,227,229,231,234,236,238,240]
abbrev rowP (s:LSt):Prop:=(permN.map fun f=>orc 60 f 0 [stD s] [])=ju.map fun a=>some (.pv (.lit (.bool (decide ((Zu s a).2=0)))),[])
theorem pw_0:rowP (ZT,0,false,false):=by unfold rowP;kernel_rfl
theorem pw_1:rowP (ZT,0,false,true):=by unfold rowP;kernel_rfl
theorem pw_2:rowP (ZT,0,true,false):=by unfold rowP;kernel_rfl
theorem pw_3:rowP (ZT,0,true,true):=by unfold rowP;kernel_rfl
theorem pw_4:rowP (mOpen,0,false,false):=by unfold rowP;kernel_rfl
theorem pw_5:rowP (mOpen,0,true,false):=by unfold rowP;kernel_rfl
theorem pw_6:rowP (jg,0,false,false):=by unfold rowP;kernel_rfl
theorem pw_7:rowP (jg,1,false,false):=by unfold rowP;kernel_rfl
theorem pw_8:rowP (jg,2,false,false):=by unfold rowP;kernel_rfl
theorem pw_9:rowP (mSafe,0,false,false):=by unfold rowP;kernel_rfl
theorem pw_10:rowP (mSafe,0,false,true):=by unfold rowP;kernel_rfl
theorem pw_11:rowP (mSafe,0,true,false):=by unfold rowP;kernel_rfl
theorem pw_12:rowP (mSafe,0,true,true):=by unfold rowP;kernel_rfl
theorem pw_all:∀ s∈sts,rowP s:=(zG.2 ⟨pw_0,(zG.2 ⟨pw_1,(zG.2 ⟨pw_2,(zG.2 ⟨pw_3,(zG.2 ⟨pw_4,(zG.2 ⟨pw_5,(zG.2 ⟨pw_6,(zG.2 ⟨pw_7,(zG.2 ⟨pw_8,(zG.2 ⟨pw_9,(zG.2 ⟨pw_10,(zG.2 ⟨pw_11,(zG.2 ⟨pw_12,(fun _ h=>nomatch h)⟩)⟩)⟩)⟩)⟩)⟩)⟩)⟩)⟩)⟩)⟩)⟩)⟩)
theorem perm_at (hp:qH) (hm:HMa) {s:LSt} (hs:s∈sts) {k:Nat} (hk:k<kA.length):∃ F,Prod.fst (kA.getD k zA).2=.fn (.func F) [] []/\CKa F [.pv (gS s)] (vB (decide ((Zu s (ju.getD k [])).2=0))):=by
 have h:=pw_all s hs
 have hk:k<11:=hk
 refine⟨permN.getD k 0,?_,?_⟩
 ·rcases (show k=0\/k=1\/k=2\/k=3\/k=4\/k=5\/k=6\/k=7\/k=8\/k=9\/k=10 by omega) with rfl|rfl|rfl|rfl|rfl|rfl|rfl|rfl|rfl|rfl|rfl<;>rfl
 refine orc_ok hp hm 60 _ 0 _ _ _ _ ?_
 have h2:=congrArg (fun l=>l[k]?) h
 simp only[qf] at h2
 rw[ze,ze]
 rw[zm (show k<permN.length from hk),zm (show k<ju.length from hk)] at h2 ⊢
 exact Option.some.inj h2
section
variable {s:LSt} {k:Nat} {out:List (List UInt8)}
theorem an_at (hk:k<kA.length):Prod.fst (kA.getD k zA)=ju.getD k []:=by
 have hk:k<11:=hk
 rcases (show k=0\/k=1\/k=2\/k=3\/k=4\/k=5\/k=6\/k=7\/k=8\/k=9\/k=10 by omega) with rfl|rfl|rfl|rfl|rfl|rfl|rfl|rfl|rfl|rfl|rfl<;>rfl
def permK (s:LSt) (k:Nat):List (List UInt8):=(ju.take k).filter fun a=>decide ((Zu s a).2=0)
theorem pk_next (hk:k<kA.length):permK s (k+1)=permK s k++(if (Zu s (ju.getD k [])).2=0 then [ju.getD k []] else []):=by
 unfold permK
 rw[<-take_gx [] (show k<ju.length from hk),List.filter_append]
 congr 1
 generalize ju.getD k []=a
 by_cases h:(Zu s a).2=0<;>simp[List.filter,h]
theorem pk_yes (hI:out=permK s k) (hk:k<kA.length) (h:(Zu s (ju.getD k [])).2=0):out++[Prod.fst (kA.getD k zA)]=permK s (k+1):=by rw[pk_next hk,if_pos h,an_at hk,hI]
theorem pk_no (hI:out=permK s k) (hk:k<kA.length) (h:¬(Zu s (ju.getD k [])).2=0):out=permK s (k+1):=by rw[pk_next hk,if_neg h,hI,zS]
theorem pk_end (hI:out=permK s k) (hk:¬k<kA.length):out=permP s:=by rw[hI,permK,zx (show ju.length<=k from Nat.not_lt.1 hk)];rfl
theorem pk_len (hI:out=permK s k):out.length<=11:=by
 rw[hI,permK]
 refine qi (List.length_filter_le _ _) ?_
 rw[zn]
 have:ju.length=11:=rfl
 omega
end
theorem w62:CKa 62 [] (.pv (.agg [pS (bsO [105,100,108,101]),pI 0,pB false,pB false])):=by
 exact cG qf62 Z (nB Z) Z (Rt Z (leaf Z Z))
theorem w63 (hp:qH) (hm:HMa) (s:LSt) (l:List Stp) (hs:s∈sts) (hl:l.length<=1000000000):CKa 63 [.pv (gS s),vL eP l] (.tup [.pv (gS (Z6 s l).1),vB (Z6 s l).2]):=by
 refine cG qf63 Z (nB Z) Z (E Z (B.jh Z un86) (l2 (fun (k:Nat) (a:LSt)=>[(2,.bref 3 0),(4,.bref 5 0),(10,vL eP l),(11,vI l.length),(12,vI k)]) (fun _ a=>[(3,bS a),(5,.box 81 [vS (bsO []),vI 0,vB false,vB false])]) (fun k a=>k<=l.length/\a∈sts/\Z6 s l=Z6 a (List.drop k l)) (fun k _=>l.length-k) 0 s Z ?_ (sb Z Z Z) ?_))
 · exact⟨zq _,hs,rfl⟩
 intro k a hI0
 refine Cp Z Z (fun h1=>?_) (fun h1=>?_)
 ·refine E Z (B.idx (z:=(0,[])) (i:=k) Z Z un86 sz164 (fun _=>rfl) Z (by omega)) (C Z (w139 hp hm hI0.2.1 (l.getD k (0,[])).2) Z Z Z (Cp Z Z (fun h2=>?_) (fun h2=>?_)))
  ·exact Rt Z (leaf (val0:=.tup [.pv (gS a),vB false]) (by kernel_rfl) (tup2 (lag (q5 (pls (by rw[hI0.2.2,fold_bad (by omega) h2])) (q5 (pli (by rw[hI0.2.2,fold_bad (by omega) h2])) (q5 (plb (by rw[hI0.2.2,fold_bad (by omega) h2])) (q5 (plb (by rw[hI0.2.2,fold_bad (by omega) h2])) Z))))) (lb (by rw[hI0.2.2,fold_bad (by omega) h2]))))
  refine E Z (B.add Z Z (by unfold R64;omega)) (pk Z (L2 (k+1) (Zu a (l.getD k (0,[])).2).1 ?_ ?_ (sb Z Z Z)))
  · exact⟨by omega,act_valid hI0.2.1 (zi.1 h2),by rw[hI0.2.2,fold_next (by omega) h2]⟩
  · omega
 exact Rt Z (leaf (val0:=.tup [.pv (gS a),vB true]) (by kernel_rfl) (tup2 (lag (q5 (pls (by rw[hI0.2.2,fold_end (by omega)])) (q5 (pli (by rw[hI0.2.2,fold_end (by omega)])) (q5 (plb (by rw[hI0.2.2,fold_end (by omega)])) (q5 (plb (by rw[hI0.2.2,fold_end (by omega)])) Z))))) (lb (by rw[hI0.2.2,fold_end (by omega)]))))
theorem w86 (hp:qH) (hm:HMa) (s:LSt) (hs:s∈sts):CKa 86 [.pv (gS s)] (.tup [vL eN (permP s),vI 0]):=by
 refine cG qf86 Z (nB Z) Z (E Z (B.j8 (enc:=eN) Z) (C Z (w123 s) Z Z Z (Cp Z Z (fun h1=>?_) (fun h1=>?_))))
 ·exact absurd (st_chk s hs) h1
 refine E Z (B.adopt 6 1 9 Z Z) (E Z (B.kU (l:=[]) (w161 hp hm) Z Z trivial Z Z) (E Z (B.lenA Z Z un282) (l3 (fun (k:Nat) (v:Nat) (out:List (List UInt8))=>[(1,.bref 2 0),(5,.aref 6 v),(13,.aref 2018 0),(14,vI kA.length),(15,vI k)]) (fun _ v out=>[(2,bS s),(6,.arr v 1 9 (List.map eN out)),(2018,.arr 0 3 287 (List.map eA kA))]) (fun k _ out=>k<=kA.length/\out=permK s k) (fun k _ _=>kA.length-k) 0 0 [] Z ?_ (sb Z Z Z) ?_)))
 · exact⟨zq _,rfl⟩
 intro k v out hI0
 have hol:=pk_len hI0.2
 refine Cp Z Z (fun h2=>?_) (fun h2=>?_)
 ·refine E Z (B.idxE (n:=k) Z Z Z un282 sz287 Z (by have hz:kA.length=11:=rfl;omega)) (E Z (B.loadEA (enc:=eA) (l:=kA) (n:=k) (z0:=zA) Z Z ag287 sz287 (by have hz:kA.length=11:=rfl;omega) Z) ?_)
  refine tk 8 Z ?_
  refine tn ⟨[(1,.bref 2 0),(5,.aref 6 v),(7,.bref 8 0),(13,.aref 2018 0),(14,vI kA.length),(15,vI k)],[(2,bS s),(6,.arr v 1 9 (List.map eN out)),(8,.box 287 [vS (bsO (kA.getD k zA).1),.pv ((kA.getD k zA).2.1),.pv ((kA.getD k zA).2.2)]),(2018,.arr 0 3 287 (List.map eA kA))]⟩ rfl rfl Z ?_
  obtain⟨F,hF,hC⟩:=perm_at hp hm hs (k:=k) (by omega)
  rw[hF]
  refine kc (C Z (hC) Z Z Z (Cp Z Z (fun h3=>?_) (fun h3=>?_)))
  ·refine E Z (B.jj (val:=.pv (.slice (List.map eN [(kA.getD k zA).1]))) Z (fun l=>Frz.arr l _ _ _ _ _) Z) (E Z (B.append Z Z Z ji in9 Z (fun _=>rfl) by9 (by have hz:kA.length=11:=rfl;(simp only[za,zb,zd];omega))) (E Z (B.add Z Z (by have hz:kA.length=11:=rfl;unfold R64;omega)) (pk Z (L3 (k+1) (v+1) (out++[(kA.getD k zA).1]) ?_ ?_ (sb Z Z Z)))))
   · exact⟨by omega,pk_yes hI0.2 (by omega) h3⟩
   · omega
  refine E Z (B.add Z Z (by have hz:kA.length=11:=rfl;unfold R64;omega)) (pk Z (L3 (k+1) v out ?_ ?_ (sb Z Z Z)))
  · exact⟨by omega,pk_no hI0.2 (by omega) h3⟩
  · omega
 exact Fz 9999 2 Z Z Z (Rt Z (leaf (val0:=.tup [vL eN out,vI 0]) (by kernel_rfl) (tup2 (lsl (by rw[pk_end hI0.2 (by omega)])) (rfl))))
end Go.Lens.Tm
end
section
namespace Go.Lens.Tm
open Go.Lens.Tb Go.Proofs
variable [Lz]
set_option maxRecDepth 100000
attribute [local irreducible] TK PK T RG EfR Body CG
theorem fq81:flatEq tab 81=some [.string,.int (.i64),.bool,.bool]:=by kernel_rfl
theorem bsO_ex (a:ByteArray):∃ n,a=bsO n:=⟨a.data.toList,rfl⟩
theorem rp_zero {l:List Ev} (h:¬Prod.snd (rpF l).2≠0):Prod.snd (cntF l).2=0:=by
 by_cases hb:(cntF l).2.2=0
 ·exact hb
 rw[rp_no hb] at h;exact absurd hb h
theorem pm_len (s:LSt):(permP s).length<=11:=by
 unfold permP
 exact List.length_filter_le _ _
theorem nx_evs (l:List Ev) (k n:List UInt8) (t:Int):EvS (nxE l k n t):=⟨zq _,by show (1:Nat)<=_;omega,by show (1:Nat)<=_;omega⟩
section
variable {l:List Ev} (hb:(cntF l).2.2=0) (hsh:∀ e∈l,shE e=true)
include hb
theorem w80k (hp:qH) (he:je) (hm:HMa) (hj:jE) (hj2:jl) (hl:l.length<=1000) (hZ:∀ e∈l,EvS e) (k:Nat):CKa 80 [vL eE (l.take k)] (.tup [.pv (gR (qZ (cK l k))),vI 0,vI 0]):=by
 have h:=w80 hp he hm hj hj2 (l.take k) (by rw[zn];omega) fun e hx=>hZ e (zr hx)
 rwa [ck_rp hb k] at h
theorem ck_len (k:Nat) (hl:l.length<=16) (hk:k<=l.length):((qZ (cK l k)).2.2.1.length<=1000000/\(qZ (cK l k)).2.2.2.1.length<=1000000/\(qZ (cK l k)).2.2.2.2.1.length<=1000000/\(qZ (cK l k)).2.2.2.2.2.length<=1000):=(ro_len (regF_ok (ck_ok hb k)) (by omega)).1
include hsh
theorem w63k (hp:qH) (hm:HMa) (hl:l.length<=16) {k:Nat} (hk:k<=l.length):CKa 63 [.pv (gS idl),vL eP (qZ (cK l k)).2.2.2.2.2] (.tup [.pv (gS (qZ (cK l k)).2.1),vB true]):=by
 have h:=w63 hp hm idl (qZ (cK l k)).2.2.2.2.2 (by decide) (by have:=(ck_len hb k hl hk).2.2.2;omega)
 rwa [(ck_reg hb hsh hk).1] at h
theorem sf_td {k j:Nat} (hk:k<=l.length) (hj:j<(qZ (cK l k)).2.2.2.2.2.length) (h:(bif decide ((qZ (cK l k)).1<((qZ (cK l k)).2.2.2.2.2.getD j (0,[])).1) then true else (bif decide (0<(j:Int)) then decide (((qZ (cK l k)).2.2.2.2.2.getD j (0,[])).1<((qZ (cK l k)).2.2.2.2.2.getD (j-1) (0,[])).1) else false))=true):False:=by
 have hr:=ck_reg hb hsh hk
 have h1:=hr.2.2.2.1 _ (getD_mem (z:=(0,[])) hj)
 rw[zk (show ¬(qZ (cK l k)).1<_ by omega),cond_false] at h
 by_cases h0:0<j
 ·have h2:=sf_pair hr.2.2.1 hj h0
  rw[zk (show ¬((qZ (cK l k)).2.2.2.2.2.getD j (0,[])).1<_ by omega)] at h
  cases hq:decide (0<(j:Int))<;>rw[hq] at h<;>cases h
 rw[zk (by omega)] at h;cases h
end
abbrev stE (a b:LSt):Bool:=(decide (a.1=b.1))&&((decide (a.2.1=b.2.1))&&((a.2.2.1==b.2.2.1)&&(a.2.2.2==b.2.2.2)))
theorem stE_rfl (a:LSt):stE a a=true:=by simp
theorem sf_st {l:List Ev} (hb:(cntF l).2.2=0) {k:Nat} (hk:k<l.length) (h:(bif (bif decide ((l.getD k zV).2.1≠jV) then decide ((l.getD k zV).2.1≠ZN) else false) then (bif (!(stE (qZ (cK l (k+1))).2.1 (qZ (cK l k)).2.1)) then true else (!(decide ((qZ (cK l (k+1))).2.2.2.2.2=(qZ (cK l k)).2.2.2.2.2)))) else false)=true):False:=by
 by_cases h1:(l.getD k zV).2.1=jV
 ·rw[zk (zi.2 h1)] at h;cases h
 by_cases h2:(l.getD k zV).2.1=ZN
 ·rw[zk (p:=(l.getD k zV).2.1≠ZN) (zi.2 h2)] at h
  cases hq:decide ((l.getD k zV).2.1≠jV)<;>rw[hq] at h<;>cases h
 obtain⟨e1,e2⟩:=ck_still hb hk h1 h2
 rw[e1,e2,stE_rfl,zl rfl] at h
 cases hq:(bif decide ((l.getD k zV).2.1≠jV) then decide ((l.getD k zV).2.1≠ZN) else false)<;>rw[hq] at h<;>cases h
theorem sf_ob {l:List Ev} (hb:(cntF l).2.2=0) {k:Nat} (hk:k<l.length) (h:(bif decide ((l.getD k zV).2.1=kObs) then decide ((qZ (cK l k)).2.1.1≠jg) else false)=true):False:=by
 by_cases h1:(l.getD k zV).2.1=kObs
 ·rw[zk (p:=(qZ (cK l k)).2.1.1≠jg) (zi.2 (ck_obs hb hk h1))] at h
  cases hq:decide ((l.getD k zV).2.1=kObs)<;>rw[hq] at h<;>cases h
 rw[zk h1] at h;cases h
theorem w87k (hs:{s:LSt}->s∈sts->chkSt s=0) {s:LSt} (h:s∈sts):CKa 87 [.pv (gS s)] (.tup [vB (movP s),vI 0]):=by
 have:=w87 s
 rwa [hs h] at this
theorem bq_no {a b:Bool} (e:a=b) (h:(!(a==b))=true):False:=by
 subst e;simp at h
theorem nx_tm {t:Int} {b:Bool} (hb:b=false) (h:(bif (bif b then true else decide (t<0)) then true else decide (999999699<t))=false):0<=t/\t<=999999699:=by
 subst hb
 simp only[jA,qc,zH] at h
 omega
section
variable {l:List Ev} {k:Nat} {t:Int} (hb:(cntF l).2.2=0) (hsh:∀ e∈l,shE e=true) (hl:l.length<=16) (hk:¬k<l.length) (h0:0<=t) (ht:t<=999999999) (hr:(qZ (cK l k)).1<=t)
include hk
theorem ck_fin:cK l k=(cntF l).1:=by rw[cK,zx (by omega)]
include hb hsh hl h0 ht hr
theorem nk_act {a:List UInt8} (ha:a∈ju) (h:(!((decide (accF l (nxE l jV a t)=0))==((permP (qZ (cK l k)).2.1).any fun y=>decide (y=a))))=true):False:=by
 have e:=ck_fin hk
 rw[e] at hr h
 exact bq_no (nx_act hb hsh hl h0 ht hr ha) h
theorem nk_obs {x:Tgt} {n:List UInt8} (hx:x∈(qZ (cK l k)).2.2.1) (hn:x.name=bsO n) (h:(!((decide (accF l (nxE l kObs n t)=0))==(bif movP (qZ (cK l k)).2.1 then !((qZ (cK l k)).2.2.2.1.any fun y=>decide (y=n)) else false)))=true):False:=by
 have e:=ck_fin hk
 rw[e] at hr h hx
 exact bq_no (nx_obs hb hsh hl h0 ht hr hx hn) h
end
theorem fa164_0:fadQ tab 164 0=some 0:=by kernel_rfl
set_option maxHeartbeats 4000000 in
theorem w15 (ha:CKa 19 [] (.pv (.lit (.bool true)))) (hp:qH) (he:je) (hm:HMa) (hj:jE) (hj2:jl) (l:List Ev) (t:Int) (hlb:l.length<=1000000000000000) (ht0:0<=t) (ht1:t<=255):CKa 15 [vL eE l,.pv (.lit (.int .u8 t))] (vB true):=by
 refine cG qf15 Z (nB Z) Z (C Z (w65l l 16 hlb) Z Z Z (Cb Z Z (fun h1=>?_) (fun h1=>?_)))
 ·exact C Z (ha) Z Z Z (Rt Z (leaf Z Z))
 have hq1:=shl_all h1
 have hl:l.length<=16:=by have:=hq1.1;omega
 have hsh:=hq1.2
 have hZ:∀ e∈l,EvS e:=fun x hx=>sh_evs (hsh x hx)
 refine C Z (w73 hp he hm hj hj2 l (by omega) hZ) Z Z Z (E Z (B.jj Z (fun l=>Frz.boxN l Z) Z) (Cp Z Z (fun h2=>?_) (fun h2=>?_)))
 ·exact C Z (ha) Z Z Z (Rt Z (leaf Z Z))
 have hb:=rp_zero h2
 refine E Z (B.call (q6.nz (ds:=[.nils]) (w80k hb hp he hm hj hj2 (by omega) hZ 0) Z) Z Z Z) (E Z (B.jj Z (fun l=>Frz.boxN l Z) Z) (Eg Z Z (fun hc=>B.Z9 Z fa154_1 Z) Z (Eg Z Z (fun hc=>B.loadBA (qy Z hc) Z Z ag81 sz81 Z Z) Z (Eg Z Z (fun hc=>B.call (w62) Z Z Z) Z (Eg Z Z (fun hc=>B.stqN (qy Z hc) (qy Z hc) fq81 (Zj eqv_s (Zj eqv_i (Zj eqv_b (eqv_last eqv_b))))) Z (E Z (B.pick Z Z Z Z (gdB Z) (q7 _)) (Eg Z Z (fun hc=>B.Z9 Z fa154_5 Z) Z (Eg Z Z (fun hc=>B.jP (qy Z hc) Z Z ag86 sz86 Z) Z (Eg Z Z (fun hc=>B.jh (qy Z hc) un86) Z (Eg Z Z (fun hc=>B.neq (qy Z hc) Z) Z (E Z (B.pick Z Z Z Z (gdB Z) (q7 _)) (Dr Z (by kernel_rfl) (Cb Z Z (fun h3=>?_) (fun h3=>?_))))))))))))))
 ·exact absurd h3 (by rw[show qZ (cK l 0)=iR from rfl];decide)
 refine E Z (B.jh Z jt) (l1 (fun (k:Nat)=>[(0,vL eE l),(1,.pv (.lit (.int .u8 t))),(8,.bref 9 0),(63,vL eE l),(64,vI l.length),(65,vI k)]) (fun k=>[(9,.box 154 [vI (qZ (cK l k)).1,vS (bsO (qZ (cK l k)).2.1.1),vI (qZ (cK l k)).2.1.2.1,vB (qZ (cK l k)).2.1.2.2.1,vB (qZ (cK l k)).2.1.2.2.2,vL eT (qZ (cK l k)).2.2.1,vL eN (qZ (cK l k)).2.2.2.1,vL eD (qZ (cK l k)).2.2.2.2.1,vL eP (qZ (cK l k)).2.2.2.2.2])]) (fun k=>k<=l.length) (fun k=>l.length-k) 0 Z ?_ (sb Z Z Z) ?_)
 · exact zq _
 intro k hI0
 refine Cp Z Z (fun h4=>?_) (fun h4=>?_)
 ·have hlk:=ck_len hb k (by omega) (by omega)
  have hln:=ck_len hb (k+1) (by omega) (by omega)
  refine E Z (B.idx (z:=zV) (i:=k) Z Z jt kJ (fun _=>rfl) Z (by omega)) (E Z (B.jj Z (fun l=>Frz.boxN l Z) Z) (E Z (B.add Z Z (by unfold R64;omega)) (E Z (B.slT (j:=(k+1)) Z Z jt kJ (by omega) (by omega)) (C Z (w80k hb hp he hm hj hj2 (by omega) hZ (k+1)) Z Z Z (E Z (B.jj Z (fun l=>Frz.boxN l Z) Z) (Cp Z Z (fun h5=>?_) (fun h5=>?_)))))))
  ·exact absurd Z h5
  refine C Z (w62) Z Z Z (C Z (w63k hb hsh hp hm hl (k:=(k+1)) (by omega)) Z Z Z (Dr Z (by kernel_rfl) (Eg Z Z (fun hc=>B.loadBA Z Z Z ag81 sz81 Z Z) Z (Eg Z Z (fun hc=>B.Z9 Z fa154_1 Z) Z (Eg Z Z (fun hc=>B.loadBA (qy Z hc) Z Z ag81 sz81 Z Z) Z (Eg Z Z (fun hc=>B.stqN (qy Z hc) (qy Z hc) fq81 (Zj eqv_s (Zj eqv_i (Zj eqv_b (eqv_last eqv_b))))) Z (E Z (B.pick Z Z Z Z (gdB Z) (q7 _)) (Cb Z Z (fun h6=>?_) (fun h6=>?_)))))))))
  ·exact absurd h6 (by simp)
  refine E Z (B.jh Z un86) (l1 (fun (j:Nat)=>[(0,vL eE l),(1,.pv (.lit (.int .u8 t))),(8,.bref 9 0),(12,.bref 13 0),(13,.bref 14 0),(63,vL eE l),(64,vI l.length),(65,vI k),(97,vL eP (qZ (cK l (k+1))).2.2.2.2.2),(98,vI ((List.length (qZ (cK l (k+1))).2.2.2.2.2:Nat):Int)),(99,vI j)]) (fun _=>[(9,.box 154 [vI (qZ (cK l k)).1,vS (bsO (qZ (cK l k)).2.1.1),vI (qZ (cK l k)).2.1.2.1,vB (qZ (cK l k)).2.1.2.2.1,vB (qZ (cK l k)).2.1.2.2.2,vL eT (qZ (cK l k)).2.2.1,vL eN (qZ (cK l k)).2.2.2.1,vL eD (qZ (cK l k)).2.2.2.2.1,vL eP (qZ (cK l k)).2.2.2.2.2]),(13,.box 119 [vI (l.getD k zV).1,vS (bsO (l.getD k zV).2.1),vL eN (l.getD k zV).2.2.1,vL eI (l.getD k zV).2.2.2.1,vS (bsO (l.getD k zV).2.2.2.2)]),(14,.box 154 [vI (qZ (cK l (k+1))).1,vS (bsO (qZ (cK l (k+1))).2.1.1),vI (qZ (cK l (k+1))).2.1.2.1,vB (qZ (cK l (k+1))).2.1.2.2.1,vB (qZ (cK l (k+1))).2.1.2.2.2,vL eT (qZ (cK l (k+1))).2.2.1,vL eN (qZ (cK l (k+1))).2.2.2.1,vL eD (qZ (cK l (k+1))).2.2.2.2.1,vL eP (qZ (cK l (k+1))).2.2.2.2.2])]) (fun j=>j<=List.length (qZ (cK l (k+1))).2.2.2.2.2) (fun j=>List.length (qZ (cK l (k+1))).2.2.2.2.2-j) 0 Z ?_ (sb Z Z Z) ?_)
  · exact zq _
  intro j hI1
  refine Cp Z Z (fun h7=>?_) (fun h7=>?_)
  ·refine E Z (B.idx (z:=(0,[])) (i:=j) Z Z un86 sz164 (fun _=>rfl) Z (by omega)) (Eg Z Z (fun hc=>B.move Z) Z (Eg Z Z (fun hc=>B.gtr (qy Z hc) Z) Z (Eg Z Z (fun hc=>B.move (qy Z hc)) Z (Eg Z Z (fun hc=>B.Z9 Z fa164_0 Z) Z (Eg Z Z (fun hc=>B.jP (qy Z hc) Z Z ag3 sz3 Z) Z (Eg Z Z (fun hc=>B.Z9 Z fa154_5 Z) Z (Eg Z Z (fun hc=>B.jP (qy Z hc) Z Z ag86 sz86 Z) Z (Eg Z Z (fun hc=>B.move Z) Z (Eg Z Z (fun hc=>B.sub (qy Z hc) Z (by unfold R64;omega)) Z (Eg Z Z (fun hc=>B.idx (z:=(0,[])) (i:=(j-1)) (qy Z hc) (qy Z hc) un86 sz164 (fun _=>rfl) (by (have hc2:=hc;simp at hc2;omega)) (by omega)) Z (Eg Z Z (fun hc=>B.fadP (qy Z hc) fa164_0 Z) Z (Eg Z Z (fun hc=>B.loadP (qy Z hc) ag3 sz3) Z (Eg Z Z (fun hc=>B.lss (qy Z hc) (qy Z hc)) Z ?_)))))))))))))
   refine Eg Z Z (fun hc=>B.pick (qy Z hc) Z Z (gdB Z) Z (kr hc)) Z (E Z (B.pick Z Z Z Z (gdB Z) (q7 _)) (Dr Z (by kernel_rfl) (Cb Z Z (fun h8=>?_) (fun h8=>?_))))
   ·exact (sf_td hb hsh (by omega) (by omega) h8).elim
   refine E Z (B.add Z Z (by unfold R64;omega)) (pk Z (L1 (j+1) ?_ ?_ (sb Z Z Z)))
   · omega
   · omega
  refine E Z (B.sneB (a:=(l.getD k zV).2.1) (b:=[97,99,116]) Z Z) (Eg Z Z (fun hc=>B.Z9 Z fa119_1 Z) Z (Eg Z Z (fun hc=>B.jP (qy Z hc) Z Z ag9 sz9 Z) Z (Eg Z Z (fun hc=>B.sneB (a:=(l.getD k zV).2.1) (b:=[114,117,110]) (qy Z hc) Z) Z (E Z (B.pick Z Z Z (gdB Z) Z (qJ _)) (Eg Z Z (fun hc=>B.Z9 Z fa154_1 Z) Z (Eg Z Z (fun hc=>B.loadBA (qy Z hc) Z Z ag81 sz81 Z Z) Z (Eg Z Z (fun hc=>B.Z9 Z fa154_1 Z) Z (Eg Z Z (fun hc=>B.loadBA (qy Z hc) Z Z ag81 sz81 Z Z) Z (Eg Z Z (fun hc=>B.stqN (qy Z hc) (qy Z hc) fq81 (Zj eqv_s (Zj eqv_i (Zj eqv_b (eqv_last eqv_b))))) Z (Eg Z Z (fun hc=>B.move (qy Z hc)) Z (Eg Z Z (fun hc=>B.Z9 Z fa154_5 Z) Z (Eg Z Z (fun hc=>B.jP (qy Z hc) Z Z ag86 sz86 Z) Z (Eg Z Z (fun hc=>B.call (w51 (qZ (cK l (k+1))).2.2.2.2.2 (by omega)) Z (ds1 (qy Z hc)) Z) Z ?_)))))))))))))
  refine Eg Z Z (fun hc=>B.Z9 Z fa154_5 Z) Z (Eg Z Z (fun hc=>B.jP (qy Z hc) Z Z ag86 sz86 Z) Z (Eg Z Z (fun hc=>B.call (w51 (qZ (cK l k)).2.2.2.2.2 (by omega)) Z (ds1 (qy Z hc)) Z) Z (Eg Z Z (fun hc=>B.call (w50 (qZ (cK l (k+1))).2.2.2.2.2 (qZ (cK l k)).2.2.2.2.2 (by omega)) Z (ds2 (qy Z hc) (qy Z hc)) Z) Z (Eg Z Z (fun hc=>B.not (qy Z hc)) Z (Eg Z Z (fun hc=>B.pick (qy Z hc) Z Z Z (gdB Z) (pick_or2 hc)) Z (E Z (B.pick Z Z Z (gdB Z) Z (qJ _)) (Dr Z (by kernel_rfl) (Cb Z Z (fun h9=>?_) (fun h9=>?_)))))))))
  ·exact (sf_st hb (by omega) h9).elim
  refine E Z (B.seqB (a:=(l.getD k zV).2.1) (b:=[111,98,115,101,114,118,101]) Z Z) (Eg Z Z (fun hc=>B.Z9 Z fa154_1 Z) Z (Eg Z Z (fun hc=>B.Z9 (qy Z hc) fa81_0 Z) Z (Eg Z Z (fun hc=>B.jP (qy Z hc) Z Z ag9 sz9 Z) Z (Eg Z Z (fun hc=>B.sneB (a:=(qZ (cK l k)).2.1.1) (b:=[99,108,111,115,101,100]) (qy Z hc) Z) Z (E Z (B.pick Z Z Z (gdB Z) Z (qJ _)) (Cb Z Z (fun h10=>?_) (fun h10=>?_)))))))
  ·exact (sf_ob hb (by omega) h10).elim
  refine E Z (B.add Z Z (by unfold R64;omega)) (pk Z (L1 (k+1) ?_ ?_ (sb Z Z Z)))
  · omega
  · omega
 have hsN:=ck_sts hb k
 have hlk:=ck_len hb k (by omega) (by omega)
 have hpl:=pm_len (qZ (cK l k)).2.1
 have hz11:ju.length=11:=rfl
 have hT0:=(ck_reg hb hsh (k:=k) (by omega)).2.1
 refine C Z (w86 hp hm (qZ (cK l k)).2.1 hsN) Z Z Z (C Z (w87k (st_chk _) hsN) Z Z Z (Eg Z Z (fun hc=>B.move Z) Z (Eg Z Z (fun hc=>B.neq (qy Z hc) Z) Z (E Z (B.pick Z Z Z Z (gdB Z) (q7 _)) (Eg Z Z (fun hc=>B.Z9 Z fa154_0 Z) Z (Eg Z Z (fun hc=>B.jP (qy Z hc) Z Z ag3 sz3 Z) Z (Eg Z Z (fun hc=>B.lss (qy Z hc) Z) Z (E Z (B.pick Z Z Z Z (gdB Z) (q7 _)) (Eg Z Z (fun hc=>B.Z9 Z fa154_0 Z) Z (Eg Z Z (fun hc=>B.jP (qy Z hc) Z Z ag3 sz3 Z) Z (Eg Z Z (fun hc=>B.gtr (qy Z hc) Z) Z (E Z (B.pick Z Z Z Z (gdB Z) (q7 _)) (Cb Z Z (fun h11=>?_) (fun h11=>?_))))))))))))))
 ·exact Eg Z Z (fun hc=>B.move Z) Z (Eg Z Z (fun hc=>B.eql (qy Z hc) Z) Z (E Z (B.pick Z Z Z (gdB Z) Z (qJ _)) (Eg Z Z (fun hc=>B.Z9 Z fa154_0 Z) Z (Eg Z Z (fun hc=>B.jP (qy Z hc) Z Z ag3 sz3 Z) Z (Eg Z Z (fun hc=>B.geq (qy Z hc) Z) Z (E Z (B.pick Z Z Z (gdB Z) Z (qJ _)) (Eg Z Z (fun hc=>B.call (ha) Z Z Z) Z (E Z (B.pick Z Z Z (gdB Z) Z (qJ _)) (Rt Z (leaf (val0:=vB (bif (bif (bif (decide (0=0)) then (decide (0=0)) else false) then (decide (0<=(qZ (cK l k)).1)) else false) then true else false)) (by kernel_rfl) (lb (by (simp[hT0])))))))))))))
 have hTm:=nx_tm Z (by assumption)
 refine E Z (B.toI Z un5 un3 (by unfold R64;omega) Z) (E Z (B.add Z Z (by unfold R64;omega)) (E Z (B.jj (val:=.pv (.slice (List.map eN ju))) Z (fun l=>Frz.arr l _ _ _ _ _) Z) (E Z (B.jh Z ji) (l1 (fun (i:Nat)=>[(0,vL eE l),(8,.bref 9 0),(20,vL eN (permP (qZ (cK l k)).2.1)),(22,vB (movP (qZ (cK l k)).2.1)),(24,vI ((qZ (cK l k)).1+t)),(209,vL eN ju),(210,vI ju.length),(211,vI i)]) (fun _=>[(9,.box 154 [vI (qZ (cK l k)).1,vS (bsO (qZ (cK l k)).2.1.1),vI (qZ (cK l k)).2.1.2.1,vB (qZ (cK l k)).2.1.2.2.1,vB (qZ (cK l k)).2.1.2.2.2,vL eT (qZ (cK l k)).2.2.1,vL eN (qZ (cK l k)).2.2.2.1,vL eD (qZ (cK l k)).2.2.2.2.1,vL eP (qZ (cK l k)).2.2.2.2.2])]) (fun i=>i<=ju.length) (fun i=>ju.length-i) 0 Z ?_ (sb Z Z Z) ?_))))
 · exact zq _
 intro i hI2
 refine Cp Z Z (fun h12=>?_) (fun h12=>?_)
 ·refine E Z (B.idx (z:=[]) (i:=i) Z Z ji sz9 (fun _=>rfl) Z (by omega)) (E Z (B.jh Z jt) (E Z (B.add Z Z (by unfold R64;omega)) (E Z (B.jj (val:=.pv (.slice (List.map eN [(ju.getD i [])]))) Z (fun l=>Frz.arr l _ _ _ _ _) Z) (E Z (B.jj (val:=.pv (.slice (List.map eI [((qZ (cK l k)).1+t)]))) Z (fun l=>Frz.arr l _ _ _ _ _) Z) (C Z (w84 hp he hm hj hj2 l (((l.length:Int)+1),[97,99,116],[(ju.getD i [])],[((qZ (cK l k)).1+t)],[]) (by omega) hZ (nx_evs l _ _ _)) Z Z Z (C Z (w88 (permP (qZ (cK l k)).2.1) (ju.getD i []) (by omega)) Z Z Z (E Z (B.bnB Z Z un4) (Cb Z Z (fun h13=>?_) (fun h13=>?_)))))))))
  ·exact (nk_act hb hsh (by omega) (by omega) (by omega) (by omega) (by omega) (getD_mem (z:=[]) (by omega)) h13).elim
  refine E Z (B.add Z Z (by unfold R64;omega)) (pk Z (L1 (i+1) ?_ ?_ (sb Z Z Z)))
  · omega
  · omega
 refine E Z (B.jh Z un25) (l1 (fun (i:Nat)=>[(0,vL eE l),(8,.bref 9 0),(22,vB (movP (qZ (cK l k)).2.1)),(24,vI ((qZ (cK l k)).1+t)),(233,vL eT (qZ (cK l k)).2.2.1),(234,vI ((List.length (qZ (cK l k)).2.2.1:Nat):Int)),(235,vI i)]) (fun _=>[(9,.box 154 [vI (qZ (cK l k)).1,vS (bsO (qZ (cK l k)).2.1.1),vI (qZ (cK l k)).2.1.2.1,vB (qZ (cK l k)).2.1.2.2.1,vB (qZ (cK l k)).2.1.2.2.2,vL eT (qZ (cK l k)).2.2.1,vL eN (qZ (cK l k)).2.2.2.1,vL eD (qZ (cK l k)).2.2.2.2.1,vL eP (qZ (cK l k)).2.2.2.2.2])]) (fun i=>i<=List.length (qZ (cK l k)).2.2.1) (fun i=>List.length (qZ (cK l k)).2.2.1-i) 0 Z ?_ (sb Z Z Z) ?_)
 · exact zq _
 intro i hI3
 refine Cp Z Z (fun h14=>?_) (fun h14=>?_)
 ·refine E Z (B.idx (z:=default) (i:=i) Z Z un25 sz46 (fun _=>rfl) Z (by omega)) ?_
  refine tk 45 Z ?_
  refine tn ⟨[(0,vL eE l),(8,.bref 9 0),(22,vB (movP (qZ (cK l k)).2.1)),(24,vI ((qZ (cK l k)).1+t)),(29,.bref 30 0),(233,vL eT (qZ (cK l k)).2.2.1),(234,vI ((List.length (qZ (cK l k)).2.2.1:Nat):Int)),(235,vI i)],[(9,.box 154 [vI (qZ (cK l k)).1,vS (bsO (qZ (cK l k)).2.1.1),vI (qZ (cK l k)).2.1.2.1,vB (qZ (cK l k)).2.1.2.2.1,vB (qZ (cK l k)).2.1.2.2.2,vL eT (qZ (cK l k)).2.2.1,vL eN (qZ (cK l k)).2.2.2.1,vL eD (qZ (cK l k)).2.2.2.2.1,vL eP (qZ (cK l k)).2.2.2.2.2]),(30,.box 46 [vS (Tgt.name (List.getD (qZ (cK l k)).2.2.1 i default)),vI (Tgt.bright (List.getD (qZ (cK l k)).2.2.1 i default)),vI (Tgt.place (List.getD (qZ (cK l k)).2.2.1 i default)),vI (Tgt.length (List.getD (qZ (cK l k)).2.2.1 i default)),vI (Tgt.from_ (List.getD (qZ (cK l k)).2.2.1 i default)),vI (Tgt.to (List.getD (qZ (cK l k)).2.2.1 i default)),vI (Tgt.limit (List.getD (qZ (cK l k)).2.2.1 i default))])]⟩ rfl rfl Z ?_
  obtain⟨n,hn⟩:=bsO_ex (Tgt.name (List.getD (qZ (cK l k)).2.2.1 i default))
  rw[hn]
  refine kc (E Z (B.jh Z jt) (E Z (B.add Z Z (by unfold R64;omega)) (E Z (B.jj (val:=.pv (.slice (List.map eN [n]))) Z (fun l=>Frz.arr l _ _ _ _ _) Z) (E Z (B.jj (val:=.pv (.slice (List.map eI [((qZ (cK l k)).1+t)]))) Z (fun l=>Frz.arr l _ _ _ _ _) Z) (C Z (w84 hp he hm hj hj2 l (((l.length:Int)+1),[111,98,115,101,114,118,101],[n],[((qZ (cK l k)).1+t)],[]) (by omega) hZ (nx_evs l _ _ _)) Z Z Z (Eg Z Z (fun hc=>B.Z9 Z fa154_3 Z) Z (Eg Z Z (fun hc=>B.jP (qy Z hc) Z Z ag73 sz73 Z) Z (Eg Z Z (fun hc=>B.Z9 Z fa46_0 Z) Z (Eg Z Z (fun hc=>B.jP (qy Z hc) Z Z ag9 sz9 Z) Z (Eg Z Z (fun hc=>B.call (w88 (qZ (cK l k)).2.2.2.1 n (by omega)) Z (ds2 (qy Z hc) (qy Z hc)) Z) Z (Eg Z Z (fun hc=>B.not (qy Z hc)) Z (E Z (B.pick Z Z Z (gdB Z) Z (qJ _)) (E Z (B.bnB Z Z un4) (Cb Z Z (fun h15=>?_) (fun h15=>?_)))))))))))))))
  ·exact (nk_obs hb hsh (by omega) (by omega) (by omega) (by omega) (by omega) (getD_mem (z:=default) (by omega)) hn h15).elim
  refine E Z (B.add Z Z (by unfold R64;omega)) (pk Z (L1 (i+1) ?_ ?_ (sb Z Z Z)))
  · omega
  · omega
 exact C Z (ha) Z Z Z (Rt Z (leaf Z Z))
end Go.Lens.Tm
end
section
namespace Go.Lens.Tb
open Go.Proofs Go.Proofs.YtomghboflcafbaaGreatDoor Go.RowKit Go.ChangeShapes
set_option maxRecDepth 100000
theorem gPow:Tryz.prog.globalNamed "internal/strconv.uint64pow10" =some 3:=by kernel_rfl
theorem tPow:(Tryz.prog.globals[3]?).map (·.type)=some 434:=by kernel_rfl
theorem plainLaid:(Rows.nightSafeRow.laid.all fun x=>x.2.handleName?.isNone)=true:=by kernel_rfl
theorem powDatum:(Rows.laid_internal_strconv_uint64pow10:DataW Unit)=Lib.tabData .u64 Lib.pow10Tab:=by kernel_rfl
theorem pow_of {W:World} (h:laidMetH Tryz.prog Rows.nightSafeRow.laid W):∃ T fr,W.heap[3]? =some (.cells (Lib.pow10Tab.map fun z=>Value.int .u64 z).toArray T fr):=by
  rw[MakeChecks.laidMetH_plain _ _ _ plainLaid] at h
  obtain⟨ps,⟨g0,t0,cs0,f0,p0,q0,_,_,_,_,⟨g1,t1,cs1,f1,p1,q1,_,_,_,_,⟨g2,t2,cs2,f2,p2,q2,hg,ht,hv,hd,_,_⟩,_⟩,_⟩,_,_⟩:=h
  obtain rfl:=Option.some.inj (gPow.symm.trans hg)
  obtain rfl:=Option.some.inj (tPow.symm.trans ht)
  have hd':DataW.trod (fun _=>()) Tryz.prog W 0 (fun _=>true) false f2 434 cs2.toList=some (Rows.laid_internal_strconv_uint64pow10,p2):=hd
  rw[powDatum] at hd'
  have hc:=Lib.cells_of_tab Tryz.underlying434 Tryz.underlying406 (by kernel_rfl) (by kernel_rfl) hd'
  have hv':(Tryz.prog.globalNamed "internal/strconv.uint64pow10").bind (fun g=>match W.heap[g]? with|some (.cells cs _ _)=>some cs|_=>none)=some cs2:=hv
  rw[gPow] at hv'
  simp only[z6] at hv'
  split at hv'
  · rename_i cs T fr hb
    cases hv'
    refine⟨T,fr,?_⟩
    rw[hb,<-hc,Array.toArray_toList]
  · cases hv'
theorem gSyn:Tryz.prog.globalNamed "strconv.ErrSyntax" =some 4:=by kernel_rfl
theorem gRng:Tryz.prog.globalNamed "strconv.ErrRange" =some 5:=by kernel_rfl
theorem tSyn:(Tryz.prog.globals[4]?).map (·.type)=some 273:=by kernel_rfl
theorem tRng:(Tryz.prog.globals[5]?).map (·.type)=some 273:=by kernel_rfl
theorem star: "*" ++ "errors.errorString" = "*errors.errorString" :=by decide
theorem row445 (u:TypeId) (h:Tryz.prog.typeName? 3 u=some "*errors.errorString"):u=445:=
  typeName_ptr_named (nm:= "errors.errorString") (by rw[star];kernel_rfl) (by kernel_rfl) (by decide) u (by rw[star];exact h)
theorem err_of {W:World} (h:laidMetH Tryz.prog Rows.nightSafeRow.laid W):(∃ tp p,W.var? Tryz.prog "strconv.ErrSyntax" =some #[.iface tp p])/\∃ tp p,W.var? Tryz.prog "strconv.ErrRange" =some #[.iface tp p]:=by
  rw[MakeChecks.laidMetH_plain _ _ _ plainLaid] at h
  have h4:=h.tail.tail.tail.tail
  obtain⟨a,_,h1,_⟩:=laid_sentinel h4 gRng tRng Tryz.underlying273 row445 Tryz.underlying445 Tryz.underlying447 rfl rfl Tryz.underlying9 (show Tryz.prog.cellsOf 447=1 by kernel_rfl) (show Tryz.prog.cellsOf 9=1 by kernel_rfl)
  obtain⟨b,_,h2,_⟩:=laid_sentinel h4.tail gSyn tSyn Tryz.underlying273 row445 Tryz.underlying445 Tryz.underlying447 rfl rfl Tryz.underlying9 (show Tryz.prog.cellsOf 447=1 by kernel_rfl) (show Tryz.prog.cellsOf 9=1 by kernel_rfl)
  exact⟨⟨_,_,h2⟩,_,_,h1⟩
@[reducible] def lzOf (W:World):Lz:=⟨fun b=>if b=3\/b=4\/b=5 then W.heap[b]? else none⟩
theorem lzOf_laid (W:World):∀ b o,(lzOf W).L b=some o->W.heap[b]? =some o:=by
  intro b o h
  change (if b=3\/b=4\/b=5 then W.heap[b]? else none)=some o at h
  split at h
  · exact h
  · cases h
theorem powLaid_of {W:World} (h:laidMetH Tryz.prog Rows.nightSafeRow.laid W): @qH (lzOf W):=by
  obtain⟨T,fr,hb⟩:=pow_of h
  exact⟨3,T,fr,gPow,hb⟩
theorem varLaid_of {W:World} {n:String} {g:Nat} (hg:Tryz.prog.globalNamed n=some g) (hb:(lzOf W).L g=W.heap[g]?) (h:∃ tp p,W.var? Tryz.prog n=some #[.iface tp p]): @Go.Lens.Tm.VarLaid (lzOf W) n:=by
  obtain⟨tp,p,hv⟩:=h
  unfold World.var? at hv
  rw[hg] at hv
  simp only[z6] at hv
  split at hv
  · rename_i cs T fr hc
    cases hv
    exact⟨g,tp,p,T,fr,hg,hb.trans hc⟩
  · cases hv
theorem errLaid_of {W:World} (h:laidMetH Tryz.prog Rows.nightSafeRow.laid W): @Go.Lens.Tm.je (lzOf W):=
  ⟨varLaid_of gSyn Z (err_of h).1,varLaid_of gRng Z (err_of h).2⟩
section
variable {H:Type} {enc:TypeId×Value->H} {w:World} {base:Nat} {spare:Nat->Bool} {held:Bool}
theorem read_ints {fuel:Nat} {cs:List Value} {x:DataW H×List MemPlace} (h:DataW.trod enc Tryz.prog w base spare held fuel 22 cs=some x) :
    ∃ (l:List Int) (v:Value),cs=[v]/\qN (gh0.rd w) (.slice (l.map eI)) v/\((l=[]/\x.1=.nil)\/∃ es rest,x.1=.slice es rest/\es.length=l.length):=
  read_slice (encE:=eI) (vals:=fun n=>[.int .i64 n]) Tryz.underlying22 (show Tryz.prog.cellsOf 3=1 by kernel_rfl) (by omega)
    (fun n c y hy=>by obtain⟨m,e,_⟩:=DataW.trod_int Tryz.underlying3 hy;exact⟨m,e⟩) (fun _=>rfl) (fun _=>rfl)
    (fun a b off hc=>relCells_lits (vs:=[.int .i64 a]) (by simp[isLit]) hc) h
theorem read_names {fuel:Nat} {cs:List Value} {x:DataW H×List MemPlace} (h:DataW.trod enc Tryz.prog w base spare held fuel 73 cs=some x) :
    ∃ (l:List (List UInt8)) (v:Value),cs=[v]/\qN (gh0.rd w) (.slice (l.map Go.Lens.Tm.eN)) v/\((l=[]/\x.1=.nil)\/∃ es rest,x.1=.slice es rest/\es.length=l.length):=
  read_slice (encE:=Go.Lens.Tm.eN) (vals:=fun s:List UInt8=>[.string (bsO s)]) Tryz.underlying73 (show Tryz.prog.cellsOf 9=1 by kernel_rfl) (by omega)
    (fun n c y hy=>by obtain⟨s,e,_⟩:=DataW.trod_string Tryz.underlying9 hy;exact⟨s.data.toList,e⟩) (fun _=>rfl) (fun _=>rfl)
    (fun a b off hc=>relCells_lits (vs:=[.string (bsO a)]) (by simp[isLit]) hc) h
theorem slice_one {R:Rd} {l:List (List PV)} {v:Value} (h:qN R (.slice l) v):v.oneCell'=true:=by
  simp only[qN] at h
  obtain⟨a,cap,rfl,_⟩:=h
  rfl
theorem read_ev {n:Nat} {c:List Value} {y:DataW H×List MemPlace} (h:DataW.trod enc Tryz.prog w base spare held n 119 c=some y) :
    ∃ (e:Go.Lens.Tm.Ev) (vn vv:Value),c=[.int .i64 e.1,.string (bsO e.2.1),vn,vv,.string (bsO e.2.2.2.2)]/\qN (gh0.rd w) (.slice (e.2.2.1.map Go.Lens.Tm.eN)) vn/\qN (gh0.rd w) (.slice (e.2.2.2.1.map eI)) vv:=by
  obtain⟨xs,m,rfl,rfl,hl,hx,hf⟩:=DataW.trod_struct Tryz.underlying119 h
  have hl2:c.length=5:=hl.trans (by kernel_rfl)
  have hx2:xs.length=5:=hx
  match c,hl2,xs,hx2,hf with
  | [c0,c1,c2,c3',c4],_,[x0,x1,x2,x3,x4],_,hf=>
    have f0:=hf 0 _ rfl
    have f1:=hf 1 _ rfl
    have f2:=hf 2 _ rfl
    have f3:=hf 3 _ rfl
    have f4:=hf 4 _ rfl
    obtain⟨m0,e0,_⟩:=DataW.trod_int Tryz.underlying3 f0
    obtain⟨s1,e1,_⟩:=DataW.trod_string Tryz.underlying9 f1
    obtain⟨l2,v2,e2,h2,_⟩:=read_names f2
    obtain⟨l3,v3,e3,h3,_⟩:=read_ints f3
    obtain⟨s4,e4,_⟩:=DataW.trod_string Tryz.underlying9 f4
    cases e0;cases e1;cases e2;cases e3;cases e4
    exact⟨(m0,s1.data.toList,l2,l3,s4.data.toList),_,_,rfl,h2,h3⟩
theorem relCells_pairs:∀ (l:List (PV×Value)),(∀ x∈l,x.2.oneCell'=true/\qN (gh0.rd w) x.1 x.2)->∀ {b off:Nat},(∀ i,i<l.length->w.cell? ⟨b,off+i,none⟩=(l.map (·.2))[i]?)->qW (gh0.rd w) (l.map (·.1)) b off
  | [],_,b,off,_=>by simp only[zZ,qW]
  | x::l,hl,b,off,h=>by
    simp only[zw,qW]
    refine⟨⟨x.2,?_,hl x (by simp)⟩,relCells_pairs l (fun u hu=>hl u (by simp[hu])) fun i hi=>?_⟩
    · rw[rd0];simpa using h 0 (by simp)
    · have:=h (i+1) (by simpa using hi)
      rw[show off+1+i=off+(i+1) from by omega];simpa using this
theorem read_evs {fuel:Nat} {cs:List Value} {x:DataW H×List MemPlace} (h:DataW.trod enc Tryz.prog w base spare held fuel 121 cs=some x) :
    ∃ (l:List Go.Lens.Tm.Ev) (v:Value),cs=[v]/\qN (gh0.rd w) (.slice (l.map Go.Lens.Tm.eE)) v/\((l=[]/\x.1=.nil)\/∃ es rest,x.1=.slice es rest/\es.length=l.length):=by
  obtain⟨l,v,e,hr,hl⟩:=read_slice (α:={a:Go.Lens.Tm.Ev×Value×Value // qN (gh0.rd w) (.slice (a.1.2.2.1.map Go.Lens.Tm.eN)) a.2.1/\qN (gh0.rd w) (.slice (a.1.2.2.2.1.map eI)) a.2.2}) (encE:=fun a=>Go.Lens.Tm.eE a.1.1)
    (vals:=fun a=>[.int .i64 a.1.1.1,.string (bsO a.1.1.2.1),a.1.2.1,a.1.2.2,.string (bsO a.1.1.2.2.2.2)]) Tryz.underlying121 (show Tryz.prog.cellsOf 119=5 by kernel_rfl) (by omega)
    (fun n c y hy=>by obtain⟨e,vn,vv,hc,h1,h2⟩:=read_ev hy;exact⟨⟨(e,vn,vv),h1,h2⟩,hc⟩) (fun _=>rfl) (fun _=>rfl)
    (fun a b off hc=>relCells_pairs [(pI a.1.1.1,.int .i64 a.1.1.1),(pS (bsO a.1.1.2.1),.string (bsO a.1.1.2.1)),(.slice (a.1.1.2.2.1.map Go.Lens.Tm.eN),a.1.2.1),(.slice (a.1.1.2.2.2.1.map eI),a.1.2.2),(pS (bsO a.1.1.2.2.2.2),.string (bsO a.1.1.2.2.2.2))] (fun x hx=>by
      simp only[zF,List.mem_nil_iff,or_false] at hx
      rcases hx with rfl|rfl|rfl|rfl|rfl
      · exact⟨rfl,by unfold qN;exact⟨rfl,rfl⟩⟩
      · exact⟨rfl,by unfold qN;exact⟨rfl,rfl⟩⟩
      · exact⟨slice_one a.2.1,a.2.1⟩
      · exact⟨slice_one a.2.2,a.2.2⟩
      · exact⟨rfl,by unfold qN;exact⟨rfl,rfl⟩⟩) hc) h
  exact⟨l.map (·.1.1),v,e,by rw[List.map_map];exact hr,by simpa using hl⟩
end
end Go.Lens.Tb
end
