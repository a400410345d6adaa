/- A part of the proof of PupilSumsCardSaid, without conditions. -/
import Derived.Test.YtpfnmbpfhlllaaaGreatDoorP7
import Derived.Test.YtpfnmbpfhlllaaaGreatDoorP6
import Derived.Test.YtpfnmbpfhlllaaaGreatDoorP9
set_option linter.unusedVariables false
set_option linter.unusedSimpArgs false
set_option linter.unusedSectionVars false
set_option maxRecDepth 100000
set_option maxHeartbeats 4000000
section
namespace Go.Lens.Tb
open Go.Proofs Go.Lens.Un
variable [Lz] [Dn] [Kr]
attribute [local irreducible] TK PK T RG EfR Body CG
open Un Un.R
section
variable {f:List Trm} {x y s:Nb} {P W:PL} {E:Int} {u v:Rat}
theorem fs_l (h:shF f=true):f.length<=12/\∀ t∈f,t.c.length<=40:=by
 unfold shF shFA at h
 simp only[zj,Bool.not_eq_true',zG,zr,zf] at h
 exact⟨aa,h.2⟩
theorem fs_m (h:shF f=true):f.length<=1000000:=by have:=(fs_l h).1;omega
theorem sz_any (h:s.length<=40):sz (jQ s).q<=161:=by
 by_cases hc:jD s=0
 ·exact sz_short hc h
 unfold jQ;rw[dif_neg hc];decide +kernel
theorem fs_s (h:shF f=true):∀ p∈plF f,sz p.2<=161:=fun p hp=>by
 obtain⟨t,ht,rfl⟩:=zE.1 hp
 exact sz_any ((fs_l h).2 t ht)
theorem fs_n (h:shF f=true):(plF f).length<=12:=by unfold plF;rw[zI];exact (fs_l h).1
theorem fs_z (h:shF f=true):szP (plF f)<=2000:=qc (szP_le (fs_n h) (fs_s h)) ah
theorem fs_k (h:qF f=0):∀ p∈plF f,0<=p.1.1/\0<=p.1.2/\p.1.1+p.1.2<=16:=fun p hp=>kb_f h _ (List.mem_map_of_mem hp)
theorem fy_r (h:qF f=0):vL eY f=vL eR (plF f):=by
 refine congrArg (fun x=>DV.pv (.slice x)) ?_
 unfold plF
 rw[List.map_map]
 refine List.map_congr_left fun t ht=>?_
 have:=txt_val (po_t h ht).1
 show [pS (bsO t.c),pI t.i,pI t.j]=[pS (bsO (txt (jQ t.c).q)),pI t.i,pI t.j]
 rw[this]
theorem w26p (f:List Trm) (h:shF f=true):CKa 13 [vL eY f] (vI (qF f)):=
 w26 f (by have:=(fs_l h).1;omega) fun t ht=>by have:=(fs_l h).2 t ht;omega
theorem nf_lg (P:PL):lgF 0 ((nfP P).map Prod.snd)=polE P:=by
 rw[lgF_0,if_pos rfl]
 unfold polE polL nfP
 rw[List.map_map,List.any_map];rfl
theorem nf_can (P:PL):(nfP P).map trR=canT P:=by unfold nfP canT;rw[List.map_map];rfl
theorem ord_l (P:PL):(jd P).length<=561:=qc (List.length_filter_le _ _) (of_decide_eq_true ae)
theorem ms_l (e:Int) (P:PL):(erL e (polT P)).length<=1000000:=by
 unfold erL polT
 split
 ·exact zt _
 cases polL P
 ·show (canT P).length<=_;unfold canT;rw[zI];exact qc (ord_l P) ah
 exact zt _
theorem nfP_l:(nfP P).length<=1000000:=by unfold nfP;rw[zI];exact qc (ord_l _) ah
theorem nfP_t (hz:szP P<=1000000):∀ q∈List.map Prod.snd (nfP P),(txt q).length<=900000:=fun q hq=>by
 unfold nfP at hq
 rw[List.map_map] at hq
 obtain⟨k,_,rfl⟩:=zE.1 hq
 exact ar_t (qc (sz_cf P k) hz)
theorem sam_e:samB (erL E (polT P)) (erE E (polE P)) E (if E=0 then nfP P else [])=true:=by
 by_cases hE:E=0
 ·subst hE
  unfold samB erL erE
  rw[if_pos rfl,nf_lg,if_neg ao,if_neg ao]
  unfold polE polT
  cases polL P
  ·simp[nf_can]
  simp
 unfold samB erL erE
 rw[if_neg hE,if_pos hE,if_pos hE]
 simp[lgF]
theorem w19e (hz:E=0->szP P<=1000000) (hW:W=if E=0 then nfP P else []):CKa 20 [vL eY (erL E (polT P)),vI (erE E (polE P)),vI E,vL eR W] (vB true):=by
 have h:=w19 (erL E (polT P)) (erE E (polE P)) E W (ms_l _ _) (by rw[hW];split;exact nfP_l;exact zt _) (by rw[hW];split;exact nfP_t (hz ab);intro q hq;cases hq)
 rwa [hW,sam_e,<-hW] at h
end
end Go.Lens.Tb
end
section
namespace Go.Lens.Tb
open Go.Proofs Go.Lens.Un
variable [Lz] [Dn] [Kr]
attribute [local irreducible] TK PK T RG EfR Body CG
theorem w169 (f:List Trm) (hl:f.length<=1000000) (hv:∀ t∈f,KS (keyT t)):CKa 77 [vL eY f] (.tup [vI (degF f),vB (!(decide (f=[])))]):=by
 refine cG qf77 Z (nB Z) Z (E Z (B.jk Z un32) (Cp Z Z (fun h1=>?_) (fun h1=>?_)))
 ·exact Rt Z (lF Z (Zu (li e8) (lb e8)))
 exact E Z (B.jk Z un32) (E Z (B.sub Z Z eA) (E Z (B.idx (z:=trZ) (i:=(f.length-1)) Z Z un32 sz74 (fun _=>rfl) aa aa) (E Z (B.add Z Z eA) (Rt Z (lF Z (Zu (li e8) (lb e8)))))))
theorem w66 (hp:qR) (f g:List Trm) (hlf:f.length<=1000000) (hsf:∀ t∈f,(Trm.c t).length<=1000000000) (hlg:g.length<=1000000) (hsg:∀ t∈g,(Trm.c t).length<=1000000000) (hz:jf f g=0->AddOk (plF f) (plF g)):CKa 23 [vL eY f,vL eY g] (.tup [vL eY (erL (jf f g) (polT (plF f++scl (Qn.q (Qn.ofZ 1 bf)) (plF g)))),vI (erE (jf f g) (polE (plF f++scl (Qn.q (Qn.ofZ 1 bf)) (plF g))))]):=by
 refine cL 10 [] qf23 Z (nB Z) Z Z (kc (E Z (B.Zy (enc:=eY) Z) (C Z (w124 f g hlf hsf hlg hsg) Z Z Z (Cp Z Z (fun h1=>?_) (fun h1=>?_)))))
 ·exact E Z (B.Zy (enc:=eY) Z) (Rt Z (lL Z cS))
 exact E Z (B.jq (w114k f 24 hlf (ch_f ab)) Z Z trivial Z Z) (E Z (B.jq (w114k g 26 hlg (ch_g ab)) Z Z trivial Z Z) (C Z (w100 1 bf) Z Z Z (E Z (B.jq (w102k (plF f) (plF g) (Qn.ofZ 1 bf) 24 26 28 ah ah ah (ad_z ab hz)) Z Z ⟨rfl,rfl,trivial⟩ rfl rfl) (E Z (B.jq (w104k hp ((plF f)++scl (Qn.q (Qn.ofZ 1 bf)) (plF g)) 28 (ad_ok ab hz)) Z Z ⟨rfl,trivial⟩ rfl rfl) (Rt Z (lL Z cS))))))
theorem w80 (hp:qR) (f g:List Trm) (hlf:f.length<=1000000) (hsf:∀ t∈f,(Trm.c t).length<=1000000000) (hlg:g.length<=1000000) (hsg:∀ t∈g,(Trm.c t).length<=1000000000) (hz:jf f g=0->MulOk (plF f) (plF g)):CKa 24 [vL eY f,vL eY g] (.tup [vL eY (erL (mulE f g) (polT (q8 (plF f) (plF g)))),vI (erE (mulE f g) (polE (q8 (plF f) (plF g))))]):=by
 refine cL 10 [] qf24 Z (nB Z) Z Z (kc (E Z (B.Zy (enc:=eY) Z) (C Z (w124 f g hlf hsf hlg hsg) Z Z Z (Cp Z Z (fun h1=>?_) (fun h1=>?_)))))
 ·exact E Z (B.Zy (enc:=eY) Z) (Rt Z (lL Z eC))
 refine C Z (w169 f hlf (dg_k (ch_f ab))) Z Z Z (C Z (w169 g hlg (dg_k (ch_g ab))) Z Z Z ?_)
 refine Em Z Z Z Z ?_
 refine E Z (B.pA Z Z Z Z Z) ?_
 refine Em Z Z Z Z ?_
 refine Em Z Z Z Z ?_
 refine Eg Z Z (fun hc=>B.add (qt Z hc) (qt Z hc) (by have hb:=dg_b (ch_f ab);have hb2:=dg_b (ch_g ab);unfold R64;omega)) Z (Eg Z Z (fun hc=>B.gtr (qt Z hc) Z) Z (E Z (B.pA Z Z Z Z Z) (Cb Z Z (fun h2=>?_) (fun h2=>?_))))
 ·exact E Z (B.Zy (enc:=eY) Z) (Rt Z (lL Z eC))
 exact E Z (B.jq (w114k f 48 hlf (ch_f ab)) Z Z trivial Z Z) (E Z (B.jq (w114k g 50 hlg (ch_g ab)) Z Z trivial Z Z) (E Z (B.jq (w101k (plF f) (plF g) 48 50 51 ah ah ah (mu_k ab).1 (mu_k ab).2 (mu_z ab hz)) Z Z ⟨rfl,rfl,trivial⟩ rfl rfl) (E Z (B.jq (w104k hp (q8 (plF f) (plF g)) 51 (mu_ok ab hz)) Z Z ⟨rfl,trivial⟩ rfl rfl) (Rt Z (lL Z eC)))))
def degR (f:List Trm):Int:=f.foldl (fun n t=>max n (t.i+t.j)) 0
def sumV (f g:List Trm):PL:=if qB [qF f,qF g]=0 then addP (plF f) (plF g) else []
def proV (f g:List Trm):PL:=if qB [qF f,qF g]=0 then mulP (plF f) (plF g) else []
section
variable {f g:List Trm} {k:Nat} {P R W:PL} {E:Int}
theorem dgr_s (hk:k<f.length):degR (f.take (k+1))=max (degR (f.take k)) (Trm.i (f.getD k trZ)+Trm.j (f.getD k trZ)):=by
 unfold degR
 rw[List.take_succ_eq_append_getElem hk,List.foldl_append,ze,zm hk];rfl
theorem dgr_k (h:qF f=0):∀ k,k<f.length->degR (f.take (k+1))=Trm.i (f.getD k trZ)+Trm.j (f.getD k trZ)
 | 0,hk=>by
  rw[dgr_s hk,List.take_zero]
  have:=(cE1_0.1 (ca_0 (po_0 h 0 hk)).1)
  show max 0 _=_
  omega
 | k+1,hk=>by
  rw[dgr_s hk,dgr_k h k aa]
  have h2:=(ca_0 (po_0 h (k+1) hk)).2 aa
  rw[Nat.add_sub_cancel,ordI_lt] at h2
  unfold keyT at h2
  simp only at h2
  omega
theorem dgr_e (h:qF f=0) (h0:f≠[]):degR f=degF f:=by
 have hl:0<f.length:=List.length_pos_iff.2 h0
 have:=dgr_k h (f.length-1) aa
 rw[show f.length-1+1=f.length by omega,List.take_length] at this
 rw[this];unfold degF;rw[if_neg h0]
theorem dgr_b (h:qF f=0):0<=degR f/\degR f<=16:=by
 by_cases h0:f=[]
 ·subst h0;decide
 have hl:0<f.length:=List.length_pos_iff.2 h0
 have e:=dgr_k h (f.length-1) aa
 have:=cE1_0.1 (ca_0 (po_0 h (f.length-1) aa)).1
 rw[show f.length-1+1=f.length by omega,List.take_length] at e
 omega
theorem fs_ks (h:qF f=0):∀ t∈f,KS (keyT t):=fun t ht=>by have:=po_t h ht;unfold KS keyT;simp only;omega
theorem sm_h (h:(bif !(shF f) then true else !(shF g))=false):shF f=true/\shF g=true:=by revert h;cases shF f<;>cases shF g<;>decide
theorem b2_0:qB [qF f,qF g]=0↔qF f=0/\qF g=0:=by rw[ff_0,ff_0];simp[qB]
theorem sm_g1 (h:(bif (bif decide (qB [qF f,qF g]=0) then decide (0<(f.length:Int)) else false) then decide (0<(g.length:Int)) else false)=true):qF f=0/\qF g=0:=b2_0.1 (cg_1 (qk_two h).1)
theorem sm_f (h:(bif (bif decide (qB [qF f,qF g]=0) then decide (0<(f.length:Int)) else false) then decide (0<(g.length:Int)) else false)=true):∀ t∈f,KS (keyT t):=fs_ks (sm_g1 h).1
theorem sm_g (h:(bif (bif decide (qB [qF f,qF g]=0) then decide (0<(f.length:Int)) else false) then decide (0<(g.length:Int)) else false)=true):∀ t∈g,KS (keyT t):=fs_ks (sm_g1 h).2
theorem sm_b (h:(bif (bif decide (qB [qF f,qF g]=0) then decide (0<(f.length:Int)) else false) then decide (0<(g.length:Int)) else false)=true):(0<=degR f/\degR f<=16)/\0<=degR g/\degR g<=16:=⟨dgr_b (sm_g1 h).1,dgr_b (sm_g1 h).2⟩
theorem sm_e:mulE f g=if (bif (bif (bif decide (qB [qF f,qF g]=0) then decide (0<(f.length:Int)) else false) then decide (0<(g.length:Int)) else false) then decide (16<degR f+degR g) else false)=true then 3 else qB [qF f,qF g]:=by
 unfold mulE
 show (if qB [qF f,qF g]≠0 then qB [qF f,qF g] else _)=_
 by_cases h0:qB [qF f,qF g]=0
 ·obtain⟨h1,h2⟩:=b2_0.1 h0
  rw[if_neg (fun e=>e h0),h0,zl rfl]
  by_cases hf:f=[]
  ·subst hf;simp
  by_cases hg:g=[]
  ·subst hg;simp
  rw[zl (by have:=List.length_pos_iff.2 hf;omega),zl (by have:=List.length_pos_iff.2 hg;omega),dgr_e h1 hf,dgr_e h2 hg]
  simp[hf,hg]
 rw[if_pos h0,zk h0];rfl
theorem sm_1 (h:(bif (bif (bif decide (qB [qF f,qF g]=0) then decide (0<(f.length:Int)) else false) then decide (0<(g.length:Int)) else false) then decide (16<degR f+degR g) else false)=true):mulE f g=3:=by rw[sm_e,if_pos h]
theorem sm_2 (h:(bif (bif (bif decide (qB [qF f,qF g]=0) then decide (0<(f.length:Int)) else false) then decide (0<(g.length:Int)) else false) then decide (16<degR f+degR g) else false)=false):mulE f g=qB [qF f,qF g]:=by rw[sm_e,if_neg (by rw[h];decide)]
theorem sm_3 (h:qB [qF f,qF g]=0):sumV f g=addP (plF f) (plF g):=if_pos h
theorem sm_4 (h:¬qB [qF f,qF g]=0):sumV f g=[]:=if_neg h
theorem sm_5 (h:qB [qF f,qF g]=0):proV f g=mulP (plF f) (plF g):=if_pos h
theorem sm_6 (h:¬qB [qF f,qF g]=0):proV f g=[]:=if_neg h
theorem scl_1 {h:R64 1}:scl (Qn.q (Qn.ofZ 1 h)) R=R:=by
 unfold scl
 rw[Qn.ofZ_q]
 rw[show (fun p:KI×Rat=>(p.1,p.2*((1:Int):Rat)))=id from funext fun p=>Prod.ext rfl (Rat.mul_one _),List.map_id]
theorem fs_ad (hf:shF f=true) (hg:shF g=true):AddOk (plF f) (plF g):=by
 have h1:=fs_n hf;have h2:=fs_n hg;have h3:=fs_z hf;have h4:=fs_z hg
 refine⟨?_,aa,aa⟩
 have:((plF g).length+2)*(szP (plF g)+100)<=14*2100:=Nat.mul_le_mul aa aa
 omega
theorem fs_mu (hf:shF f=true) (hg:shF g=true):MulOk (plF f) (plF g):=by
 have h1:=fs_n hf;have h2:=fs_n hg;have h3:=fs_z hf;have h4:=fs_z hg
 have h5:(plF f).length*(plF g).length<=12*12:=Nat.mul_le_mul h1 h2
 refine⟨?_,aa⟩
 exact qc (Nat.mul_le_mul (show _<=146 by omega) (show _<=4002 by omega)) ah
theorem fs_big (h:shF f=true):f.length<=1000000/\∀ t∈f,t.c.length<=1000000000:=⟨fs_m h,fun t ht=>by have:=(fs_l h).2 t ht;omega⟩
theorem w81p (f:List Trm) (h:shF f=true):CKa 25 [vL eY f] (vI (qF f)):=w81 f (fs_big h).1 (fs_big h).2
theorem w66p (hp:qR) (f g:List Trm) (hf:shF f=true) (hg:shF g=true):CKa 23 [vL eY f,vL eY g] (.tup [vL eY (erL (qB [qF f,qF g]) (polT (plF f++plF g))),vI (erE (qB [qF f,qF g]) (polE (plF f++plF g)))]):=by
 have h:=w66 hp f g (fs_big hf).1 (fs_big hf).2 (fs_big hg).1 (fs_big hg).2 fun _=>fs_ad hf hg
 rw[scl_1] at h
 exact h
theorem w80p (hp:qR) (f g:List Trm) (hf:shF f=true) (hg:shF g=true):CKa 24 [vL eY f,vL eY g] (.tup [vL eY (erL (mulE f g) (polT (q8 (plF f) (plF g)))),vI (erE (mulE f g) (polE (q8 (plF f) (plF g))))]):=
 w80 hp f g (fs_big hf).1 (fs_big hf).2 (fs_big hg).1 (fs_big hg).2 fun _=>fs_mu hf hg
theorem fs_rf (h:shF f=true) (hc:qF f=0):RfOk (plF f):=⟨fun p hp=>by have:=fs_k hc p hp;omega,by have:=fs_n h;omega,by have:=fs_z h;omega⟩
theorem pr_q (hf:shF f=true) (hg:shF g=true):szP (q8 (plF f) (plF g))<=500000:=by
 have h5:(plF f).length*(plF g).length<=12*12:=Nat.mul_le_mul (fs_n hf) (fs_n hg)
 refine qc (szP_le (N:=144) (S:=322) (by rw[prods_len];omega) fun p hp=>?_) ah
 obtain⟨a,ha,hp⟩:=List.mem_flatMap.1 hp
 obtain⟨b,hb,rfl⟩:=zE.1 hp
 have h1:=fs_s hf a ha
 have h2:=fs_s hg b hb
 have h3:=jy a.2 b.2
 simp only;omega
theorem w83y (hf:shF f=true) (hg:shF g=true) (h:qB [qF f,qF g]=0):CKa 27 [vL eY f,vL eY g] (vL eR (addP (plF f) (plF g))):=by
 obtain⟨h1,h2⟩:=b2_0.1 h
 rw[fy_r h1,fy_r h2]
 exact w83 _ _ (fs_rf hf h1) (fs_rf hg h2) (by have:=fs_z hf;have:=fs_z hg;omega)
theorem w84y (hf:shF f=true) (hg:shF g=true) (h:qB [qF f,qF g]=0):CKa 28 [vL eY f,vL eY g] (vL eR (mulP (plF f) (plF g))):=by
 obtain⟨h1,h2⟩:=b2_0.1 h
 rw[fy_r h1,fy_r h2]
 exact w84 _ _ (fs_rf hf h1) (fs_rf hg h2) (pr_q hf hg)
theorem sam_g (hW:E=0->W=nfP P):samB (erL E (polT P)) (erE E (polE P)) E W=true:=by
 by_cases hE:E=0
 ·have:=sam_e (E:=E) (P:=P)
  rw[if_pos hE,<-hW hE] at this;exact this
 unfold samB erL erE
 rw[lgF_0,if_neg hE,if_pos hE,if_pos hE,if_pos hE];simp
theorem w19g (hW:E=0->W=nfP P) (hl:W.length<=1000000) (ht:∀ q∈List.map Prod.snd W,(txt q).length<=900000):CKa 20 [vL eY (erL E (polT P)),vI (erE E (polE P)),vI E,vL eR W] (vB true):=by
 have h:=w19 (erL E (polT P)) (erE E (polE P)) E W (ms_l _ _) hl ht
 rwa [sam_g hW] at h
theorem w19s (hf:shF f=true) (hg:shF g=true):CKa 20 [vL eY (erL (qB [qF f,qF g]) (polT (plF f++plF g))),vI (erE (qB [qF f,qF g]) (polE (plF f++plF g))),vI (qB [qF f,qF g]),vL eR (sumV f g)] (vB true):=
 w19e (fun _=>by have:=szP_app (plF f) (plF g);have:=fs_z hf;have:=fs_z hg;omega) rfl
theorem w19m (hf:shF f=true) (hg:shF g=true):CKa 20 [vL eY (erL (mulE f g) (polT (q8 (plF f) (plF g)))),vI (erE (mulE f g) (polE (q8 (plF f) (plF g)))),vI (mulE f g),vL eR (proV f g)] (vB true):=by
 refine w19g (fun e=>?_) ?_ ?_
 ·have:qB [qF f,qF g]=0:=by
   rw[sm_e] at e
   split at e
   ·cases e
   exact e
  exact sm_5 this
 ·unfold proV;split
  ·exact nfP_l
  exact zt _
 unfold proV;split
 ·exact nfP_t (qc (pr_q hf hg) ah)
 intro q hq;cases hq
end
theorem w82 (f:List Trm) (hlf:f.length<=1000000) (hv:∀ t∈f,KS (keyT t)):CKa 26 [vL eY f] (vI (degR f)):=by
 refine cL 10 [] qf26 Z (nB Z) Z Z (kc (l2 (fun (k:Nat) (n:Int)=>[(0,vL eY f),(3,vI n),(4,vI (k:Int))]) (fun _ _=>[]) (fun k n=>k<=f.length/\n=degR (List.take k f)) (fun k _=>f.length-k) 0 0 Z ?_ (sb Z Z Z) ?_))
 · exact⟨zt _,rfl⟩
 intro k n hI0
 refine E Z (B.jk Z un22) (Cp Z Z (fun h1=>?_) (fun h1=>?_))
 ·refine E Z (B.idx (z:=trZ) (i:=k) Z Z un22 sz63 (fun _=>rfl) Z aa) (E Z (B.idx (z:=trZ) (i:=k) Z Z un22 sz63 (fun _=>rfl) Z aa) (E Z (B.add Z Z eD) (E Z (B.max Z Z) (Dr Z ae (E Z (B.add Z Z eD) (pk Z (L2 (k+1) (max n ((Trm.i (f.getD k trZ))+(Trm.j (f.getD k trZ)))) ?_ ?_ (sb Z Z Z))))))))
  · (exact⟨aa,by rw[hI0.2];exact (dgr_s aa).symm⟩)
  · omega
 refine Rt Z ?_
 exact leafL (val0:=vI n) (out0:=[]) (.inr Z) ae (by exact li c7) rfl
theorem w13 (hp:qR) (hf:jo) (f g:List Trm) (hlf:f.length<=4611686018427387904) (hlg:g.length<=4611686018427387904):CKa 5 [vL eY f,vL eY g] (vB true):=by
 refine cL 10 [] qf5 Z (nB Z) Z Z (kc (C Z (w21 f hlf) Z Z Z (Eg Z Z (fun hc=>B.move Z) Z (Eg Z Z (fun hc=>B.call (w21 g hlg) Z (ds1 (qt Z hc)) Z) Z (Eg Z Z (fun hc=>B.not (qt Z hc)) Z (E Z (B.pick Z Z Z Z (gdB Z) (pick_or _)) (Cb Z Z (fun h1=>?_) (fun h1=>?_))))))))
 ·refine C Z (w20 hp hf) Z Z Z ?_
  refine Rt Z ?_
  exact leafL (val0:=vB true) (out0:=[]) (.inr Z) ae eE rfl
 obtain⟨hsf,hsg⟩:=sm_h ab;have hlf:=fs_m hsf;have hlg:=fs_m hsg
 refine C Z (w23 f hlf) Z Z Z (C Z (w23 g hlg) Z Z Z (C Z (w66p hp f g hsf hsg) Z Z Z (C Z (w23 f hlf) Z Z Z (C Z (w23 g hlg) Z Z Z (C Z (w80p hp f g hsf hsg) Z Z Z (C Z (w23 f hlf) Z Z Z (C Z (w81p f hsf) Z Z Z (C Z (w26p f hsf) Z Z Z (Cp Z Z (fun h2=>?_) (fun h2=>?_))))))))))
 ·refine Rt Z ?_
  exact leafL (val0:=vB false) (out0:=[]) (.inr Z) ae eE rfl
 refine C Z (w26p f hsf) Z Z Z (C Z (w26p g hsg) Z Z Z (E Z (B.runZ (val:=.pv (.slice (List.map eI [(qF f),(qF g)]))) (val0:=.aref 58 0) (m0:=[(58,.arr 0 1 3 [[pI (qF f)],[pI (qF g)]])]) (rd:=[]) ae (fun l=>Frz.arr l _ _ _ _ _) Z) (C Z (w27 [(qF f),(qF g)] (nB Z)) Z Z Z (Eg Z Z (fun hc=>B.move Z) Z (Eg Z Z (fun hc=>B.jk (qt Z hc) un22) Z (Eg Z Z (fun hc=>B.gtr (qt Z hc) Z) Z (E Z (B.pick Z Z Z (gdB Z) Z (pick_and _)) (Eg Z Z (fun hc=>B.move Z) Z (Eg Z Z (fun hc=>B.jk (qt Z hc) un22) Z (Eg Z Z (fun hc=>B.gtr (qt Z hc) Z) Z (E Z (B.pick Z Z Z (gdB Z) Z (pick_and _)) (Eg Z Z (fun hc=>B.move Z) Z (Eg Z Z (fun hc=>B.call (w82 f hlf (sm_f (eq_of_beq hc))) Z (ds1 (qt Z hc)) Z) Z ?_)))))))))))))
 refine Eg Z Z (fun hc=>B.move Z) Z (Eg Z Z (fun hc=>B.call (w82 g hlg (sm_g (eq_of_beq hc))) Z (ds1 (qt Z hc)) Z) Z (Eg Z Z (fun hc=>B.add (qt Z hc) (qt Z hc) (by have hk9:=sm_b (eq_of_beq hc);unfold R64;omega)) Z (Eg Z Z (fun hc=>B.gtr (qt Z hc) Z) Z (E Z (B.pick Z Z Z (gdB Z) Z (pick_and _)) (Cj [(0,vL eY f),(1,vL eY g),(5,vL eY (erL (qB [(qF f),(qF g)]) (polT (plF f++plF g)))),(6,vI (erE (qB [(qF f),(qF g)]) (polE (plF f++plF g)))),(7,vL eY (erL (mulE f g) (polT (q8 (plF f) (plF g))))),(8,vI (erE (mulE f g) (polE (q8 (plF f) (plF g))))),(9,vI (qB [(qF f),(qF g)])),(10,vI (mulE f g))] [] Z Z Z (fun h3=>?_) (fun h3=>?_) ?_)))))
 ·refine pk Z ?_
  show Sub _ _ _
  first|rw[sm_1 ab]|rw[sm_2 ab]
  exact sb Z Z rfl
 ·refine pk Z ?_
  show Sub _ _ _
  first|rw[sm_1 ab]|rw[sm_2 ab]
  exact sb Z Z rfl
 refine E Z (B.Zy (enc:=eY) Z) (E Z (B.Zy (enc:=eY) Z) (Cj [(5,vL eY (erL (qB [(qF f),(qF g)]) (polT (plF f++plF g)))),(6,vI (erE (qB [(qF f),(qF g)]) (polE (plF f++plF g)))),(7,vL eY (erL (mulE f g) (polT (q8 (plF f) (plF g))))),(8,vI (erE (mulE f g) (polE (q8 (plF f) (plF g))))),(9,vI (qB [(qF f),(qF g)])),(10,vI (mulE f g)),(11,vL eR (sumV f g)),(12,vL eR (proV f g))] [] Z Z Z (fun h4=>?_) (fun h4=>?_) ?_))
 ·replace h4:=of_decide_eq_true h4
  refine C Z (w83y hsf hsg ab) Z Z Z (C Z (w84y hsf hsg ab) Z Z Z (pk Z ?_))
  show Sub _ _ _
  first|rw[sm_3 ab,sm_5 ab]|rw[sm_4 ab,sm_6 ab]
  exact sb Z Z rfl
 ·replace h4:=of_decide_eq_false h4
  refine pk Z ?_
  show Sub _ _ _
  first|rw[sm_3 ab,sm_5 ab]|rw[sm_4 ab,sm_6 ab]
  exact sb Z Z rfl
 refine C Z (w19s hsf hsg) Z Z Z (Et Z Z (B.move Z) (Et Z Z (B.move Z) (Et Z Z (B.move Z) (Et Z Z (B.move Z) (Et Z Z (B.call (w19m hsf hsg) Z Z Z) (E Z (B.pick Z Z Z Z Z (pick_tt _)) (Eg Z Z (fun hc=>B.call (w20 hp hf) Z Z Z) Z (E Z (B.pick Z Z Z (gdB Z) Z (pick_and _)) ?_))))))))
 refine Rt Z ?_
 exact leafL (val0:=vB (bif (bif true then true else false) then true else false)) (out0:=[]) (.inr Z) ae eE rfl
end Go.Lens.Tb
end
