/- A part of the proof of NightEventsCardSaid, without conditions. -/
import Derived.Test.YtomghboflcafbaaGreatDoorM3
import Derived.Test.YtomghboflcafbaaGreatDoorS4
import Derived.Test.YtomghboflcafbaaGreatDoorS10
import Derived.Test.YtomghboflcafbaaGreatDoorM2
import Derived.Stop.LaidErr
import Derived.Stop.ErrReads
import Derived.Test.YtomghboflcafbaaGreatDoorRows
import Derived.MakeChecks
import Derived.Lib.LaidTab
import Derived.LaidLaws
import Derived.Stop.Joined
import Derived.RowKit
set_option linter.unusedVariables false
set_option linter.unusedSimpArgs false
set_option linter.unusedSectionVars false
section
namespace Go.Lens.Tm
open Go.Lens.Tb Go.Proofs
variable [Lz]
set_option maxHeartbeats 4000000
set_option maxRecDepth 100000
attribute [local irreducible] TK PK T RG EfR Body CG
theorem eqv_S {a b:ByteArray}:eqV .string (.lit (.string a)) (.lit (.string b))=some (decide (a=b)):=by
 have:decide (a=b)=(a.toList==b.toList):=by rw[zM];simp[toList_inj]
 rw[this];rfl
def shL (l:List Ev) (n:Int):Bool:=if n<((l.length:Nat):Int) then false else l.all shE
section
variable {l:List Ev} {n:Int} {i:Nat}
theorem shl_no (h1:n<((l.length:Nat):Int)):shL l n=false:=by rw[shL,if_pos h1]
theorem shl_f (h1:¬n<((l.length:Nat):Int)) (hi:i<l.length) (h:shE (l.getD i zV)=false):shL l n=false:=by
 rw[shL,if_neg h1,List.all_eq_false]
 exact⟨_,getD_mem (z:=zV) hi,by rw[h];simp⟩
theorem shl_t (h1:¬n<((l.length:Nat):Int)) (h:∀ j,j<l.length->shE (l.getD j zV)=true):shL l n=true:=by
 rw[shL,if_neg h1,zp]
 intro x hx
 obtain⟨j,hj,rfl⟩:=mem_getD zV hx
 exact h j hj
theorem shl_all (h:(!(shL l n))=false):((l.length:Nat):Int)<=n/\∀ x∈l,shE x=true:=by
 have h:shL l n=true:=by simpa using h
 unfold shL at h
 split at h
 ·cases h
 exact⟨by omega,fun x hx=>zp.1 h x hx⟩
end
theorem sh_evs {e:Ev} (h:shE e=true):EvS e:=by
 obtain⟨_,h1,h2,h3,_⟩:=shE_bd h
 exact⟨by omega,by omega,by omega⟩
abbrev smX (a b:Reg):Bool:=(bif (bif (bif (bif (bif (decide (a.1≠b.1)) then true else (!((decide (a.2.1.1=b.2.1.1))&&((decide (a.2.1.2.1=b.2.1.2.1))&&((a.2.1.2.2.1==b.2.1.2.2.1)&&(a.2.1.2.2.2==b.2.1.2.2.2)))))) then true else (decide ((a.2.2.1.length:Int)≠(b.2.2.1.length:Int)))) then true else (!(decide (a.2.2.2.1=b.2.2.2.1)))) then true else (decide ((a.2.2.2.2.1.length:Int)≠(b.2.2.2.2.1.length:Int)))) then true else (!(decide (a.2.2.2.2.2=b.2.2.2.2.2))))
theorem sm_hd {a b:Reg} (h:smX a b=false):a.1=b.1/\a.2.1=b.2.1/\a.2.2.1.length=b.2.2.1.length/\a.2.2.2.1=b.2.2.2.1/\a.2.2.2.2.1.length=b.2.2.2.2.1.length/\a.2.2.2.2.2=b.2.2.2.2.2:=by
 simp only[smX,jy,qc,zH,zi,Bool.not_eq_false',zf,zj,beq_iff_eq,ne_eq] at h
 obtain⟨⟨⟨⟨⟨h1,h2,h3,h4,h5⟩,h6⟩,h7⟩,h8⟩,h9⟩:=h
 exact⟨h1,Prod.ext h2 (Prod.ext h3 (Prod.ext h4 h5)),by omega,h7,by omega,h9⟩
theorem sm_ne {a b:Reg} (h:smX a b=true):a≠b:=fun e=>by
 subst e
 simp at h
abbrev tgN (x y:Tgt):Bool:=(!((decide ((Tgt.name x)=(Tgt.name y)))&&((decide ((Tgt.bright x)=(Tgt.bright y)))&&((decide ((Tgt.place x)=(Tgt.place y)))&&((decide ((Tgt.length x)=(Tgt.length y)))&&((decide ((Tgt.from_ x)=(Tgt.from_ y)))&&((decide ((Tgt.to x)=(Tgt.to y)))&&(decide ((Tgt.limit x)=(Tgt.limit y))))))))))
theorem tg_eq {x y:Tgt} (h:tgN x y=false):x=y:=by
 cases x;cases y
 simp only[tgN,Bool.not_eq_false',zj,zf] at h
 obtain⟨h1,h2,h3,h4,h5,h6,h7⟩:=h
 subst h1 h2 h3 h4 h5 h6 h7;rfl
theorem tg_ne {x y:Tgt} (h:tgN x y=true):x≠y:=fun e=>by subst e;simp at h
instance:DecidableEq Tgt:=fun x y=>if h:tgN x y=false then .isTrue (tg_eq h) else .isFalse (tg_ne ((Bool.not_eq_false _).mp h))
instance dqA:DecidableEq Doc:=inferInstance
instance dqB:DecidableEq (List Doc×List Stp):=inferInstance
instance dqC:DecidableEq (List (List UInt8)×List Doc×List Stp):=inferInstance
instance dqD:DecidableEq (List Tgt×List (List UInt8)×List Doc×List Stp):=inferInstance
instance dqE:DecidableEq Reg:=inferInstance
abbrev dcN (x y:Doc):Bool:=(bif (bif (decide (x.1≠y.1)) then true else (decide (x.2.1≠y.2.1))) then true else (!(decide (x.2.2=y.2.2))))
theorem dc_eq {x y:Doc} (h:dcN x y=false):x=y:=by
 simp only[dcN,jy,qc,zH,zi,Bool.not_eq_false',zf,ne_eq] at h
 exact Prod.ext h.1.1 (Prod.ext h.1.2 h.2)
theorem dc_ne {x y:Doc} (h:dcN x y=true):x≠y:=fun e=>by subst e;simp at h
theorem rg_eq {a b:Reg} (h:smX a b=false) (h1:∀ j,j<a.2.2.1.length->a.2.2.1.getD j default=b.2.2.1.getD j default) (h2:∀ j,j<a.2.2.2.2.1.length->a.2.2.2.2.1.getD j zD=b.2.2.2.2.1.getD j zD):a=b:=by
 obtain⟨k1,k2,k3,k4,k5,k6⟩:=sm_hd h
 exact Prod.ext k1 (Prod.ext k2 (Prod.ext (list_ext_getD default k3 h1) (Prod.ext k4 (Prod.ext (list_ext_getD zD k5 h2) k6))))
theorem rp_len {l:List Ev} (hl:l.length<=1000):((rpF l).1.2.2.1.length<=1000000/\(rpF l).1.2.2.2.1.length<=1000000/\(rpF l).1.2.2.2.2.1.length<=1000000/\(rpF l).1.2.2.2.2.2.length<=1000)/\∀ d∈(rpF l).1.2.2.2.2.1,d.2.2.length<=1000000:=by
 by_cases h:(cntF l).2.2=0
 ·rw[rp_ok h];exact ro_len (regF_ok (cntF_ok l)) hl
 rw[rp_no h];exact⟨⟨by simp,by simp,by simp,by simp⟩,fun d hd=>by cases hd⟩
theorem fa277_1:fadQ tab 277 1=some 1:=by kernel_rfl
theorem fq49:flatEq tab 49=some [.string,.int (.i64),.int (.i64),.int (.i64),.int (.i64),.int (.i64),.int (.i64)]:=by kernel_rfl
theorem w65l (l:List Ev) (n:Int) (hl:l.length<=1000000000000000):CKa 65 [vL eE l,vI n] (vB (shL l n)):=by
 refine cG qf65 rfl (nB rfl) rfl (E rfl (B.je rfl ju) (Cp rfl rfl (fun h1=>?_) (fun h1=>?_)))
 ·exact Rt rfl (leaf (val0:=vB false) (by kernel_rfl) (lb (by (exact (shl_no h1).symm))))
 refine l1 (fun (i:Nat)=>[(0,vL eE l),(5,vI i)]) (fun _=>[]) (fun i=>i<=l.length/\∀ j,j<i->shE (l.getD j zV)=true) (fun i=>l.length-i) 0 rfl ?_ (sb rfl rfl rfl) ?_
 · exact⟨zq _,fun j hj=>by omega⟩
 intro i hI0
 refine E rfl (B.je rfl ju) (Cp rfl rfl (fun h2=>?_) (fun h2=>?_))
 ·refine E rfl (B.idx (z:=zV) (i:=i) rfl rfl ju kz (fun _=>rfl) rfl (by omega)) (E rfl (B.lenB (a:=(l.getD i zV).2.1) rfl un9) (Eg rfl rfl (fun hc=>B.move rfl) rfl (Eg rfl rfl (fun hc=>B.move rfl) rfl (Eg rfl rfl (fun hc=>B.idx (z:=zV) (i:=i) (qy rfl hc) (qy rfl hc) ju kz (fun _=>rfl) rfl (by omega)) rfl (Eg rfl rfl (fun hc=>B.fadP (qy rfl hc) fa119_2 rfl) rfl (Eg rfl rfl (fun hc=>B.loadP (qy rfl hc) ag73 sz73) rfl (Eg rfl rfl (fun hc=>B.je (qy rfl hc) ji) rfl (Eg rfl rfl (fun hc=>B.gtr (qy rfl hc) rfl) rfl (E rfl (B.pick rfl rfl rfl rfl (gdB rfl) (qZ _)) (Eg rfl rfl (fun hc=>B.move rfl) rfl (Eg rfl rfl (fun hc=>B.move rfl) rfl (Eg rfl rfl (fun hc=>B.idx (z:=zV) (i:=i) (qy rfl hc) (qy rfl hc) ju kz (fun _=>rfl) rfl (by omega)) rfl (Eg rfl rfl (fun hc=>B.fadP (qy rfl hc) fa119_3 rfl) rfl ?_)))))))))))))
  refine Eg rfl rfl (fun hc=>B.loadP (qy rfl hc) ag22 sz22) rfl (Eg rfl rfl (fun hc=>B.je (qy rfl hc) kn) rfl (Eg rfl rfl (fun hc=>B.gtr (qy rfl hc) rfl) rfl (E rfl (B.pick rfl rfl rfl rfl (gdB rfl) (qZ _)) (Eg rfl rfl (fun hc=>B.move rfl) rfl (Eg rfl rfl (fun hc=>B.move rfl) rfl (Eg rfl rfl (fun hc=>B.idx (z:=zV) (i:=i) (qy rfl hc) (qy rfl hc) ju kz (fun _=>rfl) rfl (by omega)) rfl (Eg rfl rfl (fun hc=>B.fadP (qy rfl hc) fa119_4 rfl) rfl (Eg rfl rfl (fun hc=>B.loadP (qy rfl hc) ag9 sz9) rfl (Eg rfl rfl (fun hc=>B.lenB (a:=(l.getD i zV).2.2.2.2) (qy rfl hc) un9) rfl (Eg rfl rfl (fun hc=>B.gtr (qy rfl hc) rfl) rfl (E rfl (B.pick rfl rfl rfl rfl (gdB rfl) (qZ _)) (Cb rfl rfl (fun h3=>?_) (fun h3=>?_)))))))))))))
  ·exact Rt rfl (leaf (val0:=vB false) (by kernel_rfl) (lb (by (exact (shl_f h1 (by omega) (sh_c h3)).symm))))
  refine l1 (fun (k:Nat)=>[(0,vL eE l),(5,vI i),(6,vI k)]) (fun _=>[]) (fun k=>k<=List.length (l.getD i zV).2.2.1/\∀ j,j<k->¬60<((List.length (List.getD (l.getD i zV).2.2.1 j []):Nat):Int)) (fun k=>List.length (l.getD i zV).2.2.1-k) 0 rfl ?_ (sb rfl rfl rfl) ?_
  · exact⟨zq _,fun j hj=>by omega⟩
  intro k hI1
  have h6n:=sh_6 h3
  refine E rfl (B.idx (z:=zV) (i:=i) rfl rfl ju kz (fun _=>rfl) rfl (by omega)) (E rfl (B.je rfl ji) (Cp rfl rfl (fun h4=>?_) (fun h4=>?_)))
  ·refine E rfl (B.idx (z:=zV) (i:=i) rfl rfl ju kz (fun _=>rfl) rfl (by omega)) (E rfl (B.idx (z:=[]) (i:=k) rfl rfl ji sz9 (fun _=>rfl) rfl (by omega)) (E rfl (B.lenB (a:=(List.getD (l.getD i zV).2.2.1 k [])) rfl un9) (Cp rfl rfl (fun h5=>?_) (fun h5=>?_))))
   ·exact Rt rfl (leaf (val0:=vB false) (by kernel_rfl) (lb (by (exact (shl_f h1 (by omega) (sh_n (by omega) h5)).symm))))
   refine E rfl (B.add rfl rfl (by unfold R64;omega)) (pk rfl (L1 (k+1) ?_ ?_ (sb rfl rfl rfl)))
   · (refine⟨by omega,fun j hj=>?_⟩;rcases zy.1 hj with h|h;exact hI1.2 j h;subst h;assumption)
   · omega
  refine E rfl (B.idx (z:=zV) (i:=i) rfl rfl ju kz (fun _=>rfl) rfl (by omega)) (E rfl (B.seqB (a:=(l.getD i zV).2.1) (b:=[114,117,110]) rfl rfl) (Eg rfl rfl (fun hc=>B.move rfl) rfl (Eg rfl rfl (fun hc=>B.move rfl) rfl (Eg rfl rfl (fun hc=>B.idx (z:=zV) (i:=i) (qy rfl hc) (qy rfl hc) ju kz (fun _=>rfl) rfl (by omega)) rfl (Eg rfl rfl (fun hc=>B.loadA (ds:=[pI (l.getD i zV).1,pS (bsO (l.getD i zV).2.1),pL eN (l.getD i zV).2.2.1,pL eI (l.getD i zV).2.2.2.1,pS (bsO (l.getD i zV).2.2.2.2)]) (qy rfl hc) ag119 kz (nB rfl) rfl) rfl (Eg rfl rfl (fun hc=>B.call (w140 (l.getD i zV) (by have:=sh_t h3;omega)) rfl (ds1 (qy rfl hc)) rfl) rfl (Eg rfl rfl (fun hc=>B.eql (qy rfl hc) rfl) rfl (E rfl (B.pick rfl rfl rfl (gdB rfl) rfl (qL _)) (Cb rfl rfl (fun h6=>?_) (fun h6=>?_))))))))))
  ·refine E rfl (B.idx (z:=zV) (i:=i) rfl rfl ju kz (fun _=>rfl) rfl (by omega)) (C rfl (w58 (l.getD i zV).2.2.2.2 (by have:=sh_t h3;omega)) rfl rfl rfl (C rfl (w61z (l:=(qX ZI (l.getD i zV).2.2.2.2).1) (sh_k h6)) rfl rfl rfl (Cp rfl rfl (fun h7=>?_) (fun h7=>?_))))
   ·exact Rt rfl (leaf (val0:=vB false) (by kernel_rfl) (lb (by (exact (shl_f h1 (by omega) (sh_r h6 h7)).symm))))
   refine E rfl (B.add rfl rfl (by unfold R64;omega)) (pk rfl (L1 (i+1) ?_ ?_ (sb rfl rfl rfl)))
   · (refine⟨by omega,fun j hj=>?_⟩;rcases zy.1 hj with h|h;exact hI0.2 j h;subst h;exact sh_y2 h3 (fun j hj=>hI1.2 j (by omega)) h6 h7)
   · omega
  refine E rfl (B.add rfl rfl (by unfold R64;omega)) (pk rfl (L1 (i+1) ?_ ?_ (sb rfl rfl rfl)))
  · (refine⟨by omega,fun j hj=>?_⟩;rcases zy.1 hj with h|h;exact hI0.2 j h;subst h;exact sh_y1 h3 (fun j hj=>hI1.2 j (by omega)) h6)
  · omega
 exact Rt rfl (leaf (val0:=vB true) (by kernel_rfl) (lb (by (exact (shl_t h1 fun j hj=>hI0.2 j (by omega)).symm))))
theorem w83 (r:Reg) (hR:r.2.2.1.length<=1000000/\r.2.2.2.1.length<=1000000/\r.2.2.2.2.1.length<=1000000/\r.2.2.2.2.2.length<=1000) (hD:∀ d∈r.2.2.2.2.1,d.2.2.length<=1000000):CKa 83 [.pv (gR r)] (.pv (gR r)):=by
 refine cG qf83 rfl (nB rfl) rfl (E rfl (B.jj rfl (fun l=>Frz.boxN l rfl) rfl) (C rfl (w16 r.2.2.1 (by omega)) rfl rfl rfl (C rfl (w51 r.2.2.2.2.2 (by omega)) rfl rfl rfl (E rfl (B.run (val:=.agg [vI r.1,vS (bsO r.2.1.1),vI r.2.1.2.1,vB r.2.1.2.2.1,vB r.2.1.2.2.2,vL eT r.2.2.1,vL eN r.2.2.2.1,.nils,vL eP r.2.2.2.2.2]) (m:=[]) (rd:=[]) (by kernel_rfl)) (E rfl (B.jj rfl (fun l=>Frz.boxN l rfl) rfl) (Dr rfl (by kernel_rfl) ?_))))))
 refine tk 2 rfl ?_
 refine TK.adoptC 4 7 905 3 277 rfl rfl rfl rfl ?_
 refine TK.norm ⟨[(1,.bref 2 0),(2,.bref 3 0),(3,.bref 4 0)],[(2,bR 154 r),(3,.box 136 [vI 0,vS (bsO []),vI 0,vB false,vB false,vL eT [],vL eN [],vL eD [],vL eP []]),(4,.box 136 [vI r.1,vS (bsO r.2.1.1),vI r.2.1.2.1,vB r.2.1.2.2.1,vB r.2.1.2.2.2,vL eT r.2.2.1,vL eN r.2.2.2.1,.aref 905 0,vL eP r.2.2.2.2.2]),(905,.arr 0 3 277 (List.map eD []))]⟩ (sb rfl rfl rfl) ?_
 refine kc (E rfl (B.je rfl un152) (l3 (fun (k:Nat) (v:Nat) (out:List Doc)=>[(2,.bref 3 0),(3,.bref 4 0),(20,vL eD r.2.2.2.2.1),(21,vI (r.2.2.2.2.1.length:Int)),(22,vI k)]) (fun _ v out=>[(3,.box 136 [vI 0,vS (bsO []),vI 0,vB false,vB false,vL eT [],vL eN [],vL eD [],vL eP []]),(4,.box 136 [vI r.1,vS (bsO r.2.1.1),vI r.2.1.2.1,vB r.2.1.2.2.1,vB r.2.1.2.2.2,vL eT r.2.2.1,vL eN r.2.2.2.1,.aref 905 v,vL eP r.2.2.2.2.2]),(905,.arr v 3 277 (List.map eD out))]) (fun k _ out=>k<=r.2.2.2.2.1.length/\out=List.take k r.2.2.2.2.1) (fun k _ _=>r.2.2.2.2.1.length-k) 0 0 [] rfl ?_ (sb rfl rfl rfl) ?_))
 · exact⟨zq _,rfl⟩
 intro k v out hI0
 have hol:out.length<=1000000:=by rw[hI0.2,zn];omega
 refine Cp rfl rfl (fun h1=>?_) (fun h1=>?_)
 ·have hdf:=hD _ (getD_mem (z:=zD) (k:=k) (by omega))
  refine E rfl (B.idx (z:=zD) (i:=k) rfl rfl un152 sz279 (fun _=>rfl) rfl (by omega)) (E rfl (B.jj rfl (fun l=>Frz.boxN l rfl) rfl) (C rfl (w34 (r.2.2.2.2.1.getD k zD).2.2 (by omega)) rfl rfl rfl (E rfl (B.jj (val:=.pv (.slice (List.map eD [(r.2.2.2.2.1.getD k zD)]))) rfl (fun l=>Frz.arr l _ _ _ _ _) rfl) (E rfl (B.append rfl rfl rfl un134 in277 rfl (fun _=>rfl) by277 (by (simp only[za,zb,zd];omega))) (E rfl (B.storeR rfl rfl rfl rfl sz134 rfl rfl) (Dr rfl (by kernel_rfl) (E rfl (B.add rfl rfl (by unfold R64;omega)) (pk rfl (L3 (k+1) (v+1) (out++[(r.2.2.2.2.1.getD k zD)]) ?_ ?_ (sb rfl rfl rfl))))))))))
  · (exact⟨by omega,by rw[hI0.2];exact take_gx zD (by omega)⟩)
  · omega
 refine tk 7 rfl ?_
 refine TK.frzC (h:=4) (h2:=905) (cs:=[pI r.1,pS (bsO r.2.1.1),pI r.2.1.2.1,pB r.2.1.2.2.1,pB r.2.1.2.2.2,pL eT r.2.2.1,pL eN r.2.2.2.1,pL eD out,pL eP r.2.2.2.2.2]) rfl rfl (by simp[pvOfL,pvOf,qx]) ?_
 refine TK.norm ⟨[(2,.bref 3 0),(3,.bref 4 0)],[(3,.box 136 [vI 0,vS (bsO []),vI 0,vB false,vB false,vL eT [],vL eN [],vL eD [],vL eP []]),(4,.box 136 [vI r.1,vS (bsO r.2.1.1),vI r.2.1.2.1,vB r.2.1.2.2.1,vB r.2.1.2.2.2,vL eT r.2.2.1,vL eN r.2.2.2.1,vL eD out,vL eP r.2.2.2.2.2])]⟩ (sb rfl rfl rfl) ?_
 exact kc (Rt rfl (leaf (val0:=.pv (.agg [pI r.1,pS (bsO r.2.1.1),pI r.2.1.2.1,pB r.2.1.2.2.1,pB r.2.1.2.2.2,pL eT r.2.2.1,pL eN r.2.2.2.1,pL eD out,pL eP r.2.2.2.2.2])) (by kernel_rfl) (by rw[hI0.2,zx (by omega)])))
theorem w82 (a b:Reg) (hR:a.2.2.1.length<=1000000/\a.2.2.2.1.length<=1000000/\a.2.2.2.2.1.length<=1000000/\a.2.2.2.2.2.length<=1000) (hD:∀ d∈a.2.2.2.2.1,d.2.2.length<=1000000):CKa 82 [.pv (gR a),.pv (gR b)] (vB (decide (a=b))):=by
 refine cG qf82 rfl (nB rfl) rfl (Eg rfl rfl (fun hc=>B.fadB rfl fa136_1 rfl) rfl (Eg rfl rfl (fun hc=>B.loadBA (qy rfl hc) rfl rfl ag89 sz89 rfl rfl) rfl (Eg rfl rfl (fun hc=>B.fadB rfl fa136_1 rfl) rfl (Eg rfl rfl (fun hc=>B.loadBA (qy rfl hc) rfl rfl ag89 sz89 rfl rfl) rfl (Eg rfl rfl (fun hc=>B.stqN (qy rfl hc) (qy rfl hc) fq89 (Zk eqv_s (Zk eqv_i (Zk eqv_b (eqv_last eqv_b))))) rfl (E rfl (B.pick rfl rfl rfl rfl (gdB rfl) (qZ _)) (Eg rfl rfl (fun hc=>B.fadB rfl fa136_2 rfl) rfl (Eg rfl rfl (fun hc=>B.jM (qy rfl hc) rfl rfl ag27 sz27 rfl) rfl (Eg rfl rfl (fun hc=>B.je (qy rfl hc) un27) rfl (Eg rfl rfl (fun hc=>B.fadB rfl fa136_2 rfl) rfl (Eg rfl rfl (fun hc=>B.jM (qy rfl hc) rfl rfl ag27 sz27 rfl) rfl (Eg rfl rfl (fun hc=>B.je (qy rfl hc) un27) rfl (Eg rfl rfl (fun hc=>B.neq (qy rfl hc) (qy rfl hc)) rfl ?_)))))))))))))
 refine E rfl (B.pick rfl rfl rfl rfl (gdB rfl) (qZ _)) (Eg rfl rfl (fun hc=>B.fadB rfl fa136_3 rfl) rfl (Eg rfl rfl (fun hc=>B.jM (qy rfl hc) rfl rfl ag73 sz73 rfl) rfl (Eg rfl rfl (fun hc=>B.fadB rfl fa136_3 rfl) rfl (Eg rfl rfl (fun hc=>B.jM (qy rfl hc) rfl rfl ag73 sz73 rfl) rfl (Eg rfl rfl (fun hc=>B.call (w45 a.2.2.2.1 b.2.2.2.1 (by omega)) rfl (ds2 (qy rfl hc) (qy rfl hc)) rfl) rfl (Eg rfl rfl (fun hc=>B.not (qy rfl hc)) rfl (E rfl (B.pick rfl rfl rfl rfl (gdB rfl) (qZ _)) (Eg rfl rfl (fun hc=>B.fadB rfl fa136_4 rfl) rfl (Eg rfl rfl (fun hc=>B.jM (qy rfl hc) rfl rfl ag134 sz134 rfl) rfl (Eg rfl rfl (fun hc=>B.je (qy rfl hc) un134) rfl (Eg rfl rfl (fun hc=>B.fadB rfl fa136_4 rfl) rfl (Eg rfl rfl (fun hc=>B.jM (qy rfl hc) rfl rfl ag134 sz134 rfl) rfl (Eg rfl rfl (fun hc=>B.je (qy rfl hc) un134) rfl ?_)))))))))))))
 refine Eg rfl rfl (fun hc=>B.neq (qy rfl hc) (qy rfl hc)) rfl (E rfl (B.pick rfl rfl rfl rfl (gdB rfl) (qZ _)) (Eg rfl rfl (fun hc=>B.fadB rfl fa136_5 rfl) rfl (Eg rfl rfl (fun hc=>B.jM (qy rfl hc) rfl rfl ag90 sz90 rfl) rfl (Eg rfl rfl (fun hc=>B.fadB rfl fa136_5 rfl) rfl (Eg rfl rfl (fun hc=>B.jM (qy rfl hc) rfl rfl ag90 sz90 rfl) rfl (Eg rfl rfl (fun hc=>B.call (w50 a.2.2.2.2.2 b.2.2.2.2.2 (by omega)) rfl (ds2 (qy rfl hc) (qy rfl hc)) rfl) rfl (Eg rfl rfl (fun hc=>B.not (qy rfl hc)) rfl (E rfl (B.pick rfl rfl rfl rfl (gdB rfl) (qZ _)) (Cb rfl rfl (fun h1=>?_) (fun h1=>?_))))))))))
 ·exact Rt rfl (leaf (val0:=vB false) (by kernel_rfl) (lb (by (exact (zk (sm_ne h1)).symm))))
 have hhd:=sm_hd h1
 have hd1:=hhd.2.2.1
 have hd2:=hhd.2.2.2.2.1
 refine l1 (fun (k:Nat)=>[(2,.bref 3 0),(3,.bref 4 0),(5,vI k)]) (fun _=>[(3,bR 136 a),(4,bR 136 b)]) (fun k=>k<=a.2.2.1.length/\∀ j,j<k->List.getD a.2.2.1 j default=List.getD b.2.2.1 j default) (fun k=>a.2.2.1.length-k) 0 rfl ?_ (sb rfl rfl rfl) ?_
 · exact⟨zq _,fun j hj=>by omega⟩
 intro k hI0
 refine E rfl (B.je rfl un27) (Cp rfl rfl (fun h2=>?_) (fun h2=>?_))
 ·refine E rfl (B.idx (z:=default) (i:=k) rfl rfl un27 sz49 (fun _=>rfl) rfl (by omega)) (E rfl (B.idx (z:=default) (i:=k) rfl rfl un27 sz49 (fun _=>rfl) rfl (by omega)) (E rfl (B.stqN rfl rfl fq49 (Zk eqv_S (Zk eqv_i (Zk eqv_i (Zk eqv_i (Zk eqv_i (Zk eqv_i (eqv_last eqv_i)))))))) (Dr rfl (by kernel_rfl) (Cb rfl rfl (fun h3=>?_) (fun h3=>?_)))))
  ·exact Rt rfl (leaf (val0:=vB false) (by kernel_rfl) (lb (by (exact (zk fun e=>by subst e;exact tg_ne h3 rfl).symm))))
  refine E rfl (B.add rfl rfl (by unfold R64;omega)) (pk rfl (L1 (k+1) ?_ ?_ (sb rfl rfl rfl)))
  · (refine⟨by omega,fun j hj=>?_⟩;rcases zy.1 hj with h|h;exact hI0.2 j h;subst h;exact tg_eq h3)
  · omega
 refine l1 (fun (i:Nat)=>[(2,.bref 3 0),(3,.bref 4 0),(6,vI i)]) (fun _=>[(3,bR 136 a),(4,bR 136 b)]) (fun i=>i<=a.2.2.2.2.1.length/\∀ j,j<i->List.getD a.2.2.2.2.1 j zD=List.getD b.2.2.2.2.1 j zD) (fun i=>a.2.2.2.2.1.length-i) 0 rfl ?_ (sb rfl rfl rfl) ?_
 · exact⟨zq _,fun j hj=>by omega⟩
 intro i hI1
 refine E rfl (B.je rfl un134) (Cp rfl rfl (fun h4=>?_) (fun h4=>?_))
 ·have hdf:=hD _ (getD_mem (z:=zD) (k:=i) (by omega))
  refine E rfl (B.idx (z:=zD) (i:=i) rfl rfl un134 sz277 (fun _=>rfl) rfl (by omega)) (E rfl (B.idx (z:=zD) (i:=i) rfl rfl un134 sz277 (fun _=>rfl) rfl (by omega)) (E rfl (B.sneB (a:=(a.2.2.2.2.1.getD i zD).1) (b:=(b.2.2.2.2.1.getD i zD).1) rfl rfl) (Eg rfl rfl (fun hc=>B.fadB rfl fa136_4 rfl) rfl (Eg rfl rfl (fun hc=>B.jM (qy rfl hc) rfl rfl ag134 sz134 rfl) rfl (Eg rfl rfl (fun hc=>B.move rfl) rfl (Eg rfl rfl (fun hc=>B.idx (z:=zD) (i:=i) (qy rfl hc) (qy rfl hc) un134 sz277 (fun _=>rfl) rfl (by omega)) rfl (Eg rfl rfl (fun hc=>B.fadP (qy rfl hc) fa277_1 rfl) rfl (Eg rfl rfl (fun hc=>B.loadP (qy rfl hc) ag3 sz3) rfl (Eg rfl rfl (fun hc=>B.fadB rfl fa136_4 rfl) rfl (Eg rfl rfl (fun hc=>B.jM (qy rfl hc) rfl rfl ag134 sz134 rfl) rfl (Eg rfl rfl (fun hc=>B.move rfl) rfl (Eg rfl rfl (fun hc=>B.idx (z:=zD) (i:=i) (qy rfl hc) (qy rfl hc) un134 sz277 (fun _=>rfl) rfl (by omega)) rfl (Eg rfl rfl (fun hc=>B.fadP (qy rfl hc) fa277_1 rfl) rfl ?_)))))))))))))
  refine Eg rfl rfl (fun hc=>B.loadP (qy rfl hc) ag3 sz3) rfl (Eg rfl rfl (fun hc=>B.neq (qy rfl hc) (qy rfl hc)) rfl (E rfl (B.pick rfl rfl rfl rfl (gdB rfl) (qZ _)) (Eg rfl rfl (fun hc=>B.fadB rfl fa136_4 rfl) rfl (Eg rfl rfl (fun hc=>B.jM (qy rfl hc) rfl rfl ag134 sz134 rfl) rfl (Eg rfl rfl (fun hc=>B.move rfl) rfl (Eg rfl rfl (fun hc=>B.idx (z:=zD) (i:=i) (qy rfl hc) (qy rfl hc) un134 sz277 (fun _=>rfl) rfl (by omega)) rfl (Eg rfl rfl (fun hc=>B.fadP (qy rfl hc) fa277_2 rfl) rfl (Eg rfl rfl (fun hc=>B.loadP (qy rfl hc) ag60 sz60) rfl (Eg rfl rfl (fun hc=>B.fadB rfl fa136_4 rfl) rfl (Eg rfl rfl (fun hc=>B.jM (qy rfl hc) rfl rfl ag134 sz134 rfl) rfl (Eg rfl rfl (fun hc=>B.move rfl) rfl (Eg rfl rfl (fun hc=>B.idx (z:=zD) (i:=i) (qy rfl hc) (qy rfl hc) un134 sz277 (fun _=>rfl) rfl (by omega)) rfl (Eg rfl rfl (fun hc=>B.fadP (qy rfl hc) fa277_2 rfl) rfl ?_)))))))))))))
  refine Eg rfl rfl (fun hc=>B.loadP (qy rfl hc) ag60 sz60) rfl (Eg rfl rfl (fun hc=>B.call (w42 (a.2.2.2.2.1.getD i zD).2.2 (b.2.2.2.2.1.getD i zD).2.2 (by omega)) rfl (ds2 (qy rfl hc) (qy rfl hc)) rfl) rfl (Eg rfl rfl (fun hc=>B.not (qy rfl hc)) rfl (E rfl (B.pick rfl rfl rfl rfl (gdB rfl) (qZ _)) (Dr rfl (by kernel_rfl) (Cb rfl rfl (fun h5=>?_) (fun h5=>?_))))))
  ·exact Rt rfl (leaf (val0:=vB false) (by kernel_rfl) (lb (by (exact (zk fun e=>by subst e;exact dc_ne (by assumption) rfl).symm))))
  refine E rfl (B.add rfl rfl (by unfold R64;omega)) (pk rfl (L1 (i+1) ?_ ?_ (sb rfl rfl rfl)))
  · (refine⟨by omega,fun j hj=>?_⟩;rcases zy.1 hj with h|h;exact hI1.2 j h;subst h;exact dc_eq (by assumption))
  · omega
 exact Rt rfl (leaf (val0:=vB true) (by kernel_rfl) (lb (by (exact (zl (rg_eq h1 (fun j hj=>hI0.2 j (by omega)) fun j hj=>hI1.2 j (by omega))).symm))))
theorem w14 (ha:CKa 19 [] (.pv (.lit (.bool true)))) (hp:qH) (he:jb) (hm:HM) (hj:jA) (hj2:jg) (l:List Ev) (e:Ev) (hlb:l.length<=1000000000000000):CKa 14 [vL eE l,.pv (gV e)] (vB true):=by
 refine cG qf14 rfl (nB rfl) rfl (C rfl (w65l l 20 hlb) rfl rfl rfl ?_)
 refine ek rfl ?_
 cases h1:(!(shL l 20))
 ·refine Et rfl rfl (B.loadBA rfl rfl rfl ag119 kz rfl rfl) (Et rfl rfl (B.jj (val:=.pv (.slice (List.map eE [e]))) rfl (fun l=>Frz.arr l _ _ _ _ _) rfl) (Et rfl rfl (B.call (w65l [e] 1 (by simp only[zb,zd];omega)) rfl rfl rfl) (Et rfl rfl (B.not rfl) (E rfl (B.pkF rfl rfl rfl rfl rfl) (Cb rfl rfl (fun h2=>?_) (fun h2=>?_))))))
  ·exact C rfl (ha) rfl rfl rfl (Rt rfl (leaf rfl rfl))
  have hq1:=shl_all h1
  have hq2:=shl_all h2
  have hl:=hq1.1
  have hZ:∀ e∈l,EvS e:=fun x hx=>sh_evs (hq1.2 x hx)
  have hsz:=sh_evs (hq2.2 e (by simp))
  have hs1:=hsz.1
  have hs2:=hsz.2.1
  have hs3:=hsz.2.2
  have hrp:=rp_len (l:=l) (by omega)
  refine C rfl (w80 hp he hm hj hj2 l (by omega) hZ) rfl rfl rfl (E rfl (B.jj rfl (fun l=>Frz.boxN l rfl) rfl) (C rfl (w73 hp he hm hj hj2 l (by omega) hZ) rfl rfl rfl (E rfl (B.jj rfl (fun l=>Frz.boxN l rfl) rfl) (C rfl (w81 hp he hm hj hj2 e hsz.1 (by omega) (by omega)) rfl rfl rfl (C rfl (w69 e (by omega) (by omega) (by omega)) rfl rfl rfl (Eg rfl rfl (fun hc=>B.move rfl) rfl (Eg rfl rfl (fun hc=>B.move rfl) rfl (Eg rfl rfl (fun hc=>B.eql (qy rfl hc) (qy rfl hc)) rfl (E rfl (B.pick rfl rfl rfl (gdB rfl) rfl (qL _)) (Eg rfl rfl (fun hc=>B.move rfl) rfl (Eg rfl rfl (fun hc=>B.move rfl) rfl (Eg rfl rfl (fun hc=>B.eql (qy rfl hc) (qy rfl hc)) rfl (E rfl (B.pick rfl rfl rfl (gdB rfl) rfl (qL _)) ?_)))))))))))))
  refine Eg rfl rfl (fun hc=>B.loadBA rfl rfl rfl ag154 sz154 rfl rfl) rfl (Eg rfl rfl (fun hc=>B.call (w83 (rpF l).1 hrp.1 hrp.2) rfl (ds1 (qy rfl hc)) rfl) rfl (Eg rfl rfl (fun hc=>B.loadBA rfl rfl rfl ag136 sz136 rfl rfl) rfl (Eg rfl rfl (fun hc=>B.call (w82 (rpF l).1 (rpF l).1 hrp.1 hrp.2) rfl (ds2 (qy rfl hc) (qy rfl hc)) rfl) rfl (E rfl (B.pick rfl rfl rfl (gdB rfl) rfl (qL _)) (Eg rfl rfl (fun hc=>B.move rfl) rfl (Eg rfl rfl (fun hc=>B.loadBA rfl rfl rfl ag119 kz rfl rfl) rfl (Eg rfl rfl (fun hc=>B.call (w84 hp he hm hj hj2 l e (by omega) hZ hsz) rfl (ds2 (qy rfl hc) (qy rfl hc)) rfl) rfl (Eg rfl rfl (fun hc=>B.move rfl) rfl (Eg rfl rfl (fun hc=>B.loadBA rfl rfl rfl ag119 kz rfl rfl) rfl (Eg rfl rfl (fun hc=>B.call (w85 hp he hm hj hj2 l e (by omega) hZ hsz) rfl (ds2 (qy rfl hc) (qy rfl hc)) rfl) rfl (Eg rfl rfl (fun hc=>B.eql (qy rfl hc) (qy rfl hc)) rfl (E rfl (B.pick rfl rfl rfl (gdB rfl) rfl (qL _)) (Eg rfl rfl (fun hc=>B.call (ha) rfl rfl rfl) rfl ?_)))))))))))))
  exact E rfl (B.pick rfl rfl rfl (gdB rfl) rfl (qL _)) (Dr rfl (by kernel_rfl) (Rt rfl (leaf (val0:=vB (bif (bif (bif (bif (bif (decide ((jm e)=(jm e))) then (decide ((rpF l).2.2=(rpF l).2.2)) else false) then (decide ((rpF l).2.1=(rpF l).2.1)) else false) then (decide ((rpF l).1=(rpF l).1)) else false) then (decide ((accF l e)=(accF l e))) else false) then true else false)) (by kernel_rfl) (lb (by (simp))))))
 exact Ef' rfl rfl (Ef' rfl rfl (Ef' rfl rfl (Ef' rfl rfl (E rfl (B.pkT rfl rfl rfl rfl rfl) (CT rfl rfl (C rfl (ha) rfl rfl rfl (Rt rfl (leaf rfl rfl))))))))
end Go.Lens.Tm
end
section
namespace Go.Lens.Tb
open Go.Proofs Go.Proofs.YtomghboflcafbaaGreatDoor Go.RowKit Go.ChangeShapes
set_option maxRecDepth 100000
theorem gPow:Tryz.prog.globalNamed "internal/strconv.uint64pow10" =some 3:=by kernel_rfl
theorem tPow:(Tryz.prog.globals[3]?).map (·.type)=some 434:=by kernel_rfl
theorem plainLaid:(Rows.nightEventsRow.laid.all fun x=>x.2.handleName?.isNone)=true:=by kernel_rfl
theorem powDatum:(Rows.laid_internal_strconv_uint64pow10:DataW Unit)=Lib.tabData .u64 Lib.pow10Tab:=by kernel_rfl
theorem pow_of {W:World} (h:laidMetH Tryz.prog Rows.nightEventsRow.laid W):∃ T fr,W.heap[3]? =some (.cells (Lib.pow10Tab.map fun z=>Value.int .u64 z).toArray T fr):=by
  rw[MakeChecks.laidMetH_plain _ _ _ plainLaid] at h
  obtain⟨ps,⟨g0,t0,cs0,f0,p0,q0,_,_,_,_,⟨g1,t1,cs1,f1,p1,q1,_,_,_,_,⟨g2,t2,cs2,f2,p2,q2,hg,ht,hv,hd,_,_⟩,_⟩,_⟩,_,_⟩:=h
  obtain rfl:=Option.some.inj (gPow.symm.trans hg)
  obtain rfl:=Option.some.inj (tPow.symm.trans ht)
  have hd':DataW.trod (fun _=>()) Tryz.prog W 0 (fun _=>true) false f2 434 cs2.toList=some (Rows.laid_internal_strconv_uint64pow10,p2):=hd
  rw[powDatum] at hd'
  have hc:=Lib.cells_of_tab Tryz.underlying434 Tryz.underlying406 (by kernel_rfl) (by kernel_rfl) hd'
  have hv':(Tryz.prog.globalNamed "internal/strconv.uint64pow10").bind (fun g=>match W.heap[g]? with|some (.cells cs _ _)=>some cs|_=>none)=some cs2:=hv
  rw[gPow] at hv'
  simp only[z6] at hv'
  split at hv'
  · rename_i cs T fr hb
    cases hv'
    refine⟨T,fr,?_⟩
    rw[hb,<-hc,Array.toArray_toList]
  · cases hv'
theorem gSyn:Tryz.prog.globalNamed "strconv.ErrSyntax" =some 4:=by kernel_rfl
theorem gRng:Tryz.prog.globalNamed "strconv.ErrRange" =some 5:=by kernel_rfl
theorem tSyn:(Tryz.prog.globals[4]?).map (·.type)=some 273:=by kernel_rfl
theorem tRng:(Tryz.prog.globals[5]?).map (·.type)=some 273:=by kernel_rfl
theorem star: "*" ++ "errors.errorString" = "*errors.errorString" :=by decide
theorem row445 (u:TypeId) (h:Tryz.prog.typeName? 3 u=some "*errors.errorString"):u=445:=
  typeName_ptr_named (nm:= "errors.errorString") (by rw[star];kernel_rfl) (by kernel_rfl) (by decide) u (by rw[star];exact h)
theorem err_of {W:World} (h:laidMetH Tryz.prog Rows.nightEventsRow.laid W):(∃ tp p,W.var? Tryz.prog "strconv.ErrSyntax" =some #[.iface tp p])/\∃ tp p,W.var? Tryz.prog "strconv.ErrRange" =some #[.iface tp p]:=by
  rw[MakeChecks.laidMetH_plain _ _ _ plainLaid] at h
  have h4:=h.tail.tail.tail.tail
  obtain⟨a,_,h1,_⟩:=laid_sentinel h4 gRng tRng Tryz.underlying273 row445 Tryz.underlying445 Tryz.underlying447 rfl rfl Tryz.underlying9 (show Tryz.prog.cellsOf 447=1 by kernel_rfl) (show Tryz.prog.cellsOf 9=1 by kernel_rfl)
  obtain⟨b,_,h2,_⟩:=laid_sentinel h4.tail gSyn tSyn Tryz.underlying273 row445 Tryz.underlying445 Tryz.underlying447 rfl rfl Tryz.underlying9 (show Tryz.prog.cellsOf 447=1 by kernel_rfl) (show Tryz.prog.cellsOf 9=1 by kernel_rfl)
  exact⟨⟨_,_,h2⟩,_,_,h1⟩
@[reducible] def lzOf (W:World):Lz:=⟨fun b=>if b=3\/b=4\/b=5 then W.heap[b]? else none⟩
theorem lzOf_laid (W:World):∀ b o,(lzOf W).L b=some o->W.heap[b]? =some o:=by
  intro b o h
  change (if b=3\/b=4\/b=5 then W.heap[b]? else none)=some o at h
  split at h
  · exact h
  · cases h
theorem powLaid_of {W:World} (h:laidMetH Tryz.prog Rows.nightEventsRow.laid W): @qH (lzOf W):=by
  obtain⟨T,fr,hb⟩:=pow_of h
  exact⟨3,T,fr,gPow,hb⟩
theorem varLaid_of {W:World} {n:String} {g:Nat} (hg:Tryz.prog.globalNamed n=some g) (hb:(lzOf W).L g=W.heap[g]?) (h:∃ tp p,W.var? Tryz.prog n=some #[.iface tp p]): @Go.Lens.Tm.VarLaid (lzOf W) n:=by
  obtain⟨tp,p,hv⟩:=h
  unfold World.var? at hv
  rw[hg] at hv
  simp only[z6] at hv
  split at hv
  · rename_i cs T fr hc
    cases hv
    exact⟨g,tp,p,T,fr,hg,hb.trans hc⟩
  · cases hv
theorem errLaid_of {W:World} (h:laidMetH Tryz.prog Rows.nightEventsRow.laid W): @Go.Lens.Tm.jb (lzOf W):=
  ⟨varLaid_of gSyn rfl (err_of h).1,varLaid_of gRng rfl (err_of h).2⟩
theorem bs_back (s:ByteArray):bsO s.data.toList=s:=rfl
section
variable {H:Type} {enc:TypeId×Value->H} {w:World} {base:Nat} {spare:Nat->Bool} {held:Bool}
theorem read_ints {fuel:Nat} {cs:List Value} {x:DataW H×List MemPlace} (h:DataW.trod enc Tryz.prog w base spare held fuel 22 cs=some x) :
    ∃ (l:List Int) (v:Value),cs=[v]/\qN (gh0.rd w) (.slice (l.map eI)) v/\((l=[]/\x.1=.nil)\/∃ es rest,x.1=.slice es rest/\es.length=l.length):=
  read_slice (encE:=eI) (vals:=fun n=>[.int .i64 n]) Tryz.underlying22 (show Tryz.prog.cellsOf 3=1 by kernel_rfl) (by omega)
    (fun n c y hy=>by obtain⟨m,e,_⟩:=DataW.trod_int Tryz.underlying3 hy;exact⟨m,e⟩) (fun _=>rfl) (fun _=>rfl)
    (fun a b off hc=>relCells_lits (vs:=[.int .i64 a]) (by simp[isLit]) hc) h
theorem read_names {fuel:Nat} {cs:List Value} {x:DataW H×List MemPlace} (h:DataW.trod enc Tryz.prog w base spare held fuel 73 cs=some x) :
    ∃ (l:List (List UInt8)) (v:Value),cs=[v]/\qN (gh0.rd w) (.slice (l.map Go.Lens.Tm.eN)) v/\((l=[]/\x.1=.nil)\/∃ es rest,x.1=.slice es rest/\es.length=l.length):=
  read_slice (encE:=Go.Lens.Tm.eN) (vals:=fun s:List UInt8=>[.string (bsO s)]) Tryz.underlying73 (show Tryz.prog.cellsOf 9=1 by kernel_rfl) (by omega)
    (fun n c y hy=>by obtain⟨s,e,_⟩:=DataW.trod_string Tryz.underlying9 hy;exact⟨s.data.toList,e⟩) (fun _=>rfl) (fun _=>rfl)
    (fun a b off hc=>relCells_lits (vs:=[.string (bsO a)]) (by simp[isLit]) hc) h
theorem slice_one {R:Rd} {l:List (List PV)} {v:Value} (h:qN R (.slice l) v):v.oneCell'=true:=by
  simp only[qN] at h
  obtain⟨a,cap,rfl,_⟩:=h
  rfl
theorem read_ev {n:Nat} {c:List Value} {y:DataW H×List MemPlace} (h:DataW.trod enc Tryz.prog w base spare held n 119 c=some y) :
    ∃ (e:Go.Lens.Tm.Ev) (vn vv:Value),c=[.int .i64 e.1,.string (bsO e.2.1),vn,vv,.string (bsO e.2.2.2.2)]/\qN (gh0.rd w) (.slice (e.2.2.1.map Go.Lens.Tm.eN)) vn/\qN (gh0.rd w) (.slice (e.2.2.2.1.map eI)) vv:=by
  obtain⟨xs,m,rfl,rfl,hl,hx,hf⟩:=DataW.trod_struct Tryz.underlying119 h
  have hl2:c.length=5:=hl.trans (by kernel_rfl)
  have hx2:xs.length=5:=hx
  match c,hl2,xs,hx2,hf with
  | [c0,c1,c2,c3',c4],_,[x0,x1,x2,x3,x4],_,hf=>
    have f0:=hf 0 _ rfl
    have f1:=hf 1 _ rfl
    have f2:=hf 2 _ rfl
    have f3:=hf 3 _ rfl
    have f4:=hf 4 _ rfl
    obtain⟨m0,e0,_⟩:=DataW.trod_int Tryz.underlying3 f0
    obtain⟨s1,e1,_⟩:=DataW.trod_string Tryz.underlying9 f1
    obtain⟨l2,v2,e2,h2,_⟩:=read_names f2
    obtain⟨l3,v3,e3,h3,_⟩:=read_ints f3
    obtain⟨s4,e4,_⟩:=DataW.trod_string Tryz.underlying9 f4
    cases e0;cases e1;cases e2;cases e3;cases e4
    exact⟨(m0,s1.data.toList,l2,l3,s4.data.toList),_,_,rfl,h2,h3⟩
theorem relCells_pairs:∀ (l:List (PV×Value)),(∀ x∈l,x.2.oneCell'=true/\qN (gh0.rd w) x.1 x.2)->∀ {b off:Nat},(∀ i,i<l.length->w.cell? ⟨b,off+i,none⟩=(l.map (·.2))[i]?)->qW (gh0.rd w) (l.map (·.1)) b off
  | [],_,b,off,_=>by simp only[zZ,qW]
  | x::l,hl,b,off,h=>by
    simp only[zw,qW]
    refine⟨⟨x.2,?_,hl x (by simp)⟩,relCells_pairs l (fun u hu=>hl u (by simp[hu])) fun i hi=>?_⟩
    · rw[rd0];simpa using h 0 (by simp)
    · have:=h (i+1) (by simpa using hi)
      rw[show off+1+i=off+(i+1) from by omega];simpa using this
theorem read_evs {fuel:Nat} {cs:List Value} {x:DataW H×List MemPlace} (h:DataW.trod enc Tryz.prog w base spare held fuel 121 cs=some x) :
    ∃ (l:List Go.Lens.Tm.Ev) (v:Value),cs=[v]/\qN (gh0.rd w) (.slice (l.map Go.Lens.Tm.eE)) v/\((l=[]/\x.1=.nil)\/∃ es rest,x.1=.slice es rest/\es.length=l.length):=by
  obtain⟨l,v,e,hr,hl⟩:=read_slice (α:={a:Go.Lens.Tm.Ev×Value×Value // qN (gh0.rd w) (.slice (a.1.2.2.1.map Go.Lens.Tm.eN)) a.2.1/\qN (gh0.rd w) (.slice (a.1.2.2.2.1.map eI)) a.2.2}) (encE:=fun a=>Go.Lens.Tm.eE a.1.1)
    (vals:=fun a=>[.int .i64 a.1.1.1,.string (bsO a.1.1.2.1),a.1.2.1,a.1.2.2,.string (bsO a.1.1.2.2.2.2)]) Tryz.underlying121 (show Tryz.prog.cellsOf 119=5 by kernel_rfl) (by omega)
    (fun n c y hy=>by obtain⟨e,vn,vv,hc,h1,h2⟩:=read_ev hy;exact⟨⟨(e,vn,vv),h1,h2⟩,hc⟩) (fun _=>rfl) (fun _=>rfl)
    (fun a b off hc=>relCells_pairs [(pI a.1.1.1,.int .i64 a.1.1.1),(pS (bsO a.1.1.2.1),.string (bsO a.1.1.2.1)),(.slice (a.1.1.2.2.1.map Go.Lens.Tm.eN),a.1.2.1),(.slice (a.1.1.2.2.2.1.map eI),a.1.2.2),(pS (bsO a.1.1.2.2.2.2),.string (bsO a.1.1.2.2.2.2))] (fun x hx=>by
      simp only[zF,List.mem_nil_iff,or_false] at hx
      rcases hx with rfl|rfl|rfl|rfl|rfl
      · exact⟨rfl,by unfold qN;exact⟨rfl,rfl⟩⟩
      · exact⟨rfl,by unfold qN;exact⟨rfl,rfl⟩⟩
      · exact⟨slice_one a.2.1,a.2.1⟩
      · exact⟨slice_one a.2.2,a.2.2⟩
      · exact⟨rfl,by unfold qN;exact⟨rfl,rfl⟩⟩) hc) h
  exact⟨l.map (·.1.1),v,e,by rw[List.map_map];exact hr,by simpa using hl⟩
end
end Go.Lens.Tb
end
