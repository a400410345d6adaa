/- A part of the proof of PupilMomentsCardSaid, without conditions. -/
import Derived.Test.YtljafcmealiifaaGreatDoorP3
import Derived.Test.YtljafcmealiifaaGreatDoorP7
import Derived.Test.YtljafcmealiifaaGreatDoorP5
set_option linter.unusedVariables false
set_option linter.unusedSimpArgs false
set_option linter.unusedSectionVars false
set_option maxRecDepth 100000
set_option maxHeartbeats 4000000
section
namespace Go.Lens.Tb
open Go.Proofs Go.Lens.Un
variable [Lz]
noncomputable def arr2 (t:TypeId):Option TypeId:=match tab.underlying t with
 | some (.array 2 e)=>some e
 | _=>none
theorem arr2_ok {t e:TypeId} (h:arr2 t=some e):tab.underlying t=some (.array 2 e):=by
 unfold arr2 at h
 split at h
 ·rename_i h2;cases h;exact h2
 cases h
noncomputable def eqE (t it:TypeId):Bool:=!(tab.eqBad t)&&(match aggT tab it with|some false=>true|_=>false)&&(match szT tab it with|some 1=>true|_=>false)
theorem eqE_ok {t it:TypeId} (h:eqE t it=true):tab.eqBad t=false/\aggT tab it=some false/\szT tab it=some 1:=by
 simp only[eqE,zj,Bool.not_eq_true'] at h
 obtain⟨⟨h1,h2⟩,h3⟩:=h
 refine⟨h1,?_,?_⟩
 ·split at h2
  ·assumption
  cases h2
 split at h3
 ·assumption
 cases h3
def eqO (op:BinOp) (r:Bool):Option (DV×Na×List Nat):=match op with
 | .eql=>some (lit (.bool r),[],[])
 | .neq=>some (lit (.bool (!r)),[],[])
 | _=>none
noncomputable def xArr:XOp:=fun nb s o=>match o.op with
 | .buildSlice t _ _=>bif [49,68,22,62].any (Nat.beq t) then (match bodyX tab nb s o with
  | some (.aref h v,[(h',.arr v' _ _ es)],rd)=>bif Nat.beq h h'&&Nat.beq v v' then some (.pv (.slice es),[(h,.farr v es)],rd) else none
  | _=>none) else none
 | .sliceToArrayPointer t x=>match ev1 s x,arr2 t with
  | .pv (.slice [[c0],[c1]]),some _=>some (.pv (.box [c0,c1]),[],[])
  | _,_=>none
 | .binOp op t x y _=>match arr2 t with
  | some it=>match ev1 s x,ev1 s y with
   | .pv (.agg [.lit (.int .i64 a0),.lit (.int .i64 a1)]),.pv (.agg [.lit (.int .i64 b0),.lit (.int .i64 b1)])=>match tab.underlying it with
    | some (.int .i64)=>bif eqE t it then eqO op (a0==b0&&a1==b1) else none
    | _=>none
   | .pv (.agg [.lit (.string a0),.lit (.string a1)]),.pv (.agg [.lit (.string b0),.lit (.string b1)])=>match tab.underlying it with
    | some .string=>bif eqE t it then eqO op (a0==b0&&a1==b1) else none
    | _=>none
   | _,_=>none
  | none=>none
 | .load t x=>match ev1 s x with
  | .bref h c=>match qx s.ms h with
   | some (.box _ ds)=>match ds[c]? with
    | some (.mref k)=>match aggT tab t,szT tab t with
     | some false,some 1=>some (.mref k,[],[h])
     | _,_=>none
    | _=>none
   | _=>none
  | _=>none
 | .indexAddr t x y=>match ev1 s x with
  | .bref h c=>match tab.underlying t,qx s.ms h,ev1 s y with
   | some (.array len e),some _,.pv (.lit (.int .i64 m))=>match szT tab e with
    | some 1=>bif decide (1<len)&&(decide (0<=m)&&decide (m.toNat<len)) then some (.bref h (c+m.toNat),[],[h]) else none
    | _=>none
   | _,_,_=>none
  | _=>none
 | _=>none
theorem xArr_ok:XOpOk Tryz.prog tab xArr:=by
 intro nb s o val m rd h
 obtain⟨dst,op,ty,pos,af,gd⟩:=o
 unfold xArr at h
 simp only at h
 split at h
 ·rename_i t _ _
  cases hb:[49,68,22,62].any (Nat.beq t) with
  | false=>rw[hb] at h;cases h
  | true=>
   rw[hb] at h
   simp only[cond_true] at h
   split at h
   ·rename_i hh v h' v' sz T es rd' he
    cases hc:(Nat.beq hh h'&&Nat.beq v v') with
    | false=>rw[hc] at h;cases h
    | true=>
     rw[hc] at h
     cases h
     simp only[zj] at hc
     obtain rfl:=zD hc.1
     obtain rfl:=zD hc.2
     exact B.zA he
   cases h
 ·split at h
  ·rename_i hx ht
   cases h
   exact B.arrP (arr2_ok ht) hx
  cases h
 ·split at h
  ·rename_i it ht
   have fin:∀ {a0 a1 b0 b1:Value} {r0 r1:Bool} {x y:Operand} {u:TypeId} {op:BinOp} {t:TypeId},arr2 t=some it->eqE t it=true->ev1 s x=.pv (.agg [.lit a0,.lit a1])->ev1 s y=.pv (.agg [.lit b0,.lit b1])->(∀ n w,(Op.equalIn (n+1) it a0 b0).run Tryz.prog w=.ok r0 w)->(∀ n w,(Op.equalIn (n+1) it a1 b1).run Tryz.prog w=.ok r1 w)->eqO op (r0&&r1)=some (val,m,rd)->Body Tryz.prog tab nb s ⟨dst,.binOp op t x y u,ty,pos,af,gd⟩ val m rd:=by
    intro a0 a1 b0 b1 r0 r1 x y u op t ht he hx hy h0 h1 ho
    obtain⟨e1,e2,e3⟩:=eqE_ok he
    unfold eqO at ho
    split at ho
    ·cases ho;exact B.eqA2 (r0:=r0) (r1:=r1) e1 (arr2_ok ht) e2 e3 h0 h1 hx hy .eql (.inl Z)
    ·cases ho;exact B.eqA2 (r0:=r0) (r1:=r1) e1 (arr2_ok ht) e2 e3 h0 h1 hx hy .neq (.inr Z)
    cases ho
   split at h
   ·rename_i hx hy
    split at h
    ·rename_i hi
     cases hb:eqE _ it with
     | false=>rw[hb] at h;cases h
     | true=>rw[hb] at h;exact fin ht hb hx hy (fun n w=>eqI_run hi _ _ n w) (fun n w=>eqI_run hi _ _ n w) h
    cases h
   ·rename_i hx hy
    split at h
    ·rename_i hi
     cases hb:eqE _ it with
     | false=>rw[hb] at h;cases h
     | true=>rw[hb] at h;exact fin ht hb hx hy (fun n w=>eqS_run hi _ _ n w) (fun n w=>eqS_run hi _ _ n w) h
    cases h
   cases h
  cases h
 ·split at h
  ·rename_i hx
   split at h
   ·rename_i hm
    split at h
    ·rename_i hd
     split at h
     ·rename_i ha hs
      cases h
      exact B.ki hx hm ha hs hd
     cases h
    cases h
   cases h
  cases h
 ·split at h
  ·rename_i hx
   split at h
   ·rename_i ht hm hy
    split at h
    ·rename_i hs
     rw[Bool.cond_eq_ite] at h
     split at h
     ·rename_i hb
      cases h
      simp only[zj,zf] at hb
      exact B.idxB ht hs hx hm hy hb.1 aa hb.2.2
     cases h
    cases h
   cases h
  cases h
 cases h
def frO (o:Oper):Bool:=match o.op with
 | .sliceToArrayPointer _ _=>true
 | .call ⟨.value (.func f),_,_⟩=>[17,18,19,20,21,22,23,24,25,26].any (Nat.beq f)
 | _=>false
end Go.Lens.Tb
end
section
namespace Go.Lens.Tb
open Go.Proofs Go.Lens.Un
variable [Lz] [Dn]
def decF:PV->Option Qn
 | .agg [.lit (.int .i64 a),.lit (.slice none 0 0),.lit (.int .i64 b),.lit (.slice none 0 0)]=>
  if h:((-9223372036854775808<=a/\a<=9223372036854775807)/\b<=9223372036854775807/\0<b)/\Nat.gcd a.natAbs b.natAbs=1 then
   some ⟨(a,false),(b,false),by unfold okI;rw[if_neg ao];exact h.1.1,by unfold okI;rw[if_neg ao];simp only;omega,h.1.2.2,h.2⟩ else none
 | _=>none
def decI:PV->Option {x:NI // okI x/\x.2=false}
 | .agg [.lit (.int .i64 a),.lit (.slice none 0 0)]=>if h: -9223372036854775808<=a/\a<=9223372036854775807 then some ⟨(a,false),by unfold okI;rw[if_neg ao];exact h,rfl⟩ else none
 | _=>none
def smQ (x:Qn):Option DV:=match x with
 | ⟨(a,false),(b,false),_,_,_,_⟩=>some (.pv (.agg [.lit (.int .i64 a),.lit (.slice none 0 0),.lit (.int .i64 b),.lit (.slice none 0 0)]))
 | _=>none
theorem smQ_ok {x:Qn} {v:DV} (h:smQ x=some v):qV x=v:=by
 unfold smQ at h
 split at h
 ·cases h;rfl
 cases h
theorem sz_sm {x:Qn} (h1:x.n.1.natAbs<=9223372036854775808) (h2:x.d.1.natAbs<=9223372036854775808):sz x.q<=64:=by
 unfold sz
 have a1:jb x.q.num.natAbs<=64:=jS (Nat.lt_of_le_of_lt h1 ah)
 have a2:jb x.q.den<=64:=jS (Nat.lt_of_le_of_lt (show x.d.1.natAbs<=_ from h2) ah)
 omega
theorem decF_ok {p:PV} {x:Qn} (h:decF p=some x):p=qP x/\sz x.q<=64:=by
 unfold decF at h
 split at h
 ·split at h
  ·rename_i hh
   cases h
   exact⟨rfl,sz_sm (by simp only;omega) (by simp only;omega)⟩
  cases h
 cases h
theorem digS {a:Int} (h: -9223372036854775808<=a/\a<=9223372036854775807):(dig B64 a.natAbs).length<=400000:=by
 have:=ji (k:=1) b64_2 (n:=a.natAbs) bq
 omega
theorem decI_ok {p:PV} {x:{x:NI // okI x/\x.2=false}} (h:decI p=some x):p=nP x.1/\(dig B64 x.1.1.natAbs).length<=400000:=by
 unfold decI at h
 split at h
 ·split at h
  ·rename_i hh
   cases h
   exact⟨rfl,digS hh⟩
  cases h
 cases h
def oQ (g:Qn->Option DV):List DV->Option DV
 | [.pv x]=>match decF x with
  | some a=>g a
  | none=>none
 | _=>none
def oQ2 (g:Qn->Qn->Option DV):List DV->Option DV
 | [.pv x,.pv y]=>match decF x,decF y with
  | some a,some b=>g a b
  | _,_=>none
 | _=>none
def oS (g:Nb->Option DV):List DV->Option DV
 | [.pv (.lit (.string b))]=>g b.data.toList
 | _=>none
def oZ (g:Int->Option DV):List DV->Option DV
 | [.pv (.lit (.int .i64 z))]=>g z
 | _=>none
section
variable {f:FuncId} {ds:List DV} {v:DV} {O:List DV->Option DV}
theorem oQ_ok {g:Qn->Option DV} (h:oQ g ds=some v) (k:∀ a,sz a.q<=64->g a=some v->qD Tryz.prog f [qV a] (qx []) v []):qD Tryz.prog f ds (qx []) v []:=by
 unfold oQ at h
 split at h
 ·split at h
  ·rename_i hx
   obtain⟨rfl,hs⟩:=decF_ok hx
   exact k _ hs h
  cases h
 cases h
theorem oQ2_ok {g:Qn->Qn->Option DV} (h:oQ2 g ds=some v) (k:∀ a b,sz a.q+sz b.q<=20000000->g a b=some v->qD Tryz.prog f [qV a,qV b] (qx []) v []):qD Tryz.prog f ds (qx []) v []:=by
 unfold oQ2 at h
 split at h
 ·split at h
  ·rename_i hx hy
   obtain⟨rfl,hs⟩:=decF_ok hx
   obtain⟨rfl,hs2⟩:=decF_ok hy
   exact k _ _ aa h
  cases h
 cases h
theorem oS_ok {g:Nb->Option DV} (h:oS g ds=some v) (k:∀ s,g s=some v->qD Tryz.prog f [vS (bsO s)] (qx []) v []):qD Tryz.prog f ds (qx []) v []:=by
 unfold oS at h
 split at h
 ·exact k _ h
 cases h
theorem oZ_ok {g:Int->Option DV} (h:oZ g ds=some v) (k:∀ z,g z=some v->qD Tryz.prog f [vI z] (qx []) v []):qD Tryz.prog f ds (qx []) v []:=by
 unfold oZ at h
 split at h
 ·exact k _ h
 cases h
end
def numT:List (Nat×(List DV->Option DV)):=[
 (58,oQ2 fun a b=>smQ (a.add b)),(59,oQ2 fun a b=>smQ (a.mul b)),(75,oQ2 fun a b=>smQ (a.sub b)),(34,oQ2 fun a b=>if h:b.q≠0 then smQ (a.div b h) else none),(97,oQ2 fun a b=>some (vI (cmpQ2 a.q b.q))),
 (62,oQ fun a=>smQ a.neg),(68,oQ fun a=>some (vI (j7 a.q.num))),(79,oQ fun a=>some (vS (bsO (txt a.q)))),(77,oQ fun a=>some (vB (jl a.q))),
 (83,oZ fun z=>some (nV (ofI z))),(35,oZ fun z=>if h: -9223372036854775808<=z/\z<9223372036854775808 then smQ (Qn.ofZ z h) else none),
 (53,oS fun s=>bif Nat.ble s.length 1000 then some (vI (jA s)) else none),(56,oS fun s=>if jA s=0 then smQ (jc s) else none),
 (103,fun ds=>match ds with
  | [.pv x,.pv y]=>match decI x,decI y with
   | some a,some b=>if h:b.1.1≠0 then smQ (Qn.make a.1 b.1 a.2.1 b.2.1 h) else none
   | _,_=>none
  | _=>none)]
def assT {α:Type}:List (Nat×α)->Nat->Option α
 | [],_=>none
 | (k,a)::l,n=>bif Nat.beq k n then some a else assT l n
def pureO (T:List (Nat×(List DV->Option DV))):Orc:=fun f _ ds l=>match l with
 | []=>match assT T f with
  | some g=>match g ds with
   | some v=>some (v,[])
   | none=>none
  | none=>none
 | _=>none
theorem assT_mem {α:Type}:∀ {l:List (Nat×α)} {n:Nat} {a:α},assT l n=some a->(n,a)∈l
 | [],_,_,h=>by cases h
 | (k,b)::l,n,a,h=>by
  unfold assT at h
  cases hb:Nat.beq k n with
  | true=>
   rw[hb] at h
   cases h
   rw[zD hb];exact ql
  | false=>rw[hb] at h;exact zN _ (assT_mem h)
theorem pureO_ok {T:List (Nat×(List DV->Option DV))} (H:∀ p∈T,∀ ds v,p.2 ds=some v->qD Tryz.prog p.1 ds (qx []) v []):Zm Tryz.prog (pureO T):=by
 intro f lo ds l val ms h
 unfold pureO at h
 split at h
 ·split at h
  ·rename_i hg
   split at h
   ·rename_i hv
    cases h
    exact H _ (assT_mem hg) _ _ hv
   cases h
  cases h
 cases h
theorem num_ok (hp:qW):Zm Tryz.prog (pureO numT):=pureO_ok fun p hm ds v h=>by
 simp only[numT,zF,qm,or_false] at hm
 rcases hm with rfl|rfl|rfl|rfl|rfl|rfl|rfl|rfl|rfl|rfl|rfl|rfl|rfl|rfl<;>simp only at h ⊢
 ·exact oQ2_ok h fun a b hs hv=>by rw[<-smQ_ok hv];exact w125 a b hs
 ·exact oQ2_ok h fun a b hs hv=>by rw[<-smQ_ok hv];exact w126 a b hs
 ·exact oQ2_ok h fun a b hs hv=>by rw[<-smQ_ok hv];exact w210 a b hs
 ·refine oQ2_ok h fun a b hs hv=>?_
  split at hv
  ·rename_i h0;rw[<-smQ_ok hv];exact w128 a b hs h0
  cases hv
 ·exact oQ2_ok h fun a b hs hv=>by cases hv;exact w166 a b hs
 ·exact oQ_ok h fun a hs hv=>by rw[<-smQ_ok hv];exact w118 a aa
 ·exact oQ_ok h fun a hs hv=>by cases hv;exact w145 a aa
 ·exact oQ_ok h fun a hs hv=>by cases hv;exact w162 hp a aa
 ·exact oQ_ok h fun a hs hv=>by cases hv;exact w181 hp a aa
 ·exact oZ_ok h fun z hv=>by cases hv;exact w177 z
 ·refine oZ_ok h fun z hv=>?_
  split at hv
  ·rename_i h0;rw[<-smQ_ok hv];exact w100 z h0
  cases hv
 ·refine oS_ok h fun s hv=>?_
  cases hb:Nat.ble s.length 1000 with
  | false=>rw[hb] at hv;cases hv
  | true=>rw[hb] at hv;cases hv;exact w112 s (by have:=zW hb;omega)
 ·refine oS_ok h fun s hv=>?_
  split at hv
  ·rename_i h0;rw[<-smQ_ok hv];exact w116 s h0
  cases hv
 split at h
 ·split at h
  ·rename_i hx hy
   obtain⟨rfl,g1⟩:=decI_ok hx
   obtain⟨rfl,g2⟩:=decI_ok hy
   split at h
   ·rename_i h0;rw[<-smQ_ok h];exact w179 _ _ _ _ g1 g2 h0
   cases h
  cases h
 cases h
end Go.Lens.Tb
end
section
namespace Go.Lens.Tb
open Go.Proofs Go.Lens.Un
variable [Lz] [Dn]
class Kr:Prop where
 k:Lz.kr=fun P kv=>∃ m,KP P m/\kv=kvO eP m
variable [Kr]
theorem kd_iff {P:PL} {G:Gh} {w:World} {h:Nat}:q7 G w h (.kdat P)↔q7 G w h (kR P):=by
 simp only[q7]
 rw[Kr.k]
theorem wkD {P:PL} {k:Nat} {l l':Na} (hl:WkL l l'):WkL ((k,kR P)::l) ((k,.kdat P)::l'):=⟨⟨rfl,rfl,fun _ _ H=>kd_iff.2 H⟩,hl⟩
theorem kd_in {f:FuncId} {ds:List DV} {a:Nat} {P:PL} {val:DV} {out:Na} (H:qD Tryz.prog f ds (qx [(a,kR P)]) val out):qD Tryz.prog f ds (qx [(a,.kdat P)]) val out:=by
 have hr:∀ k∈DV.qO ds,∃ o,qx [(a,MO.kdat P)] k=some o:=fun k hk=>by
  obtain⟨o,ho⟩:=H.refs k hk
  rw[qF] at ho ⊢
  split at ho
  ·rename_i e;exact⟨_,if_pos e⟩
  cases ho
 refine qD.fam (ι:=Unit) (h:=a) (o:=.kdat P) (o':=fun _=>kR P) (p:=fun _=>True) (by rw[qF,if_pos rfl]) (fun _=>rfl) hr (fun G w h=>⟨(),trivial,kd_iff.1 h⟩) fun _ _=>?_
 refine H.lk fun h=>?_
 rw[qF,qF,qF]
 split<;>rfl
def decT:List PV->Option Trm
 | [.lit (.string b),.lit (.int .i64 i),.lit (.int .i64 j)]=>some ⟨b.data.toList,i,j⟩
 | _=>none
def decP:List (List PV)->Option (List Trm)
 | []=>some []
 | x::l=>match decT x,decP l with
  | some t,some r=>some (t::r)
  | _,_=>none
theorem decT_ok {p:List PV} {t:Trm} (h:decT p=some t):p=eY t:=by
 unfold decT at h
 split at h
 ·cases h;rfl
 cases h
theorem decP_ok:∀ {l:List (List PV)} {f:List Trm},decP l=some f->l=f.map eY
 | [],f,h=>by cases h;rfl
 | x::l,f,h=>by
  simp only[decP] at h
  split at h
  ·rename_i t r ht hr
   cases h
   rw[decT_ok ht,decP_ok hr];rfl
  cases h
def kB (P:PL):Bool:=P.all fun p=>decide (0<=p.1.1/\0<=p.1.2/\p.1.1+p.1.2<=32)
def okB (P:PL):Bool:=kB P&&(decide (P.length<=100000)&&decide (szP P<=9000000))
theorem okB_ok {P:PL} (h:okB P=true):OkP P:=by
 simp only[okB,kB,zj,zr,zf] at h
 refine⟨fun k hk=>?_,h.2.1,h.2.2⟩
 obtain⟨p,hp,rfl⟩:=zE.1 hk
 exact h.1 p hp
def goodF (f:List Trm):Bool:=decide (f.length<=1000)&&(f.all (fun t=>Nat.ble t.c.length 1000)&&(decide (jf f=0)&&okB (plF f)))
structure GoodF (f:List Trm):Prop where
 l:f.length<=1000000
 s:∀ t∈f,t.c.length<=1000000000
 c:jf f=0
 o:OkP (plF f)
theorem goodF_ok {f:List Trm} (h:goodF f=true):GoodF f:=by
 simp only[goodF,zj,zr,zf] at h
 exact⟨aa,fun t ht=>by have:=zW (h.2.1 t ht);omega,h.2.2.1,okB_ok h.2.2.2⟩
def qnS (q:Rat):Option DV:=bif decide (-9223372036854775807<=q.num/\q.num<=9223372036854775807)&&decide (q.den<=9223372036854775807) then some (.pv (.agg [.lit (.int .i64 q.num),.lit (.slice none 0 0),.lit (.int .i64 (q.den:Int)),.lit (.slice none 0 0)])) else none
theorem small_n {x:NI} (hx:okI x) (h:x.1.natAbs<=9223372036854775807):nH x=x.1/\nW x=ZP:=by
 obtain⟨z,b⟩:=x
 cases b with
 | false=>exact⟨rfl,rfl⟩
 | true=>
  unfold okI at hx
  rw[if_pos rfl] at hx
  unfold I63 at hx
  simp only at hx h
  omega
theorem qnS_ok {x:Qn} {v:DV} (h:qnS x.q=some v):qV x=v:=by
 unfold qnS at h
 cases hb:(decide (-9223372036854775807<=x.q.num/\x.q.num<=9223372036854775807)&&decide (x.q.den<=9223372036854775807)) with
 | false=>rw[hb] at h;cases h
 | true=>
  rw[hb] at h
  cases h
  simp only[zj,zf] at hb
  have e1:x.q.num=x.n.1:=rfl
  have e2:=x.q_den
  have hp:=x.pos
  obtain⟨a1,a2⟩:=small_n x.hn aa
  obtain⟨b1,b2⟩:=small_n x.hd aa
  simp only[qV,qP,eF,a1,a2,b1,b2,e1,e2]
def mapO:Orc:=fun f lo ds l=>
 bif Nat.beq f 54 then (match ds,l with
  | [.pv (.slice es)],[]=>match decP es with
   | some F=>bif goodF F then some (.mref (lo+1),[(lo+1,.kdat (plF F))]) else none
   | none=>none
  | _,_=>none)
 else bif Nat.beq f 61 then (match ds,l with
  | [.mref a,.pv (.lit (.int .i64 x))],[(b,.kdat P)]=>bif (Nat.beq a b&&(decide (x=0)||decide (x=1)))&&(okB P&&decide ((P.length+2)*(szP P+20)<=9000000)) then some (.mref (a+lo+1),[(a,.kdat P),(a+lo+1,.kdat (derP x P))]) else none
  | _,_=>none)
 else bif Nat.beq f 55 then (match ds,l with
  | [.mref a,.pv (.agg [c1,c2,c3,c4,d1,d2,d3,d4])],[(b,.kdat P)]=>match decF (.agg [c1,c2,c3,c4]),decF (.agg [d1,d2,d3,d4]) with
   | some x,some y=>bif Nat.beq a b&&(okB P&&decide ((P.length+2)*(szP P+34*(sz x.q+sz y.q+128))<=9000000)) then (match qnS (evP P x.q y.q) with
    | some v=>some (v,[(a,.kdat P)])
    | none=>none) else none
   | _,_=>none
  | _,_=>none)
 else none
theorem mapO_ok:Zm Tryz.prog mapO:=by
 intro f lo ds l val ms h
 unfold mapO at h
 cases h1:Nat.beq f 54 with
 | true=>
  rw[h1] at h
  obtain rfl:=zD h1
  simp only[cond_true] at h
  split at h
  ·split at h
   ·rename_i F hF
    cases hg:goodF F with
    | false=>rw[hg] at h;cases h
    | true=>
     rw[hg] at h
     cases h
     have g:=goodF_ok hg
     rw[decP_ok hF]
     exact (w114k F (lo+1) g.l g.c).wk (wkD trivial)
   cases h
  cases h
 | false=>
  rw[h1] at h
  simp only[cond_false] at h
  cases h2:Nat.beq f 61 with
  | true=>
   rw[h2] at h
   obtain rfl:=zD h2
   simp only[cond_true] at h
   split at h
   ·rename_i a x b P
    cases hg:((Nat.beq a b&&(decide (x=0)||decide (x=1)))&&(okB P&&decide ((P.length+2)*(szP P+20)<=9000000))) with
    | false=>rw[hg] at h;cases h
    | true=>
     rw[hg] at h
     cases h
     simp only[zj,Bool.or_eq_true,zf] at hg
     obtain⟨⟨g1,g2⟩,g3,g4⟩:=hg
     obtain rfl:=zD g1
     exact kd_in ((w117k x P a (a+lo+1) aa g2 (okB_ok g3) g4).wk (wkD (wkD trivial)))
   cases h
  | false=>
   rw[h2] at h
   simp only[cond_false] at h
   cases h3:Nat.beq f 55 with
   | false=>rw[h3] at h;cases h
   | true=>
    rw[h3] at h
    obtain rfl:=zD h3
    simp only[cond_true] at h
    split at h
    ·rename_i a c1 c2 c3 c4 d1 d2 d3 d4 b P
     split at h
     ·rename_i x y hx hy
      cases hg:(Nat.beq a b&&(okB P&&decide ((P.length+2)*(szP P+34*(sz x.q+sz y.q+128))<=9000000))) with
      | false=>rw[hg] at h;cases h
      | true=>
       rw[hg] at h
       simp only[cond_true] at h
       split at h
       ·rename_i v hv
        cases h
        simp only[zj,zf] at hg
        obtain⟨g1,g3,g4⟩:=hg
        obtain rfl:=zD g1
        have ex:=(decF_ok hx).1
        have ey:=(decF_ok hy).1
        simp only[qP,eF,PV.agg.injEq,List.cons.injEq,and_true] at ex ey
        obtain⟨rfl,rfl,rfl,rfl⟩:=ex
        obtain⟨rfl,rfl,rfl,rfl⟩:=ey
        refine kd_in (qD.k1 dU fun m hm=>?_)
        have hq:=valM_q (x:=x) (y:=y) hm (okB_ok g3)
        rw[<-hq] at hv
        rw[<-qnS_ok hv]
        exact (w115 m P x y a hm (okB_ok g3) g4).wk (wkK (fun kv e=>⟨m,hm,e⟩) wk0) |>.wk (wkD trivial)
       cases h
     cases h
    cases h
end Go.Lens.Tb
end
section
namespace Go.Lens.Tb
open Go.Proofs Go.Lens.Un
variable [Lz] [Dn] [Kr]
def oP (g:List Trm->Option DV):List DV->Option DV
 | [.pv (.slice es)]=>match decP es with
  | some F=>bif goodF F then g F else none
  | none=>none
 | _=>none
theorem oP_ok {f:FuncId} {ds:List DV} {v:DV} {g:List Trm->Option DV} (h:oP g ds=some v) (k:∀ F,GoodF F->g F=some v->qD Tryz.prog f [vL eY F] (qx []) v []):qD Tryz.prog f ds (qx []) v []:=by
 unfold oP at h
 split at h
 ·split at h
  ·rename_i F hF
   cases hg:goodF F with
   | false=>rw[hg] at h;cases h
   | true=>
    rw[hg] at h
    rw[decP_ok hF]
    exact k F (goodF_ok hg) h
  cases h
 cases h
def polyT:List (Nat×(List DV->Option DV)):=[
 (52,oP fun F=>some (vI (jf F))),
 (20,oP fun F=>bif decide (((plF F).length+2)*(szP (plF F)+20)<=9000000) then some (.tup [vL eY (erL (jf F) (polT (turP (plF F)))),vI (erE (jf F) (polE (turP (plF F))))]) else none),
 (16,fun ds=>match ds with
  | [.pv (.lit (.int .i64 n)),.pv (.lit (.int .i64 m))]=>some (.tup [vL eY (erL (zeE n m) (polT (zeP n m))),vI (erE (zeE n m) (polE (zeP n m)))])
  | _=>none),
 (18,fun ds=>match ds with
  | [.pv (.slice es),.pv (.slice fs)]=>match decP es,decP fs with
   | some F,some G=>bif (goodF F&&goodF G)&&(decide (((plF F).length*(plF G).length+2)*(szP (plF F)+szP (plF G)+2)<=5000000)&&decide ((plF F).length*(plF G).length<=3000)) then
     some (.tup [vS (bsO (erL (ky F G) (resT (lin dF (q6 (plF F) (plF G)))))),vI (erE (ky F G) (resE (lin dF (q6 (plF F) (plF G)))))]) else none
   | _,_=>none
  | _=>none),
 (19,fun ds=>match ds with
  | [.pv (.slice es),.pv (.lit (.string b))]=>match decP es with
   | some F=>bif goodF F&&decide (((plF F).length+2)*(szP (plF F)+20)<=9000000) then
     some (.tup [vL eY (erL (qM [jf F,ju (!(axB b.data.toList)) 13]) (polT (derP (axI b.data.toList) (plF F)))),vI (erE (qM [jf F,ju (!(axB b.data.toList)) 13]) (polE (derP (axI b.data.toList) (plF F))))]) else none
   | none=>none
  | _=>none),
 (17,fun ds=>match ds with
  | [.pv (.slice es),.pv (.agg [.lit (.string x),.lit (.string y)])]=>match decP es with
   | some F=>bif goodF F&&(Nat.ble x.data.toList.length 1000&&Nat.ble y.data.toList.length 1000&&decide (((plF F).length+2)*(szP (plF F)+34*(sz (jc x.data.toList).q+sz (jc y.data.toList).q+128))<=9000000)) then
     some (.tup [vS (bsO (erL (qM [jf F,jA x.data.toList,jA y.data.toList]) (resT (evP (plF F) (Qn.q (jc x.data.toList)) (Qn.q (jc y.data.toList)))))),vI (erE (qM [jf F,jA x.data.toList,jA y.data.toList]) (resE (evP (plF F) (Qn.q (jc x.data.toList)) (Qn.q (jc y.data.toList)))))]) else none
   | none=>none
  | _=>none)]
theorem poly_ok (hp:qW) (hf:jq):Zm Tryz.prog (pureO polyT):=pureO_ok fun p hm ds v h=>by
 simp only[polyT,zF,qm,or_false] at hm
 rcases hm with rfl|rfl|rfl|rfl|rfl|rfl<;>simp only at h ⊢
 ·exact oP_ok h fun F g hv=>by cases hv;exact w81 F g.l g.s
 ·refine oP_ok h fun F g hv=>?_
  cases hb:decide (((plF F).length+2)*(szP (plF F)+20)<=9000000) with
  | false=>rw[hb] at hv;cases hv
  | true=>rw[hb] at hv;cases hv;exact w25 hp F g.l g.s fun _=>⟨g.o,by have:=of_decide_eq_true hb;exact this⟩
 ·split at h
  ·cases h;exact w16 hp hf _ _
  cases h
 ·split at h
  ·split at h
   ·rename_i F G hF hG
    cases hb:((goodF F&&goodF G)&&(decide (((plF F).length*(plF G).length+2)*(szP (plF F)+szP (plF G)+2)<=5000000)&&decide ((plF F).length*(plF G).length<=3000))) with
    | false=>rw[hb] at h;cases h
    | true=>
     rw[hb] at h
     cases h
     simp only[zj,zf] at hb
     have g1:=goodF_ok hb.1.1
     have g2:=goodF_ok hb.1.2
     rw[decP_ok hF,decP_ok hG]
     exact w33 hp F G g1.l g1.s g2.l g2.s fun _=>hb.2
   cases h
  cases h
 ·split at h
  ·split at h
   ·rename_i b _ F hF
    cases hb:(goodF F&&decide (((plF F).length+2)*(szP (plF F)+20)<=9000000)) with
    | false=>rw[hb] at h;cases h
    | true=>
     rw[hb] at h
     cases h
     simp only[zj,zf] at hb
     have g:=goodF_ok hb.1
     rw[decP_ok hF]
     exact w24 hp F b.data.toList g.l g.s fun _=>⟨g.o,hb.2⟩
   cases h
  cases h
 split at h
 ·split at h
  ·rename_i x y _ F hF
   cases hb:(goodF F&&(Nat.ble x.data.toList.length 1000&&Nat.ble y.data.toList.length 1000&&decide (((plF F).length+2)*(szP (plF F)+34*(sz (jc x.data.toList).q+sz (jc y.data.toList).q+128))<=9000000))) with
   | false=>rw[hb] at h;cases h
   | true=>
    rw[hb] at h
    cases h
    simp only[zj,zf,Nat.ble_eq] at hb
    have g:=goodF_ok hb.1
    rw[decP_ok hF]
    exact w22 hp F x.data.toList y.data.toList g.l g.s aa aa fun _=>⟨g.o,hb.2.2⟩
  cases h
 cases h
noncomputable def spO:Orc:=orO (pureO numT) (orO (pureO polyT) mapO)
theorem sp_ok (hp:qW) (hf:jq):Zm Tryz.prog spO:=orO_ok (num_ok hp) (orO_ok (poly_ok hp hf) mapO_ok)
end Go.Lens.Tb
end
section
namespace Go.Lens
variable [Lz]
section
variable {P:Program} {Y:Tab} [qL P Y] {O:Orc} {U:YOrc} {X:XOp} {fr:Oper->Bool} {en:FuncId->Bool}
noncomputable def yFunZ (O:Orc) (U:YOrc) (X:XOp) (fr:Oper->Bool) (Y:Tab) (en:FuncId->Bool) (F:FnI) (ds:List DV):Option DV:=
 match F.body with
 | some c=>bif Nat.ble ds.length F.n&&(DV.qO ds).isEmpty then
   match yCode Y O U X fr 2 F.n en true F.kp c ⟨zipT 0 ds,[]⟩ with
   | some (.normal,s)=>(match ZK Y F 2 [] ((s.tm.map (·.1)).foldl frz1 s) with
     | some (v,[])=>some v
     | _=>none)
   | some (.ret,s)=>(match ZK Y F 2 [] ((s.tm.map (·.1)).foldl frz1 s) with
     | some (v,[])=>some v
     | _=>none)
   | _=>none
  else none
 | none=>none
theorem Wk.frzL {nb:Nat}:∀ (l:List Nat) (s:St),Wk nb s (l.foldl Go.Lens.frz1 s)
 | [],_=>Wk.refl
 | _::l,_=>Wk.tr Wk.frz1 (Wk.frzL l _)
theorem yFunZ_ok (hm:P.follows .mixedOrders=true) (hO:Zm P O) (hZ:YOrcOk P U) (hX:XOpOk P Y X) (hen:∀ f,en f=true->∀ args w,(callFunc f args).run P w=.ok (.enter f args) w) {F:FnI} {f:FuncId} {fn:Func} (hf:P.funcs[f]? =some fn) (hb:fn.body=F.body) (hn:fn.ntmps=F.n) (hr:fn.results=F.res)
  (hda:∀ c,F.body=some c->jo F.n c=true) (he:∀ args w,(callFunc f args).run P w=.ok (.enter f args) w) {ds:List DV} {val:DV} (h:yFunZ O U X fr Y en F ds=some val):qD P f ds (qx []) val []:=by
 unfold yFunZ at h
 split at h
 ·rename_i c hc
  cases hq:(Nat.ble ds.length F.n&&(DV.qO ds).isEmpty) with
  | false=>rw[hq] at h;cases h
  | true=>
   rw[hq] at h
   simp only[cond_true] at h
   simp only[zj,Nat.ble_eq,List.isEmpty_iff] at hq
   have key:∀ (e:Exit) (s:St),(e=.normal\/e=.ret)->yCode Y O U X fr 2 F.n en true F.kp c ⟨zipT 0 ds,[]⟩=some (e,s)->ZK Y F 2 [] ((s.tm.map (·.1)).foldl frz1 s)=some (val,[])->qD P f ds (qx []) val []:=by
    intro e s hex hy hx
    refine callOk_ofL (Y:=Y) (F:=F) 2 [] hf (hb.trans hc) hn hr he hq.1 (by rw[hq.2];rfl) Z ?_
    refine T.mono (T.wkPost (yCode_ok hm hO hZ hX hen (fun _=>rfl) c (hda c hc) hy) (Wk.frzL (s.tm.map (·.1)) s)) ?_
    rintro e2 s2 ⟨rfl,rfl⟩
    exact⟨hex,hx⟩
   split at h
   ·rename_i s hy
    split at h
    ·rename_i hx;cases h;exact key _ s (.inl Z) hy hx
    cases h
   ·rename_i s hy
    split at h
    ·rename_i hx;cases h;exact key _ s (.inr Z) hy hx
    cases h
   cases h
 cases h
theorem yFunZ_of (hm:P.follows .mixedOrders=true) {SP:Orc} {FT:Tr FnI} {k:Nat} (hX:XOpOk P Y X) (hS:Zm P SP) (hF:FtOk P FT) {f:FuncId} {F:FnI} (hf:FT.get f=some F) {ds:List DV} {val:DV}
  (h:yFunZ (yBoth SP FT X fr Y k).1 (yBoth SP FT X fr Y k).2 X fr Y (fun f=>(FT.get f).isSome) F ds=some val):qD P f ds (qx []) val []:=by
 obtain⟨h1,h2⟩:=yBoth_ok (fr:=fr) hm hX hS hF k
 have hen:∀ f,(FT.get f).isSome=true->∀ args w,(callFunc f args).run P w=.ok (.enter f args) w:=fun f hf=>by
  obtain⟨F,hF'⟩:=Option.isSome_iff_exists.1 hf
  obtain⟨fn,_,_,_,_,_,h6⟩:=hF _ (Tr.get_mem hF')
  exact h6
 obtain⟨fn,g1,g2,g3,g4,g5,g6⟩:=hF _ (Tr.get_mem hf)
 exact yFunZ_ok hm h1 h2 hX hen g1 g2 g3 g4 g5 g6 h
end
end Go.Lens
end
section
namespace Go.Lens.Tb
open Go.Proofs Go.Lens.Un
variable [Lz] [Dn] [Kr]
theorem fact (hp:qW) (hf:jq) {f:FuncId} {F:FnI} (q:ft.get f=some F) {ds:List DV} {val:DV} (h:yFunZ (yBoth spO ft xArr frO tab 30).1 (yBoth spO ft xArr frO tab 30).2 xArr frO tab (fun f=>(ft.get f).isSome) F ds=some val):qD Tryz.prog f ds (qx []) val []:=
 yFunZ_of mixed xArr_ok (sp_ok hp hf) ft_ok q h
end Go.Lens.Tb
end
section
namespace Go.Lens.Tb
open Go.Proofs Go.Lens.Un
variable [Lz] [Dn] [Kr]
def eqBs:Nb->Nb->Bool
 | [],[]=>true
 | a::l,b::m=>Nat.beq a.toNat b.toNat&&eqBs l m
 | _,_=>false
theorem eqBs_ok:∀ {a b:Nb},eqBs a b=true->a=b
 | [],[],_=>rfl
 | [],_::_,h=>by cases h
 | _::_,[],h=>by cases h
 | a::l,b::m,h=>by
  simp only[eqBs,zj] at h
  rw[UInt8.toNat_inj.1 (zD h.1),eqBs_ok h.2]
mutual
def eqPV:PV->PV->Bool
 | .lit (.int .i64 a),.lit (.int .i64 b)=>ieqF a b
 | .lit (.string a),.lit (.string b)=>eqBs a.data.toList b.data.toList
 | .lit (.slice none 0 0),.lit (.slice none 0 0)=>true
 | .agg a,.agg b=>eqPVs a b
 | .slice a,.slice b=>eqPVss a b
 | _,_=>false
def eqPVs:List PV->List PV->Bool
 | [],[]=>true
 | a::l,b::m=>eqPV a b&&eqPVs l m
 | _,_=>false
def eqPVss:List (List PV)->List (List PV)->Bool
 | [],[]=>true
 | a::l,b::m=>eqPVs a b&&eqPVss l m
 | _,_=>false
end
mutual
theorem eqPV_ok:∀ {a b:PV},eqPV a b=true->a=b:=by
 intro a b h
 unfold eqPV at h
 split at h
 ·rw[ieqF_eq,beq_iff_eq] at h;rw[h]
 ·rename_i a b
  have:=eqBs_ok h
  obtain⟨⟨a⟩⟩:=a
  obtain⟨⟨b⟩⟩:=b
  simp only at this
  rw[this]
 ·rfl
 ·rw[eqPVs_ok h]
 ·rw[eqPVss_ok h]
 cases h
theorem eqPVs_ok:∀ {a b:List PV},eqPVs a b=true->a=b:=by
 intro a b h
 unfold eqPVs at h
 split at h
 ·rfl
 ·simp only[zj] at h
  rw[eqPV_ok h.1,eqPVs_ok h.2]
 cases h
theorem eqPVss_ok:∀ {a b:List (List PV)},eqPVss a b=true->a=b:=by
 intro a b h
 unfold eqPVss at h
 split at h
 ·rfl
 ·simp only[zj] at h
  rw[eqPVs_ok h.1,eqPVss_ok h.2]
 cases h
end
def eqDs:List DV->List PV->Bool
 | [],[]=>true
 | .pv a::l,b::m=>eqPV a b&&eqDs l m
 | _,_=>false
theorem eqDs_ok:∀ {a:List DV} {b:List PV},eqDs a b=true->a=b.map .pv
 | [],[],_=>rfl
 | [],_::_,h=>by cases h
 | d::l,[],h=>by cases d<;>cases h
 | d::l,b::m,h=>by
  cases d<;>first|cases h|skip
  simp only[eqDs,zj] at h
  rw[eqPV_ok h.1,eqDs_ok h.2];rfl
def factO:List (Nat×List PV×DV)->Orc
 | []=>fun _ _ _ _=>none
 | (g,xs,v)::T=>fun f lo ds l=>match l with
  | []=>bif Nat.beq g f&&eqDs ds xs then some (v,[]) else factO T f lo ds []
  | _=>none
theorem factO_ok:∀ {T:List (Nat×List PV×DV)},(∀ p∈T,qD Tryz.prog p.1 (p.2.1.map .pv) (qx []) p.2.2 [])->Zm Tryz.prog (factO T)
 | [],_=>fun _ _ _ _ _ _ h=>by cases h
 | (g,xs,v)::T,H=>fun f lo ds l val ms h=>by
  unfold factO at h
  split at h
  ·cases hb:(Nat.beq g f&&eqDs ds xs) with
   | true=>
    rw[hb] at h
    cases h
    simp only[zj] at hb
    obtain rfl:=zD hb.1
    rw[eqDs_ok hb.2]
    exact H _ ql
   | false=>
    rw[hb] at h
    exact factO_ok (fun p hp=>H p (zN _ hp)) _ _ _ _ _ _ h
  cases h
end Go.Lens.Tb
end
