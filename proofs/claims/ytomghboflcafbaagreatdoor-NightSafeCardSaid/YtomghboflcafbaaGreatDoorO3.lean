/- A part of the proof of NightSafeCardSaid, without conditions. -/
import Derived.Test.YtomghboflcafbaaGreatDoorO2
import Derived.RangeFuncIn
set_option linter.unusedVariables false
set_option linter.unusedSimpArgs false
set_option linter.unusedSectionVars false
section
namespace Go.Lens
variable [Lz]
theorem Inv.act {G:Gh} {σ:Vw} {a a':Act} {w:World} (I:Inv G σ a w) (h:a'.tmps=a.tmps):Inv G σ a' w:=
 ⟨fun s=>by rw[h];exact I.ts s,fun s hs=>I.size s (by rw[<-h];exact hs),I.ms,I.fresh,I.own,I.refsT,I.refsM,I.r0,I.r0m,I.baseLe,I.laid⟩
theorem Inv.look {G:Gh} {tm:List (Nat×DV)} {ms ms':List (Nat×MO)} {a:Act} {w:World} (I:Inv G (St.vw ⟨tm,ms⟩) a w) (h:∀ k,qx ms' k=qx ms k):Inv G (St.vw ⟨tm,ms'⟩) a w:=by
 have e:qx ms'=qx ms:=funext h
 have:St.vw ⟨tm,ms'⟩=St.vw ⟨tm,ms⟩:=by unfold St.vw;simp only[e]
 rw[this];exact I
theorem Inv.turnObj {G:Gh} {tm:List (Nat×DV)} {ms:List (Nat×MO)} {a:Act} {w:World} {K h:Nat} {o o':Obj} {m:MO} (I:Inv G (St.vw ⟨tm,ms⟩) a w) (hm:qx ms h=some (.obj o)) (h2:m=.obj o'\/m=.gone) :
  Inv G (St.vw ⟨tm,(h,m)::ms⟩) a (w.putObj (G.ρ h).map o')/\Since K (qx ms) G w (qx ((h,m)::ms)) G (w.putObj (G.ρ h).map o'):=by
 have hr:m.refs=[]:=by rcases h2 with rfl|rfl<;>rfl
 obtain⟨k1,k2,k3⟩:=I.ms _ _ hm
 have S:=jr (m:=m) (val:=.dead) (r:=undef) I.ctxS (B:=G.ρ h) (h:=h) hm (by rw[Gh.km];exact .inl Z) (w':=w.putObj (G.ρ h).map o') Z Z Z (by simp)
  (fun b hb=>World.putObj_heap_other (by rintro rfl;exact hb k2)) (by simp only[qz]) (by
   rw[Gh.km]
   rcases h2 with rfl|rfl
   ·exact⟨k1,k2,World.putObj_heap_same (zT.1 k3).1⟩
   trivial) (by simp[DV.refs]) (by rw[hr];simp)
 rw[Gh.km] at S
 exact I.eff (s:=⟨tm,ms⟩) (K:=K) S none (by simp)
def YieldAs (P:Program) (l:Nat) (vs:Array Value) (w:World) (R:Value->World->Prop):Prop:=
 ∃ fn tmps assign body,(Instr.yield l vs).run P w=.ok (.round l fn tmps assign body) w/\RoundIn Fence.wide 0 P l fn tmps assign body w fun e w'=>∃ r,e=.returned r/\R r w'
structure YldOk (P:Program) (h:Nat) (us:List Value) (ds args:List DV) (look:Nat->Option MO) (val:DV) (ms:List (Nat×MO)):Prop where
 call:∀ (G:Gh) (w:World) (vs:Array Value),Z4 G look w->qz G (G.rd w) (.yld h us ds) (.func (.yield (G.ρ h).map) #[] #[])->qD G (G.rd w) args vs.toList->
  YieldAs P (G.ρ h).map vs w fun r w'=>∃ G',Stepped G w look val ms G' w' r
theorem YldOk.frame {P:Program} {h:Nat} {us:List Value} {ds args:List DV} {l L:Nat->Option MO} {val:DV} {ms:List (Nat×MO)} (H:YldOk P h us ds args l val ms)
  (hsub:∀ h o,l h=some o->L h=some o) (hcl:∀ k o h,l k=some o->h∈o.refs->∃ o',l h=some o') (hnew:∀ h,h∈ms.map (·.1)->l h=none->L h=none):YldOk P h us ds args L val ms:=by
 refine⟨fun G w vs M hy hv=>?_⟩
 obtain⟨fn,t,avs,b,e1,R⟩:=H.call (G.part w l) w vs (M.part (fun h o e=>.inl (hsub h o e)) hcl) (qz.mono (G:=G) (part_le M) _ _ (fun _ _=>.inl rfl) hy) (qD.mono (G:=G) (part_le M) _ _ (fun _ _=>.inl rfl) hv)
 refine⟨fn,t,avs,b,e1,RoundIn.mono R ?_⟩
 rintro e w' ⟨r,rfl,G1,S⟩
 obtain⟨G2,S2⟩:=S.frame M (fun h o e=>.inl (hsub h o e)) hcl hnew
 exact⟨r,rfl,G2,S2⟩
section
variable {P:Program} {Y:Tab} [qU P Y] {nb:Nat} {s:St} {dst:Option Tmp} {ty:TypeId} {pos:String} {af:Array Edge} {gd:Option (Nat×Bool)}
theorem B.yieldS {f:Operand} {args:Array Operand} {ats:Array TypeId} {h:Nat} {us:List Value} {ds avs:List DV} {val:DV} {l out:List (Nat×MO)} (H:YldOk P h us ds avs (qx l) val out) (hf:ev1 s f=.yld h us ds)
  (hds:args.toList.map (ev1 s)=avs) (hsub:SubL s.ms l) (hcl:jk l=true) (hnew:out.all (fun p=>jJ l p.1||!jJ s.ms p.1)=true):Body P Y nb s ⟨dst,.call ⟨.value f,args,ats⟩,ty,pos,af,gd⟩ val out (l.map (·.1)):=by
 refine .inr fun σ G a w next Q h1 h2 I hn rr=>?_
 have hops:(Op.call ⟨.value f,args,ats⟩).operands.toList=f::args.toList:=call_ops
 rw[hops] at h1
 have hev:∀ z∈f::args.toList,ev1 σ z=ev1 s z:=fun z hz=>ev1_agree h1 hz
 have hF:qz G (G.rd w) (ev1 s f) (a.eval f):=by rw[<-hev f (by simp)];exact kM I f
 rw[hf] at hF
 have hF0:=hF
 simp only[qz] at hF
 obtain⟨g1,g2,g3⟩:=hF
 have hargs:qD G (G.rd w) (args.toList.map (ev1 s)) (args.toList.map a.eval):=by
  rw[<-List.map_congr_left (f:=ev1 σ) (g:=ev1 s) (fun z hz=>hev z (by simp[hz]))]
  have:∀ l:List Operand,qD G (G.rd w) (l.map (ev1 σ)) (l.map a.eval):=by
   intro l
   induction l with
   | nil=>simp[qD]
   | cons z l ih=>simp only[zw,qD];exact⟨_,_,rfl,kM I z,ih⟩
  exact this _
 have HL:YldOk P h us ds avs (qx σ.ms) val out:=by
  refine H.frame (fun h o e=>?_) (fun k o h e hh=>jR hcl k o e h hh) (fun h hh e=>?_)
  ·obtain⟨e1,e2⟩:=hsub.look e
   rw[h2 h (.inl e2)];exact e1
  rw[h2 h (.inr hh)];exact allHas hnew h hh e
 obtain⟨fn,t,avs',b,e1,R⟩:=HL.call G w (args.map a.eval) I.mem (by rw[<-g2];exact hF0) (by rw[<-hds];simpa using hargs)
 have hexec:(execOp a.eval ⟨dst,.call ⟨.value f,args,ats⟩,ty,pos,af,gd⟩).run P w=(Instr.yield (G.ρ h).map (args.map a.eval)).run P w:=by
  simp only[execOp,resolve,g2,Deferred.ofValue,qu,qw,qt,invoke,Array.empty_append]
 refine⟨fun _ _=>trivial,?_⟩
 show Oper.uponIn (fcR rr) 0 P _ a next Q ((Oper.semAt rr a.eval _).run P w)
 rw[Oper.semAt_eq _ _ _ (by simp),hexec,e1,Oper.uponIn_round]
 refine⟨(fun hh=>by simp[fcR,Fence.wide] at hh),RoundIn.mono (F:=Fence.wide) R ?_⟩
 rintro e w' ⟨r,rfl,G',S⟩
 exact hn r w' G' S
end
def recL (fn:FuncId) (us:List Value) (ps:Array Tmp) (assign body:Code) (D:Nat) (st:LoopState) (pe:Option Code):Obj:=
 .loop { state:=st,pending:=pe,fn,tmps:=us.toArray,params:=ps,assign,body,defers:=D }
def zipP:List Tmp->List DV->List (Nat×DV)->List (Nat×DV)
 | p::ps,d::ds,tm=>zipP ps ds ((p,d)::tm)
 | _,_,tm=>tm
theorem zipP_rel {G:Gh} {R:Rd} {n:Nat}:∀ {ps:List Tmp} {args:List DV} {vs:List Value} {tm:List (Nat×DV)} {tmps:Array Value},ps.length=args.length->(∀ p∈ps,p<n)->tmps.size=n->qD G R args vs->
  (∀ s,qz G R (jC tm s) (tmps.getD s undef))->(∀ s,n<=s->jC tm s=.dead)->
  (∀ s,qz G R (jC (zipP ps args tm) s) (((ps.zip vs).foldl (fun t (p:Tmp×Value)=>t.setIfInBounds p.1 p.2) tmps).getD s undef))/\(∀ s,n<=s->jC (zipP ps args tm) s=.dead)/\
   ((ps.zip vs).foldl (fun t (p:Tmp×Value)=>t.setIfInBounds p.1 p.2) tmps).size=n
 | [],[],vs,tm,tmps,_,_,hn,h,h1,h2=>by
  simp only[qD] at h
  subst h
  exact⟨h1,h2,hn⟩
 | p::ps,[],vs,tm,tmps,hl,_,hn,h,h1,h2=>by simp at hl
 | [],d::ds,vs,tm,tmps,hl,_,hn,h,h1,h2=>by simp at hl
 | p::ps,d::ds,vs,tm,tmps,hl,hp,hn,h,h1,h2=>by
  simp only[qD] at h
  obtain⟨v,vs',rfl,hv,hvs⟩:=h
  have hpn:=hp p (by simp)
  simp only[zipP,List.zip_cons_cons,List.foldl_cons]
  refine zipP_rel (by simpa using hl) (fun q hq=>hp q (by simp[hq])) (by simpa using hn) hvs (fun s=>?_) (fun s hs=>?_)
  ·rw[jo]
   simp only[zB,Array.getElem?_setIfInBounds]
   by_cases e:p=s
   ·subst e;simp[hn,hpn,hv]
   simp only[e,qr]
   simpa [zB] using h1 s
  have hne:p≠s:=fun e=>by rw[e] at hpn;exact absurd hs (Nat.not_le.2 hpn)
  rw[jo,if_neg hne]
  exact h2 s hs
theorem zipP_refs:∀ {ps:List Tmp} {args:List DV} {tm:List (Nat×DV)} {s h:Nat},h∈(jC (zipP ps args tm) s).refs->h∈DV.qT args\/∃ s,h∈(jC tm s).refs
 | [],args,tm,s,h,hh=>by cases args<;>exact .inr ⟨s,hh⟩
 | p::ps,[],tm,s,h,hh=>.inr ⟨s,hh⟩
 | p::ps,d::ds,tm,s,h,hh=>by
  simp only[zipP] at hh
  rcases zipP_refs hh with e|⟨s',e⟩
  ·exact .inl (by simp[DV.qT,e])
  rw[jo] at e
  split at e
  ·exact .inl (by simp[DV.qT,e])
  exact .inr ⟨s',e⟩
section
variable {P:Program} {n nb:Nat}
theorem YldOk.of {hl:Nat} {us:List Value} {ds args:List DV} {ps:Array Tmp} {assign body:Code} {fn:FuncId} {D:Nat} {l0 l1 out:List (Nat×MO)} {tm1:List (Nat×DV)} (b:Bool)
  (hus:us.length=n) (hps:ps.toList.length=args.length) (hpn:∀ t∈ps.toList,t<n) (hK:∀ h o,qx l0 h=some o->h<nb)
  (h0:qx l0 hl=some (.obj (recL fn us ps assign body D .ready none))) (href:(DV.qT (args++ds)).all (jJ l0)=true)
  (hA:∀ r:Nat, @T _ ⟨some r⟩ P n nb assign ⟨zipP ps.toList args (zipT 0 ds),l0⟩ fun e s'=>e=.normal/\Sub nb s' ⟨tm1,l1⟩)
  (h1:qx l1 hl=some (.obj (recL fn us ps assign body D .ready none)))
  (hB:∀ r:Nat, @T _ ⟨some r⟩ P n nb body ⟨tm1,(hl,.obj (recL fn us ps assign body D .busy none))::l1⟩ fun e s'=>e=(bif b then .normal else .ret)/\Sub nb s' ⟨[],(hl,.obj (recL fn us ps assign body D .busy none))::out⟩)
  (hne:∀ p∈out,p.1≠hl) (hnd:∀ h o,(h,o)∈out->qx out h=some o) (hold:l0.all (fun p=>jJ ((hl,.gone)::out) p.1)=true) (hcl:jk ((hl,.gone)::out)=true) :
  YldOk P hl us ds args (qx l0) (lit (.bool b)) ((hl,.obj (recL fn us ps assign body D (bif b then .ready else .done) (bif b then none else some .ret)))::out):=by
 refine⟨fun G w vs M hy hv=>?_⟩
 simp only[qz] at hy
 obtain⟨ha,_,hds⟩:=hy
 obtain⟨k1,k2,k3⟩:=M.ms _ _ h0
 have hvl:vs.size=ps.size:=by
  have e1:=hv.length
  have:ps.size=args.length:=by simpa using hps
  simp at e1
  omega
 have hdl:ds.length=n:=by have:=hds.length;omega
 have hy:=run_yield (P:=P) (args:=vs) k3 hvl
 have hbase:∀ s,qz G (G.rd w) (jC (zipT 0 ds) s) (us.toArray.getD s undef):=by
  intro s
  by_cases hs:s<n
  ·rcases getT_zipT G (G.rd w) ds us 0 s hds with h|h
   ·omega
   have:us.toArray.getD s undef=(us[s-0]?).getD undef:=by simp[zB]
   rw[this];exact h
  rw[jF ds 0 s (by omega)];simp only[qz]
 obtain⟨z1,z2,z3⟩:=zipP_rel (G:=G) (R:=G.rd w) (n:=n) (ps:=ps.toList) (args:=args) (vs:=vs.toList) (tm:=zipT 0 ds) (tmps:=us.toArray) hps hpn (by simpa using hus) hv hbase (fun s hs=>jF ds 0 s (by omega))
 have hfold:(ps.zip vs).foldl (fun (tmps:Array Value) (x:Tmp×Value)=>tmps.setIfInBounds x.1 x.2) us.toArray=(ps.toList.zip vs.toList).foldl (fun t (p:Tmp×Value)=>t.setIfInBounds p.1 p.2) us.toArray:=by
  rw[<-Array.foldl_toList,Array.toList_zip]
 rw[<-hfold] at z1 z3
 have hrf:∀ h∈DV.qT (args++ds),∃ o,qx l0 h=some o:=fun h hh=>jy.1 (zp.1 href h hh)
 have hrL:∀ (xs ys:List DV),DV.qT (xs++ys)=DV.qT xs++DV.qT ys:=by
  intro xs ys
  induction xs with
  | nil=>rfl
  | cons x xs ih=>simp only[zQ,DV.qT,ih,z7]
 rw[hrL] at hrf
 have I0:Inv G (St.vw ⟨zipP ps.toList args (zipT 0 ds),l0⟩) ⟨(ps.zip vs).foldl (fun (tmps:Array Value) (x:Tmp×Value)=>tmps.setIfInBounds x.1 x.2) us.toArray,[]⟩ w:=by
  refine⟨z1,fun s hs=>z2 s (by simp only at hs;omega),M.ms,M.fresh,M.own,fun s h hh=>?_,M.refsM,M.r0,M.r0m,M.baseLe,M.laid⟩
  rcases zipP_refs (show h∈(jC (zipP ps.toList args (zipT 0 ds)) s).refs from hh) with e|⟨s',e⟩
  ·exact hrf h (by simp[e])
  exact hrf h (List.mem_append_right _ (refs_zipT ds 0 s' h e))
 have hlK:=hK _ _ h0
 have keepρ:∀ {G':Gh},G.keeps G' hl->G'.ρ hl=G.ρ hl:=by
  rintro G' (e|⟨e,_⟩)
  ·exact e
  rw[k1] at e;cases e
 refine⟨fn,_,assign,body,hy,roundIn_of_wpIn (F:=Fence.wide) trivial ?_⟩
 refine hA (G.ρ hl).map G _ w _ I0 z3 ?_
 rintro e s' G1 a1 w1 ⟨rfl,hs'⟩ I1 Sn1 hn1 hd1
 obtain⟨G1',I1',Sn1'⟩:=hs'.wk I1
 have Sn:=Sn1.trans Sn1'
 obtain⟨_,k4,k5⟩:=I1'.ms _ _ h1
 have e1:=keepρ (Sn.keeps hl _ hlK h0).1
 rw[e1] at k4 k5
 refine⟨_,run_beginRound k5 Z,?_⟩
 obtain⟨I2,Sn2⟩:=I1'.turnObj (K:=nb) (o':=recL fn us ps assign body D .busy none) h1 (.inl rfl)
 rw[e1] at I2 Sn2
 refine hB (G.ρ hl).map G1' a1 _ _ I2 hn1 ?_
 rintro e s2 G2 a2 w3 ⟨rfl,hs2⟩ I3 Sn3 hn3 hd3
 obtain⟨G2',I3',Sn3'⟩:=hs2.wk I3
 have SnB:=((Sn.trans Sn2).trans Sn3).trans Sn3'
 have hlb:qx ((hl,MO.obj (recL fn us ps assign body D .busy none))::out) hl=some (.obj (recL fn us ps assign body D .busy none)):=by rw[qM,if_pos rfl]
 obtain⟨_,k6,k7⟩:=I3'.ms _ _ hlb
 have e2:=keepρ (SnB.keeps hl _ hlK h0).1
 rw[e2] at k6 k7
 have hend:=run_endRound (P:=P) (bif b then none else some Code.ret) k7
 obtain⟨I4,Sn4⟩:=I3'.turnObj (K:=nb) (o':=recL fn us ps assign body D (bif b then .ready else .done) (bif b then none else some .ret)) hlb (.inl rfl)
 rw[e2] at I4 Sn4
 have hself:∀ (m:MO) (l:List (Nat×MO)),qx ((hl,m)::l) hl=some m:=fun m l=>by rw[qM,if_pos rfl]
 have hskip:∀ (m m':MO) (h:Nat) (o:MO),h≠hl->qx out h=some o->qx ((hl,m)::(hl,m')::out) h=some o:=fun m m' h o e e2=>by
  rw[qM,if_neg (fun x=>e x.symm),qM,if_neg (fun x=>e x.symm)];exact e2
 have fin:∃ G'',Stepped G w (qx l0) (lit (.bool b)) ((hl,.obj (recL fn us ps assign body D (bif b then .ready else .done) (bif b then none else some .ret)))::out) G'' (w3.putObj (G.ρ hl).map (recL fn us ps assign body D (bif b then .ready else .done) (bif b then none else some .ret))) (.bool b):=by
  refine Since.close (K:=nb) M I4 (SnB.trans Sn4) hK (by simp[qz,qN,lit,isLit]) (fun h o hm=>?_) (fun h o ho=>?_) (by simp[DV.refs,lit]) (fun k o hk h hh=>?_)
  ·rcases zF.1 hm with e|hm
   ·cases e
    exact hself (.obj (recL fn us ps assign body D (bif b then .ready else .done) (bif b then none else some .ret))) ((hl,.obj (recL fn us ps assign body D .busy none))::out)
   exact hskip _ _ h o (hne _ hm) (hnd h o hm)
  ·have:=zp.1 hold _ (jf ho)
   obtain⟨o',ho'⟩:=jy.1 this
   have:=jf ho'
   simp only[zw,zF]
   rcases zF.1 this with e|e
   ·exact .inl (congrArg Prod.fst e)
   exact .inr (zE.2 ⟨_,e,rfl⟩)
  rcases zF.1 hk with e|hk
  ·cases e;simp[MO.refs] at hh
  have hk':qx ((hl,MO.gone)::out) k=some o:=by rw[qM,if_neg (fun e=>hne _ hk e.symm)];exact hnd k o hk
  obtain⟨o',ho'⟩:=jR hcl k o hk' h hh
  have:=jf ho'
  simp only[zw,zF]
  rcases zF.1 this with e|e
  ·exact .inl (congrArg Prod.fst e)
  exact .inr (zE.2 ⟨_,e,rfl⟩)
 obtain⟨G'',S⟩:=fin
 cases b with
 | true=>exact⟨_,_,hend,_,rfl,G'',S⟩
 | false=>exact⟨_,_,hend,_,rfl,G'',S⟩
theorem mks_one {a:Act} {w w':World} {G':Gh} {r:Nat} (h:w.heap.size<=r) (h2:G'.γ r=none) (h3:w'.heap[r]? =some (.deferred (some []))):Mks a w G' { a with defers:=[mkD r]++a.defers } w':=
 ⟨[r],rfl,by simp,fun x hx=>by rw[zg.1 hx];exact⟨h,h2,h3⟩⟩
theorem T.range {g:Operand} {ps:Array Tmp} {assign body:Code} {s:St} {Q:Exit->St->Prop} {f:FuncId} {first caps ds:List DV} {hl:Nat} {val:DV} {out:List (Nat×MO)} {st:LoopState} (pe:Bool)
  (he:∀ args w,(callFunc f args).run P w=.ok (.enter f args) w) (hg:tgtX (ev1 s g)=some (f,first,caps)) (hl0:qx s.ms hl=none)
  (hdl:ds.length=n) (hds:∀ i,i<n->ds.getD i .dead=jC s.tm i\/ds.getD i .dead=.dead)
  (H:∀ (us:List Value) (fn:FuncId) (D:Nat),us.length=n->q6 P f (first++[.yld hl us ds]++caps) (qx ((hl,.obj (recL fn us ps assign body D .ready none))::s.ms)) val ((hl,.obj (recL fn us ps assign body D st (bif pe then some .ret else none)))::out))
  (hst:st≠.busy) (hout:∀ p∈out,p.1≠hl) (hq:Q (bif pe then .ret else .normal) ⟨s.tm,(hl,.gone)::(out++s.ms)⟩):T P n nb (.rangeFunc g ps assign body) s Q:=by
 intro G a w R I hn hK
 refine wpIn_rangeFunc (F:=Fence.wide) ?_
 intro fn _
 obtain⟨vx,vy,ef,g1,g2⟩:=tgtX_sound hg (kM I g)
 obtain⟨us,hus⟩:∃ us,us=a.tmps.toList:=⟨_,rfl⟩
 have husl:us.length=n:=by rw[hus];simpa using hn
 obtain⟨rc,hrc⟩:∃ rc,rc=recL fn us ps assign body w.heap.size .ready none:=⟨_,rfl⟩
 obtain⟨W1,hW1⟩:∃ W1,W1=w.alloc (.deferred (some [])):=⟨_,rfl⟩
 have hs1:W1.heap.size=w.heap.size+1:=by rw[hW1];simp
 have S1:Stepped G w (qx s.ms) .dead [] G W1 undef:=by
  rw[hW1]
  exact jS I.ctxS Z Z Z (by simp) (fun b hb=>by first|exact heap_alloc_old w _ b hb|exact heap_alloc_old w _ hb) (by simp only[qz]) rfl
 obtain⟨I1,Sn1⟩:=I.eff (K:=nb) S1 none (by simp)
 have I1:Inv G s.vw a W1:=I1
 have hD1:W1.heap[w.heap.size]? =some (.deferred (some [])):=by rw[hW1];exact World.alloc_heap_new w _
 have gD1:G.γ w.heap.size=none:=by
  cases hq:G.γ w.heap.size with
  | none=>rfl
  | some h=>have:=I.fresh _ _ hq;omega
 obtain⟨W2,hW2⟩:∃ W2,W2=W1.alloc rc:=⟨_,rfl⟩
 have S2:Stepped G W1 (qx s.ms) .dead [(hl,.obj rc)] (G.new hl { map:=W1.heap.size } W1.heap.size) W2 undef:=by
  rw[hW2]
  refine jH (B:={ map:=W1.heap.size }) I1.fresh hl0 (by simp only[qz]) ?_ (by simp[DV.refs]) (by simp[MO.refs])
  simp only[jc]
  exact⟨by simp[Gh.new],by simp[Gh.new],by simp only[Gh.new,qq];exact heap_alloc_new W1 _⟩
 obtain⟨I2,Sn2⟩:=I1.eff (K:=nb) S2 none (by simp)
 obtain⟨G2,hG2⟩:∃ G2,G2=G.new hl { map:=W1.heap.size } W1.heap.size:=⟨_,rfl⟩
 rw[<-hG2] at I2 Sn2 S2
 have I2:Inv G2 (St.vw ⟨s.tm,(hl,.obj rc)::s.ms⟩) a W2:=I2
 have Sn2:Since nb (qx s.ms) G W1 (qx ((hl,.obj rc)::s.ms)) G2 W2:=Sn2
 have hρ:G2.ρ hl={ map:=W1.heap.size }:=by rw[hG2];simp[Gh.new]
 have hlr:qx ((hl,MO.obj rc)::s.ms) hl=some (.obj rc):=by rw[qM,if_pos rfl]
 have L2:=Sn2.later.rd
 have hR2:(G.rd w).Le (G2.rd W2):=(Sn1.trans Sn2).later.rd
 have hk2:∀ h,(∃ o,qx s.ms h=some o)->G.keeps G2 h:=by
  rintro h ⟨o,ho⟩
  exact .inl (by rw[hG2];simp only[Gh.new];rw[if_neg (by rintro rfl;rw[hl0] at ho;cases ho)])
 have tr:∀ (d:DV) (v:Value),(∀ h∈d.refs,∃ o,qx s.ms h=some o)->qz G (G.rd w) d v->qz G2 (G2.rd W2) d v:=fun d v hr h=>qz.mono hR2 d v (fun k hk=>hk2 k (hr k hk)) h
 have hgr:∀ h∈(ev1 s g).refs,∃ o,qx s.ms h=some o:=ev1_refs I g
 have hcl:∀ h,(h∈DV.qT first\/h∈DV.qT caps)->h∈(ev1 s g).refs:=by
  intro h hh
  have hp:∀ ps:List PV,DV.qT (ps.map .pv)=[]:=by
   intro ps
   induction ps with
   | nil=>rfl
   | cons p ps ih=>simp only[zw,DV.qT,DV.refs,zW];exact ih
  revert hg
  generalize ev1 s g=d
  intro hg
  unfold tgtX at hg
  split at hg
  ·cases hg
   rw[hp,hp] at hh
   simp at hh
  ·cases hg
   simpa [DV.refs] using hh
  cases hg
 have trs:∀ (l:List DV) (vs:List Value),(∀ h∈DV.qT l,∃ o,qx s.ms h=some o)->qD G (G.rd w) l vs->qD G2 (G2.rd W2) l vs:=fun l vs hr h=>qD.mono hR2 l vs (fun k hk=>hk2 k (hr k hk)) h
 have hy:qz G2 (G2.rd W2) (.yld hl us ds) (.func (.yield W1.heap.size) #[] #[]):=by
  simp only[qz]
  refine⟨by rw[hρ],by rw[hρ],?_⟩
  have hall:∀ (l:List DV) (vs:List Value),l.length=vs.length->(∀ i,qz G2 (G2.rd W2) (l.getD i .dead) (vs.getD i undef))->qD G2 (G2.rd W2) l vs:=by
   intro l
   induction l with
   | nil=>intro vs h _;simp only[qD];exact zL h.symm
   | cons d l ih=>
    intro vs h hi
    cases vs with
    | nil=>simp at h
    | cons v vs=>
     simp only[qD]
     exact⟨v,vs,rfl,by simpa using hi 0,ih vs (by simpa using h) (fun i=>by simpa using hi (i+1))⟩
  refine hall ds us (by omega) (fun i=>?_)
  by_cases hin:i<n
  ·rcases hds i hin with e|e
   ·rw[e]
    have:=I.ts i
    have e3:us.getD i undef=a.tmps.getD i undef:=by rw[hus];simp[zB,ze]
    rw[e3]
    exact tr _ _ (fun h hh=>I.refsT i h hh) this
   rw[e];simp only[qz]
  rw[ze,qh (by omega)];simp only[Option.getD_none,qz]
 have hv:qD G2 (G2.rd W2) (first++[.yld hl us ds]++caps) (vx++ #[Value.func (.yield W1.heap.size) #[] #[]]++vy).toList:=by
  simp only[Array.toList_append]
  refine ((trs _ _ (fun h hh=>hgr h (hcl h (.inl hh))) g1).append ?_).append (trs _ _ (fun h hh=>hgr h (hcl h (.inr hh))) g2)
  simp only[qD]
  exact⟨_,_,rfl,hy,rfl⟩
 have hcall:=(H us fn w.heap.size husl).call G2 W2 _ (by rw[<-hrc];exact I2.mem) hv
 refine⟨w.heap.size+1,[mkD w.heap.size],W2,{ target:=.fn (.func f) vy,args:=vx++ #[Value.func (.yield (w.heap.size+1)) #[] #[]] },W2,f,vx++ #[Value.func (.yield (w.heap.size+1)) #[] #[]]++vy,W2,?_,?_,fun _ _=>trivial,?_,(fun hh=>by simp[Fence.wide] at hh),?_⟩
 ·have:=run_enterLoop_outer (P:=P) (w:=w) fn a.tmps ps assign body
  rw[hW2,hW1,hrc]
  simp only[recL,hus]
  exact this
 ·simp only[resolve,ef,Deferred.ofValue,qw]
  simp
  rfl
 ·simp only[invoke]
  exact he _ _
 rw[hs1] at hcall
 rcases hcall with ⟨_,hc⟩|⟨r,w',hrun,_⟩
 rotate_left
 ·rw[he] at hrun;cases hrun
 refine callsIn_wide.2 (Calls.mono hc ?_)
 rintro e w3 ⟨r,rfl,G3,S3⟩
 rw[<-hrc] at S3
 obtain⟨I3,Sn3⟩:=I2.eff (s:=⟨s.tm,(hl,.obj rc)::s.ms⟩) (K:=nb) S3 none (by simp)
 obtain⟨rc',hrc'⟩:∃ rc',rc'=recL fn us ps assign body w.heap.size st (bif pe then some .ret else none):=⟨_,rfl⟩
 rw[<-hrc'] at I3 Sn3 S3
 have I3:Inv G3 (St.vw ⟨s.tm,((hl,.obj rc')::out)++(hl,.obj rc)::s.ms⟩) a w3:=I3
 have Sn3:Since nb (qx ((hl,.obj rc)::s.ms)) G2 W2 (qx (((hl,.obj rc')::out)++(hl,.obj rc)::s.ms)) G3 w3:=Sn3
 have hl3:qx (((hl,MO.obj rc')::out)++(hl,.obj rc)::s.ms) hl=some (.obj rc'):=by rw[zQ,qM,if_pos rfl]
 obtain⟨k1,k2,k3⟩:=I3.ms _ _ hl3
 have hρ3:G3.ρ hl=G2.ρ hl:=by
  rcases S3.keeps hl _ hlr with e|⟨e,_⟩
  ·exact e
  rw[hρ] at e;cases e
 obtain⟨I4,Sn4⟩:=I3.turnObj (K:=nb) (o':=.loop { state:=.exhausted,pending:=(bif pe then some .ret else none),fn,tmps:=us.toArray,params:=ps,assign,body,defers:=w.heap.size }) hl3 (.inr rfl)
 rw[hρ3,hρ] at k2 k3 I4 Sn4
 simp only[hs1] at k2 k3 I4 Sn4
 rw[hrc'] at k3
 refine⟨_,_,run_endLoop k3 hst,?_⟩
 have hlook:∀ k,qx ((hl,MO.gone)::(out++s.ms)) k=qx ((hl,.gone)::(((hl,.obj rc')::out)++(hl,.obj rc)::s.ms)) k:=by
  intro k
  by_cases e:hl=k
  ·rw[qM,qM,if_pos e,if_pos e]
  rw[qM,qM,if_neg e,if_neg e,zQ,qM,if_neg e,Zs,Zs,qM,if_neg e]
 have I5:=(I4.look hlook).act (a':={ a with defers:=[mkD w.heap.size]++a.defers }) rfl
 have Sn5:=((Sn1.trans Sn2).trans Sn3).trans Sn4
 rw[<-funext hlook] at Sn5
 have L:=((Sn2.trans Sn3).trans Sn4).later
 obtain⟨c1,c2⟩:=L.cold w.heap.size (by omega) gD1
 have M5:=mks_one (a:=a) (w:=w) (zz _) c2 (c1.trans hD1)
 cases pe with
 | false=>exact hK _ _ _ _ _ hq I5 Sn5 hn M5
 | true=>exact wpIn_ret (hK _ _ _ _ _ hq I5 Sn5 hn M5)
theorem TK.range {g:Operand} {ps:Array Tmp} {assign body:Code} {s:St} {Q:Exit->St->Prop} {K:List Fr} {f:FuncId} {first caps ds:List DV} {hl:Nat} {val:DV} {out:List (Nat×MO)} {st:LoopState} (pe:Bool)
  (he:∀ args w,(callFunc f args).run P w=.ok (.enter f args) w) (hg:tgtX (ev1 s g)=some (f,first,caps)) (hl0:qx s.ms hl=none)
  (hdl:ds.length=n) (hds:∀ i,i<n->ds.getD i .dead=jC s.tm i\/ds.getD i .dead=.dead)
  (H:∀ (us:List Value) (fn:FuncId) (D:Nat),us.length=n->q6 P f (first++[.yld hl us ds]++caps) (qx ((hl,.obj (recL fn us ps assign body D .ready none))::s.ms)) val ((hl,.obj (recL fn us ps assign body D st (bif pe then some .ret else none)))::out))
  (hst:st≠.busy) (hout:∀ p∈out,p.1≠hl) (hq:PK P n nb Q K (bif pe then .ret else .normal) ⟨s.tm,(hl,.gone)::(out++s.ms)⟩):TK P n nb Q (.rangeFunc g ps assign body) K s:=
 T.range pe he hg hl0 hdl hds H hst hout hq
end
section
variable {P:Program} {Y:Tab} [qU P Y] {nb:Nat} {s:St} {dst:Option Tmp} {ty u:TypeId} {pos:String} {af:Array Edge} {gd:Option (Nat×Bool)} {t:TypeId} {x y z:Operand}
theorem B.fadE {h v sz n c f off:Nat} {T:TypeId} {es:List (List PV)} (hx:ev1 s x=.eref h v n c) (hm:qx s.ms h=some (.arr v sz T es)) (hf:fadQ Y t f=some off):Body P Y nb s ⟨dst,.fieldAddr t x f,ty,pos,af,gd⟩ (.eref h v n (c+off)) [] [h]:=by
 refine .inr (Zp.of fun σ G a w hv hl I=>?_)
 have hX:=hv x (by simp[Op.operands])
 rw[hx] at hX
 have hlk:qx σ.ms h=some (.arr v sz T es):=by rw[hl h (.inl (by simp))];exact hm
 have hq:jD Y t f (qx σ.ms) (.eref h v n c)=some (true,.eref h v n (c+off)):=by
  unfold fadQ at hf
  unfold jD
  split at hf
  ·rename_i fd hfd
   split at hf
   ·rename_i k hk
    cases hf
    simp[hfd,hk,liveArr,hlk]
   cases hf
  cases hf
 obtain⟨r,h1,h2⟩:=fieldAddrQ_sound (P:=P) I.ctxS.sees hq hX
 refine⟨r,w,G,.inl ?_,qL I.ctxS h2 (fun k hk=>?_)⟩
 ·simp only[execOp,qu,h1,qt,qw]
 simp only[DV.refs,zg] at hk;subst hk;exact⟨_,hlk⟩
theorem B.loadEC {α:Type} {enc:α->List PV} {l:List α} {z0:α} {p:PV} {h v sz n c:Nat} {T:TypeId} (hx:ev1 s x=.eref h v n c) (hm:qx s.ms h=some (.arr v sz T (l.map enc))) (ha:aggT Y t=some false) (hs:szT Y t=some 1)
  (hlt:n<l.length) (hz:(enc (l.getD n z0))[c]? =some p):Body P Y nb s ⟨dst,.load t x,ty,pos,af,gd⟩ (.pv p) [] [h]:=by
 refine .inr (Zp.of fun σ G a w hv hl I=>?_)
 have hX:=hv x (by simp[Op.operands])
 rw[hx] at hX
 have hlk:qx σ.ms h=some (.arr v sz T (l.map enc)):=by rw[hl h (.inl (by simp))];exact hm
 have hg:(l.map enc).getD n []=enc (l.getD n z0):=by
  rw[ze,qf,ze,zm hlt];rfl
 have hcl:=(List.getElem?_eq_some_iff.1 hz).1
 have hq:ZZ Y t (qx σ.ms) (.eref h v n c)=some (true,.pv p):=by
  unfold ZZ
  have hgd:(enc (l.getD n z0)).getD c dfl=p:=by rw[ze,hz];rfl
  have hdd:decide (n<l.length/\c<(enc (l.getD n z0)).length)=true:=zl ⟨hlt,hcl⟩
  simp only[ha,hs,hlk,qq,hg,qp,qr,zJ,hgd,hdd]
 obtain⟨r,h1,h2⟩:=ZY (P:=P) I.ctxS.sees hq hX
 refine⟨r,w,G,.inl ?_,qL I.ctxS h2 (fun k hk=>by simp[DV.refs] at hk)⟩
 simp only[execOp,qu,h1,qt,qw]
theorem B.loadEA {α:Type} {enc:α->List PV} {l:List α} {z0:α} {h v sz n k:Nat} {T:TypeId} (hx:ev1 s x=.eref h v n 0) (hm:qx s.ms h=some (.arr v sz T (l.map enc))) (ha:aggT Y t=some true) (hs:szT Y t=some k)
  (hlt:n<l.length) (hz:(enc (l.getD n z0)).length=k):Body P Y nb s ⟨dst,.load t x,ty,pos,af,gd⟩ (.pv (.agg (enc (l.getD n z0)))) [] [h]:=by
 refine .inr (Zp.of fun σ G a w hv hl I=>?_)
 have hX:=hv x (by simp[Op.operands])
 rw[hx] at hX
 have hlk:qx σ.ms h=some (.arr v sz T (l.map enc)):=by rw[hl h (.inl (by simp))];exact hm
 have hg:(l.map enc).getD n []=enc (l.getD n z0):=by
  rw[ze,qf,ze,zm hlt];rfl
 have hq:ZZ Y t (qx σ.ms) (.eref h v n 0)=some (true,.pv (.agg (enc (l.getD n z0)))):=by
  unfold ZZ
  simp only[ha,hs,hlk,qq,hg,zJ,List.drop_zero,Nat.zero_add,hz]
  rw[zx (by omega)]
  simp[hlt]
 obtain⟨r,h1,h2⟩:=ZY (P:=P) I.ctxS.sees hq hX
 refine⟨r,w,G,.inl ?_,qL I.ctxS h2 (fun k hk=>by simp[DV.refs] at hk)⟩
 simp only[execOp,qu,h1,qt,qw]
theorem B.storeT {α:Type} {enc:α->List PV} {l:List α} {h c v sz hh n:Nat} {T T2:TypeId} {ds ds2:List DV} (hx:ev1 s x=.bref h c) (hm:qx s.ms h=some (.box T ds)) (hy:ev1 s y=.atrunc hh v n) (hm2:qx s.ms hh=some (.arr v sz T2 (l.map enc)))
  (hs:szT Y t=some 1) (hle:Nat.ble (c+1) ds.length=true) (hd:ds.take c++[.aref hh (v+1)]++ds.drop (c+1)=ds2):Body P Y nb s ⟨dst,.store t x y,ty,pos,af,gd⟩ .dead [(h,.box T ds2),(hh,.arr (v+1) sz T2 ((l.take n).map enc))] [h,hh]:=by
 subst hd
 refine .inr (Zp.of fun σ G a w hv hl I=>?_)
 have hX:=hv x (by simp[Op.operands])
 have hY:=hv y (by simp[Op.operands])
 rw[hx] at hX;rw[hy] at hY
 have hlk:qx σ.ms h=some (.box T ds):=by rw[hl h (.inl (by simp))];exact hm
 have hlk2:qx σ.ms hh=some (.arr v sz T2 (l.map enc)):=by rw[hl hh (.inl (by simp))];exact hm2
 have hne:hh≠h:=by rintro rfl;rw[hlk] at hlk2;cases hlk2
 have ht:truncU (qx σ.ms) (.atrunc hh v n)=some (.aref hh (v+1),hh,.arr (v+1) sz T2 ((l.map enc).take n)):=by simp only[truncU,hlk2,qq]
 obtain⟨G1,S1⟩:=trunc_stepped I.mem hY ht
 have M1:=I.mem.out S1
 have lk1:upd [(hh,MO.arr (v+1) sz T2 ((l.map enc).take n))] (qx σ.ms) h=some (.box T ds):=by
  unfold upd
  simp only[ja,if_neg hne,hlk]
 have lk2:upd [(hh,MO.arr (v+1) sz T2 ((l.map enc).take n))] (qx σ.ms) hh=some (.arr (v+1) sz T2 ((l.map enc).take n)):=by
  unfold upd
  simp only[ja,qq]
 have C:Ctx G1 w (fun z=>match z with| .tmp 0=>a.eval x| .tmp 1=>a.eval y|_=>undef) (fun z=>match z with| .tmp 0=>.bref h c| .tmp 1=>.aref hh (v+1)|_=>.dead) (upd [(hh,MO.arr (v+1) sz T2 ((l.map enc).take n))] (qx σ.ms)) (upd [(hh,MO.arr (v+1) sz T2 ((l.map enc).take n))] (qx σ.ms)):=by
  refine M1.ctx2 (fun z=>?_) (fun z k hk=>?_)
  ·split
   ·exact qz.mono S1.later.rd _ _ (fun k hk=>by simp only[DV.refs,zg] at hk;subst hk;exact S1.keeps _ _ hlk) hX
   ·exact S1.hval
   simp only[qz]
  split at hk
  ·simp only[DV.refs,zg] at hk;subst hk;exact⟨_,lk1⟩
  ·simp only[DV.refs,zg] at hk;subst hk;exact⟨_,lk2⟩
  simp[DV.refs] at hk
 have hcv:storeV Y t (.bref h c) (.aref hh (v+1)) (upd [(hh,MO.arr (v+1) sz T2 ((l.map enc).take n))] (qx σ.ms))=some ⟨true,.dead,[(h,.box T (ds.take c++[.aref hh (v+1)]++ds.drop (c+1)))]⟩:=by
  unfold storeV
  have hok:kP (upd [(hh,MO.arr (v+1) sz T2 ((l.map enc).take n))] (qx σ.ms)) (.aref hh (v+1))=true:=by simp[kP,lk2]
  have hcl:j0 (.aref hh (v+1))=[.aref hh (v+1)]:=rfl
  have hdec:decide (c+1<=ds.length)=true:=zl (zY hle)
  simp only[hs,lk1,hok,hcl,zb,zd,Nat.zero_add,beq_self_eq_true,Bool.and_self,qq,hdec]
 obtain⟨w',G',h1,h2⟩:=storeV_sound (P:=P) C (t:=t) (a:=.tmp 0) (x:=.tmp 1) hcv rfl
 refine⟨undef,w',G',.inr ⟨?_,rfl⟩,?_⟩
 ·have lift:∀ {q:Sem Unit} {w':World},q.run P w=.ok () w'->(do q;Pure.pure Next.skip:Sem Next).run P w=.ok .skip w':=by
   intro q w' h
   simp only[qu,h,qt,qw]
  exact lift (q:=Instr.storeAt _ _ _) h1
 have:=S1.trans I.mem h2
 have e:mrg [(h,MO.box T (ds.take c++[.aref hh (v+1)]++ds.drop (c+1)))] [(hh,MO.arr (v+1) sz T2 ((l.map enc).take n))]=[(h,.box T (ds.take c++[.aref hh (v+1)]++ds.drop (c+1))),(hh,.arr (v+1) sz T2 ((l.take n).map enc))]:=by
  have e2:(ja [(h,MO.box T (ds.take c++[.aref hh (v+1)]++ds.drop (c+1)))] hh).isNone=true:=by simp only[ja,if_neg hne.symm];rfl
  simp only[mrg,List.filter_cons,e2,qq,List.filter_nil,List.map_take]
  rfl
 rw[e] at this;exact this
theorem Frz.nilV (v:Nat) {l:List (Nat×MO)} {h sz:Nat} {T:TypeId} (hl:qx l h=none):Frz l .nils [] (.aref h v) [(h,.arr v sz T [])]:=by
 intro G w G1 w1 r M S
 have hv:=S.hval
 simp only[qz] at hv
 refine⟨G1.turn h ⟨none,0,0,sz,v,0,true⟩,⟨⟨S.later.base,S.later.R0,S.later.R0c,S.later.R0m,S.later.os,S.later.tape,S.later.output,S.later.size,S.later.cold⟩,?_,?_,?_,?_,S.fresh,?_,?_,?_,S.newb,S.r0,S.r0m⟩⟩
 ·simp only[qz,Gh.turn,qq]
  exact⟨zz _,fun _=>hv⟩
 ·intro k o hk
  simp only[zg,zu] at hk
  obtain⟨rfl,rfl⟩:=hk
  simp only[jc,Gh.turn,qq]
  exact⟨trivial,trivial,trivial,rfl,zz _,(by simp),.inl ⟨trivial,trivial⟩⟩
 ·intro k o hk
  have hne:k≠h:=by rintro rfl;rw[hl] at hk;cases hk
  have:=S.keeps k o hk
  unfold Gh.keeps at this ⊢
  simp only[Gh.turn,hne,qr];exact this
 ·intro k hk
  simp only[zw,zZ,zg] at hk
  have:=S.old k (by simp)
  simp only[Gh.turn,hk,qr];exact this
 ·intro b k hk
  rcases S.own b k hk with e|e
  ·simp at e
  exact .inr e
 ·intro k hk
  simp only[DV.refs,zg] at hk
  exact .inl (by simp[hk])
 intro k o hk k2 hh
 simp only[zg,zu] at hk
 obtain⟨rfl,rfl⟩:=hk
 simp[MO.refs] at hh
theorem B.adoptV (v h sz:Nat) (T:TypeId) (hx:ev1 s x=.nils) (hh:jJ s.ms h=false):Body P Y nb s ⟨dst,.assign x,ty,pos,af,gd⟩ (.aref h v) [(h,.arr v sz T [])] []:=by
 refine B.of0 (val0:=.nils) (m0:=[]) (lo:=0) (nm:=0) (ke P) ?_ ?_ (Frz.nilV v Z) ?_
 ·intro z hz
  have:z=x:=by simpa [Op.operands] using hz
  rw[this,hx];rfl
 ·show mvE (evU (tmpsOf [x]) s x)=_
  rw[qX (by simp),hx];rfl
 simp[hh]
theorem B.appendN {α:Type} {enc:α->List PV} {z0:α} {n d h sz bs:Nat} {mi:Int} {e at1 at2:TypeId} {i:TypeInfo} {zv:Value} {k:IntKind} (hx:ev1 s x=.nils) (hy:ev1 s y=lit (.int .i64 mi)) (hmi:mi=(n:Int)) (hne:(at1==at2)=false) (und:Y.underlying at1=some (.slice e)) (und2:Y.underlying at2=some (.int k)) (hi:Y.info? e=some i)
  (hz:i.zero=some zv) (hc:ZW zv.cells.toList=some (enc z0)) (hq:(Nat.blt 0 i.size&&Nat.beq zv.cells.size i.size&&Nat.beq i.size sz)=true) (hb:i.bytes=bs) (hlen:(enc z0).length=sz)
  (hle:n*bs<=140737488355328/\n<=9223372036854775807) (hh:nameOf nb s.ms (some d)=h) (hm:jJ s.ms h=false) :
  Body P Y nb s ⟨some d,.call ⟨.builtin .append,⟨[x,y]⟩,⟨[at1,at2]⟩⟩,ty,pos,af,gd⟩ (.aref h 0) [(h,.arr 0 sz e ((List.replicate n z0).map enc))] []:=by
 subst hb
 simp only[zj,Nat.beq_eq,Nat.blt_eq] at hq
 obtain⟨⟨k1,k2⟩,rfl⟩:=hq
 refine B.of0 (val0:=.aref h 0) (m0:=[(h,.arr 0 i.size e ((List.replicate n z0).map enc))]) (lo:=0) (nm:=h) (ke P) ?_ ?_ (Frz.refl _ _ _) ?_
 ·intro q hq
  have hq2:q∈[x,y]:=hq
  have:q=x\/q=y:=by simpa using hq2
  rcases this with rfl|rfl
  ·rw[hx];rfl
  rw[hy];rfl
 ·have e1:evU (tmpsOf [x,y]) s x=_:=(qX (by simp)).trans hx
  have e2:evU (tmpsOf [x,y]) s y=_:=(qX (by simp)).trans hy
  have ha:appendV Y h at1 at2 .nils (lit (.int .i64 mi)) (qx []) (qx [])=some ⟨true,.aref h 0,[(h,.arr 0 i.size e ((List.replicate n z0).map enc))]⟩:=by
   unfold appendV
   have hs:srcOf Y at1 at2 i (qx []) .nils (lit (.int .i64 mi))=some ((List.replicate n z0).map enc):=by
    unfold srcOf
    have hd:(0:Int)<=(n:Int)/\(n:Int)<=9223372036854775807/\n*i.bytes<=281474976710656:=⟨by omega,by omega,by omega⟩
    simp only[hne,qp,qr,und2,lit,hz,z6,hc,hmi,zU,hd,and_self,qq,List.map_replicate]
   have hq:(decide (0<i.size)&&i.zero.isSome&&decide ((i.zero.getD default).cells.size=i.size))=true:=by
    simp only[hz,Option.isSome_some,zP,k1,k2,decide_true,Bool.and_self]
   have hl:(qx ([]:List (Nat×MO)) h).isNone=true:=rfl
   have hal:jK i.size ((List.replicate n z0).map enc)=true:=by
    unfold jK
    rw[zp]
    intro a ha
    rw[List.map_replicate] at ha
    have:=(List.mem_replicate.1 ha).2
    subst this
    simpa using hlen
   have hle2:decide (((List.replicate n z0).map enc).length*i.bytes<=140737488355328/\((List.replicate n z0).map enc).length<=9223372036854775807)=true:=by
    simp only[zJ,qe];exact zl hle
   simp only[und,hi,hs,hq,hl,qq,hal,hle2,Bool.and_self]
  have hv:effV Y h (some d) (.call ⟨.builtin .append,⟨[x,y]⟩,⟨[at1,at2]⟩⟩) (evU (tmpsOf [x,y]) s) (qx [])=some ⟨true,.aref h 0,[(h,.arr 0 i.size e ((List.replicate n z0).map enc))]⟩:=by
   show (match truncU _ (evU (tmpsOf [x,y]) s x) with|some (d',h',m)=>_|none=>appendV Y h at1 at2 (evU (tmpsOf [x,y]) s x) (evU (tmpsOf [x,y]) s y) _ _)=_
   rw[e1,e2]
   exact ha
  show (match effV Y h (some d) (.call ⟨.builtin .append,⟨[x,y]⟩,⟨[at1,at2]⟩⟩) (evU (tmpsOf [x,y]) s) (qx []) with|some ⟨true,v,m⟩=>some (v,m)|_=>none)=_
  rw[hv]
 simp[hm]
end
section
variable {P:Program} {Y:Tab} [qU P Y] {n nb:Nat} {ops:Array Oper} {s:St} {Q:Exit->St->Prop} {K:List Fr} {c:Code}
theorem T.nilM [Fc] {id d1 d2:Nat} {x:Operand} {t u ty1 ty2 e:TypeId} {p1 p2:String} {af1 af2:Array Edge} {es:List (List PV)}
  (hops:ops.toList=[⟨some d1,.move x,ty1,p1,af1,none⟩,⟨some d2,.binOp .eql t (.tmp d1) (.const (.slice none 0 0)) u,ty2,p2,af2,none⟩]) (hda:js n (.region id ops false)=true)
  (hx:ev1 s x=.pv (.slice es)) (und:Y.underlying t=some (.slice e))
  (hT:es=[]->Q .normal ⟨(d2,lit (.bool true))::(d1,.pv (.slice es))::s.tm,s.ms⟩)
  (hF:Q .normal ⟨(d2,lit (.bool false))::(d1,.pv (.slice es))::s.tm,s.ms⟩):T P n nb (.region id ops false) s Q:=by
 intro G a w R I hn hK
 simp only[js,zj] at hda
 have hda1:=hda.1
 rw[hops] at hda1
 simp only[List.all_cons,List.all_nil,Bool.and_true,zj] at hda1
 obtain⟨hd1,hd2⟩:=hda1
 have hsz:ops.size=2:=by rw[<-qk,hops];rfl
 have hi0:ops[0]? =some ⟨some d1,.move x,ty1,p1,af1,none⟩:=by rw[<-qj,hops];rfl
 have hi1:ops[1]? =some ⟨some d2,.binOp .eql t (.tmp d1) (.const (.slice none 0 0)) u,ty2,p2,af2,none⟩:=by rw[<-qj,hops];rfl
 have hX:=kM I x
 rw[hx] at hX
 have hX0:=hX
 simp only[qz,qN] at hX
 obtain⟨ad,cap,hv,hcap,hel⟩:=hX
 refine wpIn_region ?_
 rw[hsz,show List.range 2=[0,1] from rfl]
 simp only[wpOpsIn,hi0]
 rw[if_pos (show Region.wanted (⟨some d1,.move x,ty1,p1,af1,none⟩:Oper) (yielded ops a.tmps)=true from rfl)]
 refine wpR_of ?_ (by simp) _
 have ex0:(execOp a.eval ⟨some d1,.move x,ty1,p1,af1,none⟩).run P w=.ok (.value (a.eval x)) w:=by simp only[execOp,qw]
 unfold Oper.wp
 rw[ex0]
 show wpOpsIn fcF 0 P ops R [1] (a.put (some d1) (a.eval x)) w
 obtain⟨I1,Sn1⟩:=I.eff (K:=nb) (qL I.ctxS (val:=.pv (.slice es)) (r:=a.eval x) hX0 (fun k hk=>by simp[DV.refs] at hk)) (some d1) (dstOk_lt hd1 hn)
 simp only[wpOpsIn,hi1]
 rw[if_pos (show Region.wanted (⟨some d2,.binOp .eql t (.tmp d1) (.const (.slice none 0 0)) u,ty2,p2,af2,none⟩:Oper) (yielded ops (a.put (some d1) (a.eval x)).tmps)=true from rfl)]
 refine wpR_of ?_ (by simp) _
 have hlt:d1<a.tmps.size:=dstOk_lt hd1 hn d1 rfl
 have hev:(a.put (some d1) (a.eval x)).eval (.tmp d1)=a.eval x:=by
  show (a.put (some d1) (a.eval x)).tmps.getD d1 undef=_
  rw[Act.put_getD];simp[hlt]
 have hnil:(a.put (some d1) (a.eval x)).eval (.const (.slice none 0 0))=.slice none 0 0:=rfl
 have hq:=run_equal_slice_nil (P:=P) w t e ad es.length cap (qU.und P und)
 have ex1:(execOp (a.put (some d1) (a.eval x)).eval ⟨some d2,.binOp .eql t (.tmp d1) (.const (.slice none 0 0)) u,ty2,p2,af2,none⟩).run P w=.ok (.value (.bool ad.isNone)) w:=by
  simp only[execOp,hev.trans hv,hnil,eqGuard_at_slice,binOp,qu,qw,qt,hq]
 unfold Oper.wp
 rw[ex1]
 show wpOpsIn fcF 0 P ops R [] ((a.put (some d1) (a.eval x)).put (some d2) (.bool ad.isNone)) w
 obtain⟨I2,Sn2⟩:=I1.eff (K:=nb) (qL I1.ctxS (val:=lit (.bool ad.isNone)) (r:=.bool ad.isNone) (qO rfl) (fun k hk=>by simp[DV.refs,lit] at hk)) (some d2) (dstOk_lt hd2 (by rw[Act.kN];exact hn))
 have hsz2:((a.put (some d1) (a.eval x)).put (some d2) (.bool ad.isNone)).tmps.size=n:=by rw[Act.kN,Act.kN];exact hn
 have hdf:((a.put (some d1) (a.eval x)).put (some d2) (.bool ad.isNone)).defers=a.defers:=rfl
 cases had:ad with
 | none=>
  have hes:es=[]:=by
   rcases hel with e|⟨b,off,esz,e,_⟩
   ·exact e
   rw[had] at e;cases e
  rw[had] at I2 Sn2 hsz2
  exact hK _ _ _ _ _ (hT hes) I2 (Sn1.trans Sn2) hsz2 (Mks.of Z)
 | some b=>
  rw[had] at I2 Sn2 hsz2
  exact hK _ _ _ _ _ hF I2 (Sn1.trans Sn2) hsz2 (Mks.of Z)
theorem TK.nilM [Fc] {id d1 d2:Nat} {x:Operand} {t u ty1 ty2 e:TypeId} {p1 p2:String} {af1 af2:Array Edge} {es:List (List PV)}
  (hops:ops.toList=[⟨some d1,.move x,ty1,p1,af1,none⟩,⟨some d2,.binOp .eql t (.tmp d1) (.const (.slice none 0 0)) u,ty2,p2,af2,none⟩]) (hda:js n (.region id ops false)=true)
  (hx:ev1 s x=.pv (.slice es)) (und:Y.underlying t=some (.slice e))
  (hT:es=[]->PK P n nb Q K .normal ⟨(d2,lit (.bool true))::(d1,.pv (.slice es))::s.tm,s.ms⟩)
  (hF:PK P n nb Q K .normal ⟨(d2,lit (.bool false))::(d1,.pv (.slice es))::s.tm,s.ms⟩):TK P n nb Q (.region id ops false) K s:=T.nilM (Y:=Y) hops hda hx und hT hF
end
end Go.Lens
end
section
namespace Go.Lens.Tm
open Go.Lens.Tb Go.Proofs
section
variable [Lz] [Fc] {n nb:Nat} {Q:Exit->St->Prop} {ops:Array Oper} {dr:Bool} {os:List Oper} {tm:List (Nat×DV)} {dst:Option Tmp} {T:TypeId} {fs:Array (Nat×Operand)} {ty:TypeId} {pos:String} {af:Array Edge} {val:DV} {m ms:List (Nat×MO)} {rd:List Nat} {acc:List Ef} {K:List Fr} {c:Cg}
theorem Eb (k0:Nat) (e:go n nb 9999 k0 c=.r ops dr (⟨dst,.build T fs,ty,pos,af,none⟩::os) tm ms acc K) (h:Body Tryz.prog tab nb ⟨tm,ms⟩ ⟨dst,.build T fs,ty,pos,af,none⟩ val m rd) (k:CG n nb Q (nx ops dr os tm dst val m ms rd acc K)):CG n nb Q c:=go_ok (k:=k0) (by rw[e];exact RO h (nx_ok k))
end
abbrev Doc:=List UInt8×Int×List Fld
def eD (d:Doc):List PV:=[.lit (.string (bsO (Prod.fst d))),.lit (.int .i64 (Prod.fst (Prod.snd d))),.slice (List.map eF (Prod.snd (Prod.snd d)))]
abbrev zD:Doc:=([],0,[])
abbrev Reg:=Int×LSt×List Tgt×List (List UInt8)×List Doc×List Stp
def eR (r:Reg):List PV:=[pI r.1,pS (bsO r.2.1.1),pI r.2.1.2.1,pB r.2.1.2.2.1,pB r.2.1.2.2.2,pL eT r.2.2.1,pL eN r.2.2.2.1,pL eD r.2.2.2.2.1,pL eP r.2.2.2.2.2]
abbrev gR (r:Reg):PV:=.agg [pI r.1,pS (bsO r.2.1.1),pI r.2.1.2.1,pB r.2.1.2.2.1,pB r.2.1.2.2.2,pL eT r.2.2.1,pL eN r.2.2.2.1,pL eD r.2.2.2.2.1,pL eP r.2.2.2.2.2]
abbrev bR (t:TypeId) (r:Reg):MO:=.box t [vI r.1,vS (bsO r.2.1.1),vI r.2.1.2.1,vB r.2.1.2.2.1,vB r.2.1.2.2.2,vL eT r.2.2.1,vL eN r.2.2.2.1,vL eD r.2.2.2.2.1,vL eP r.2.2.2.2.2]
abbrev zR:Reg:=(0,([],0,false,false),[],[],[],[])
abbrev iR:Reg:=(0,(ZT,0,false,false),[],[],[],[])
def eVp (l:List Stp):List PV:=[.slice (List.map eP l)]
def movP (s:LSt):Bool:=if chkSt s=0 then decide (s.1=jg) else false
theorem movP_no {s:LSt} (h:chkSt s≠0):movP s=false:=by rw[movP,if_neg h]
theorem movP_ok {s:LSt} (h:chkSt s=0):movP s=decide (s.1=jg):=by rw[movP,if_pos h]
theorem flat_len (L:List (List Stp)) (k:Nat):(L.take k).flatten.length<=L.flatten.length:=by
 have:L.flatten=(L.take k).flatten++(L.drop k).flatten:=by rw[<-List.flatten_append,List.take_append_drop]
 rw[this,za];omega
theorem flat_next {L:List (List Stp)} {k:Nat} (h:k<L.length):(L.take (k+1)).flatten=(L.take k).flatten++L.getD k []:=by
 rw[List.take_succ_eq_append_getElem h,List.flatten_append,ze,zm h];simp
end Go.Lens.Tm
end
section
namespace Go.Lens.Tm
open Go.Lens.Tb Go.Proofs
variable [Lz]
set_option maxHeartbeats 4000000
set_option maxRecDepth 100000
attribute [local irreducible] TK PK T RG EfR Body CG
theorem by279:ty279.info.bytes=48:=by kernel_rfl
theorem by46:ty46.info.bytes=64:=by kernel_rfl
theorem in279:tab.info? 279=some ty279.info:=by kernel_rfl
theorem in46:tab.info? 46=some ty46.info:=by kernel_rfl
theorem sz279:szT tab 279=some 3:=by kernel_rfl
theorem un152:tab.underlying 152=some (.slice 279):=by kernel_rfl
theorem w273 (o c:Tgt):CKa 273 [.pv (.agg [pS (Tgt.name o),pI (Tgt.bright o),pI (Tgt.place o),pI (Tgt.length o),pI (Tgt.from_ o),pI (Tgt.to o),pI (Tgt.limit o)]),.pv (.box [pS (Tgt.name c),pI (Tgt.bright c),pI (Tgt.place c),pI (Tgt.length c),pI (Tgt.from_ c),pI (Tgt.to c),pI (Tgt.limit c)])] (vB (decide (Tgt.name o=Tgt.name c))):=by
 exact cG qf273 Z (nB Z) Z (E Z (B.seql Z Z) (Rt Z (leaf (val0:=vB (decide ((Tgt.name o)=(Tgt.name c)))) (by kernel_rfl) (lb (by rfl)))))
theorem w276 (o:Tgt) (n:List UInt8):CKa 276 [.pv (.agg [pS (Tgt.name o),pI (Tgt.bright o),pI (Tgt.place o),pI (Tgt.length o),pI (Tgt.from_ o),pI (Tgt.to o),pI (Tgt.limit o)]),.pv (.box [pS (bsO n)])] (vB (decide (Tgt.name o=(bsO n)))):=by
 exact cG qf276 Z (nB Z) Z (E Z (B.seql Z Z) (Rt Z (leaf (val0:=vB (decide ((Tgt.name o)=(bsO n)))) (by kernel_rfl) (lb (by rfl)))))
theorem w163b (l:List Tgt) (c:Tgt) (hl:l.length<=1000000000000000):CKa 163 [vL eT l,.pv (.fn (.func 273) [] [.box [pS (Tgt.name c),pI (Tgt.bright c),pI (Tgt.place c),pI (Tgt.length c),pI (Tgt.from_ c),pI (Tgt.to c),pI (Tgt.limit c)]])] (vI (kI (fun o=>decide (Tgt.name o=Tgt.name c)) l)):=by
 refine cG qf163 Z (nB Z) Z (E Z (B.jh Z un25) (l1 (fun (k:Nat)=>[(0,vL eT l),(1,.pv (.fn (.func 273) [] [.box [pS (Tgt.name c),pI (Tgt.bright c),pI (Tgt.place c),pI (Tgt.length c),pI (Tgt.from_ c),pI (Tgt.to c),pI (Tgt.limit c)]])),(7,vI l.length),(8,vI k)]) (fun _=>[]) (fun k=>k<=l.length/\∀ j,j<k->decide (Tgt.name (l.getD j default)=Tgt.name c)=false) (fun k=>l.length-k) 0 Z ?_ (sb Z Z Z) ?_))
 · exact⟨zq _,fun j hj=>by omega⟩
 intro k hI0
 refine Cp Z Z (fun h1=>?_) (fun h1=>?_)
 ·refine E Z (B.idx (z:=default) (i:=k) Z Z un25 sz46 (fun _=>rfl) Z (by omega)) (C Z (w273 (l.getD k default) c) Z Z Z (Cp Z Z (fun h2=>?_) (fun h2=>?_)))
  ·exact Rt Z (leaf (val0:=vI k) (by kernel_rfl) (li (by exact (Za (p:=fun o=>decide (Tgt.name o=Tgt.name c)) (l:=l) (z:=default) k (by omega) hI0.2 (zl h2)).symm)))
  refine E Z (B.add Z Z (by unfold R64;omega)) (pk Z (L1 (k+1) ?_ ?_ (sb Z Z Z)))
  · (refine⟨by omega,fun j hj=>?_⟩;rcases zy.1 hj with h|h;exact hI0.2 j h;subst h;exact zk h2)
  · omega
 exact Rt Z (leaf (val0:=vI (-1)) (by kernel_rfl) (li (by exact (kG (p:=fun o=>decide (Tgt.name o=Tgt.name c)) (l:=l) (z:=default) fun j hj=>hI0.2 j (by omega)).symm)))
theorem w102b (l:List Tgt) (c:Tgt) (hl:l.length<=1000000000000000):CKa 102 [vL eT l,.pv (.fn (.func 273) [] [.box [pS (Tgt.name c),pI (Tgt.bright c),pI (Tgt.place c),pI (Tgt.length c),pI (Tgt.from_ c),pI (Tgt.to c),pI (Tgt.limit c)]])] (vB (List.any l (fun o=>decide (Tgt.name o=Tgt.name c)))):=by
 exact cG qf102 Z (nB Z) Z (C Z (w163b l c (by omega)) Z Z Z (Rt Z (leaf (val0:=vB (decide (0<=(kI (fun o=>decide (Tgt.name o=Tgt.name c)) l)))) (by kernel_rfl) (lb (by exact j5 l)))))
theorem w163c (l:List Tgt) (n:List UInt8) (hl:l.length<=1000000000000000):CKa 163 [vL eT l,.pv (.fn (.func 276) [] [.box [pS (bsO n)]])] (vI (kI (fun o=>decide (Tgt.name o=(bsO n))) l)):=by
 refine cG qf163 Z (nB Z) Z (E Z (B.jh Z un25) (l1 (fun (k:Nat)=>[(0,vL eT l),(1,.pv (.fn (.func 276) [] [.box [pS (bsO n)]])),(7,vI l.length),(8,vI k)]) (fun _=>[]) (fun k=>k<=l.length/\∀ j,j<k->decide (Tgt.name (l.getD j default)=(bsO n))=false) (fun k=>l.length-k) 0 Z ?_ (sb Z Z Z) ?_))
 · exact⟨zq _,fun j hj=>by omega⟩
 intro k hI0
 refine Cp Z Z (fun h1=>?_) (fun h1=>?_)
 ·refine E Z (B.idx (z:=default) (i:=k) Z Z un25 sz46 (fun _=>rfl) Z (by omega)) (C Z (w276 (l.getD k default) n) Z Z Z (Cp Z Z (fun h2=>?_) (fun h2=>?_)))
  ·exact Rt Z (leaf (val0:=vI k) (by kernel_rfl) (li (by exact (Za (p:=fun o=>decide (Tgt.name o=(bsO n))) (l:=l) (z:=default) k (by omega) hI0.2 (zl h2)).symm)))
  refine E Z (B.add Z Z (by unfold R64;omega)) (pk Z (L1 (k+1) ?_ ?_ (sb Z Z Z)))
  · (refine⟨by omega,fun j hj=>?_⟩;rcases zy.1 hj with h|h;exact hI0.2 j h;subst h;exact zk h2)
  · omega
 exact Rt Z (leaf (val0:=vI (-1)) (by kernel_rfl) (li (by exact (kG (p:=fun o=>decide (Tgt.name o=(bsO n))) (l:=l) (z:=default) fun j hj=>hI0.2 j (by omega)).symm)))
theorem w102c (l:List Tgt) (n:List UInt8) (hl:l.length<=1000000000000000):CKa 102 [vL eT l,.pv (.fn (.func 276) [] [.box [pS (bsO n)]])] (vB (List.any l (fun o=>decide (Tgt.name o=(bsO n))))):=by
 exact cG qf102 Z (nB Z) Z (C Z (w163c l n (by omega)) Z Z Z (Rt Z (leaf (val0:=vB (decide (0<=(kI (fun o=>decide (Tgt.name o=(bsO n))) l)))) (by kernel_rfl) (lb (by exact j5 l)))))
theorem w274 (l:List Tgt) (t:Tgt) (hl:l.length<=1000000):CKa 274 [vL eT l,.pv (.agg [pS (Tgt.name t),pI (Tgt.bright t),pI (Tgt.place t),pI (Tgt.length t),pI (Tgt.from_ t),pI (Tgt.to t),pI (Tgt.limit t)])] (vL eT (l++[t])):=by
 exact cG qf274 Z (nB Z) Z (E Z (B.j8 (enc:=eT) Z) (E Z (B.jh Z un25) (E Z (B.jh Z un25) (E Z (B.add Z Z (by unfold R64;omega)) (E Z (B.makeSl (enc:=eT) (sz:=7) (z0:=default) (n:=(Int.toNat (l.length:Int))) (m:=(l.length+1)) Z Z Z un25 in46 Z Z Z by46 (by omega) Z Z) (E Z (B.copyL Z Z Z (by simp) un25 sz46 rfl (fun _=>rfl)) (E rfl (B.jj (val:=.pv (.slice (List.map eT [t]))) rfl (fun l=>Frz.arr l _ _ _ _ _) rfl) (E rfl (B.append rfl rfl rfl un25 in46 rfl (fun _=>rfl) by46 (by (simp only[za,zb,zd];omega))) (Fz 9999 4 Z Z Z (Rt Z (leaf Z Z)))))))))))
theorem w277 (l:List (List UInt8)) (x:List UInt8) (hl:l.length<=1000000):CKa 277 [vL eN l,vS (bsO x)] (vL eN (l++[x])):=by
 exact cG qf277 Z (nB Z) Z (E Z (B.j8 (enc:=eN) Z) (E Z (B.jh Z ji) (E Z (B.jh Z ji) (E Z (B.add Z Z (by unfold R64;omega)) (E Z (B.makeSl (enc:=eN) (sz:=1) (z0:=[]) (n:=(Int.toNat (l.length:Int))) (m:=(l.length+1)) Z Z Z ji in9 Z Z Z by9 (by omega) Z Z) (E Z (B.copyL Z Z Z (by simp) ji sz9 rfl (fun _=>rfl)) (E rfl (B.jj (val:=.pv (.slice (List.map eN [x]))) rfl (fun l=>Frz.arr l _ _ _ _ _) rfl) (E rfl (B.append rfl rfl rfl ji in9 rfl (fun _=>rfl) by9 (by (simp only[za,zb,zd];omega))) (Fz 9999 4 Z Z Z (Rt Z (leaf Z Z)))))))))))
theorem w279 (l:List Doc) (d:Doc) (hl:l.length<=1000000):CKa 279 [vL eD l,.pv (.agg [pS (bsO d.1),pI d.2.1,pL eF d.2.2])] (vL eD (l++[d])):=by
 exact cG qf279 Z (nB Z) Z (E Z (B.j8 (enc:=eD) Z) (E Z (B.jh Z un152) (E Z (B.jh Z un152) (E Z (B.add Z Z (by unfold R64;omega)) (E Z (B.makeSl (enc:=eD) (sz:=3) (z0:=zD) (n:=(Int.toNat (l.length:Int))) (m:=(l.length+1)) Z Z Z un152 in279 Z Z Z by279 (by omega) Z Z) (E Z (B.copyL Z Z Z (by simp) un152 sz279 rfl (fun _=>rfl)) (E rfl (B.jj (val:=.pv (.slice (List.map eD [d]))) rfl (fun l=>Frz.arr l _ _ _ _ _) rfl) (E rfl (B.append rfl rfl rfl un152 in279 rfl (fun _=>rfl) by279 (by (simp only[za,zb,zd];omega))) (Fz 9999 4 Z Z Z (Rt Z (leaf Z Z)))))))))))
theorem w217z (l:List (List UInt8)) (hl:l.length<=1000000):CKa 217 [vL eN l] (vL eN l):=by
 refine cG qf217 Z (nB Z) Z (E Z (B.j8 (enc:=eN) Z) ?_)
 refine tk 1 Z ?_
 refine TK.nilM Z Z Z ji (fun h1=>?_) ?_
 ·exact pc (CT Z Z (E Z (B.j8 (enc:=eN) Z) (Rt Z (leaf (val0:=vL eN []) (by kernel_rfl) (lsl (by exact (List.map_eq_nil_iff.1 h1).symm))))))
 exact pc (CF Z Z (E Z (B.run Z) (E Z (B.append (enc:=eN) (l:=[]) (r:=l) Z Z Z ji in9 Z (fun _=>rfl) by9 (by (simp only[za,zb,zd];omega))) (Fz 9999 2 Z Z Z (Rt Z (leaf Z Z))))))
theorem w219z (l:List (Tgt)) (hl:l.length<=1000000):CKa 219 [vL eT l] (vL eT l):=by
 refine cG qf219 Z (nB Z) Z (E Z (B.j8 (enc:=eT) Z) ?_)
 refine tk 1 Z ?_
 refine TK.nilM Z Z Z un25 (fun h1=>?_) ?_
 ·exact pc (CT Z Z (E Z (B.j8 (enc:=eT) Z) (Rt Z (leaf (val0:=vL eT []) (by kernel_rfl) (lsl (by exact (List.map_eq_nil_iff.1 h1).symm))))))
 exact pc (CF Z Z (E Z (B.run Z) (E Z (B.append (enc:=eT) (l:=[]) (r:=l) Z Z Z un25 in46 Z (fun _=>rfl) by46 (by (simp only[za,zb,zd];omega))) (Fz 9999 2 Z Z Z (Rt Z (leaf Z Z))))))
theorem w220z (l:List (Stp)) (hl:l.length<=1000000):CKa 220 [vL eP l] (vL eP l):=by
 refine cG qf220 Z (nB Z) Z (E Z (B.j8 (enc:=eP) Z) ?_)
 refine tk 1 Z ?_
 refine TK.nilM Z Z Z un86 (fun h1=>?_) ?_
 ·exact pc (CT Z Z (E Z (B.j8 (enc:=eP) Z) (Rt Z (leaf (val0:=vL eP []) (by kernel_rfl) (lsl (by exact (List.map_eq_nil_iff.1 h1).symm))))))
 exact pc (CF Z Z (E Z (B.run Z) (E Z (B.append (enc:=eP) (l:=[]) (r:=l) Z Z Z un86 in164 Z (fun _=>rfl) by164 (by (simp only[za,zb,zd];omega))) (Fz 9999 2 Z Z Z (Rt Z (leaf Z Z))))))
theorem w221z (l:List (Fld)) (hl:l.length<=1000000):CKa 221 [vL eF l] (vL eF l):=by
 refine cG qf221 Z (nB Z) Z (E Z (B.j8 (enc:=eF) Z) ?_)
 refine tk 1 Z ?_
 refine TK.nilM Z Z Z un59 (fun h1=>?_) ?_
 ·exact pc (CT Z Z (E Z (B.j8 (enc:=eF) Z) (Rt Z (leaf (val0:=vL eF []) (by kernel_rfl) (lsl (by exact (List.map_eq_nil_iff.1 h1).symm))))))
 exact pc (CF Z Z (E Z (B.run Z) (E Z (B.append (enc:=eF) (l:=[]) (r:=l) Z Z Z un59 in174 Z (fun _=>rfl) by174 (by (simp only[za,zb,zd];omega))) (Fz 9999 2 Z Z Z (Rt Z (leaf Z Z))))))
theorem w112z (l:List (Int)) (hl:l.length<=1000000):CKa 112 [vL eI l] (vL eI l):=by
 refine cG qf112 Z (nB Z) Z (E Z (B.j8 (enc:=eI) Z) ?_)
 refine tk 1 Z ?_
 refine TK.nilM Z Z Z ku (fun h1=>?_) ?_
 ·exact pc (CT Z Z (E Z (B.j8 (enc:=eI) Z) (Rt Z (leaf (val0:=vL eI []) (by kernel_rfl) (lsl (by exact (List.map_eq_nil_iff.1 h1).symm))))))
 exact pc (CF Z Z (E Z (B.run Z) (E Z (B.append (enc:=eI) (l:=[]) (r:=l) Z Z Z ku in3 Z (fun _=>rfl) by3 (by (simp only[za,zb,zd];omega))) (Fz 9999 2 Z Z Z (Rt Z (leaf Z Z))))))
theorem w156 (e:Ev) (hn:e.2.2.1.length<=1000000) (hv:e.2.2.2.1.length<=1000000):CKa 156 [.pv (.agg [pI e.1,pS (bsO e.2.1),pL eN e.2.2.1,pL eI e.2.2.2.1,pS (bsO e.2.2.2.2)])] (.pv (.agg [pI e.1,pS (bsO e.2.1),pL eN e.2.2.1,pL eI e.2.2.2.1,pS (bsO e.2.2.2.2)])):=by
 exact cG qf156 Z (nB Z) Z (E Z (B.jj Z (fun l=>Frz.boxN l Z) Z) (C Z (w217z e.2.2.1 (by omega)) Z Z Z (C Z (w112z e.2.2.2.1 (by omega)) Z Z Z (Dr Z (by kernel_rfl) (Rt Z (leaf Z Z))))))
theorem w87 (s:LSt):CKa 87 [.pv (gS s)] (.tup [vB (movP s),vI (chkSt s)]):=by
 refine cG qf87 Z (nB Z) Z (C Z (w123 s) Z Z Z (Cp Z Z (fun h1=>?_) (fun h1=>?_)))
 ·exact Rt Z (leaf (val0:=.tup [vB false,vI (chkSt s)]) (by kernel_rfl) (tup2 (lb (by (rw[movP_no h1]))) (rfl)))
 exact E Z (B.seqB (a:=s.1) (b:=[99,108,111,115,101,100]) Z Z) (Rt Z (leaf (val0:=.tup [vB (decide (s.1=[99,108,111,115,101,100])),vI 0]) (by kernel_rfl) (tup2 (lb (by (rw[movP_ok (zi.1 h1)]))) (li (by exact (zi.1 h1).symm)))))
theorem w270 (s:LSt):CKa 270 [.pv (gS s)] (vB (decide (s.1=jg))):=by
 exact cG qf270 Z (nB Z) Z (E Z (B.seqB (a:=s.1) (b:=[99,108,111,115,101,100]) Z Z) (Rt Z (leaf (val0:=vB (decide (s.1=[99,108,111,115,101,100]))) (by kernel_rfl) (lb (by rfl)))))
end Go.Lens.Tm
end
section
namespace Go.Lens.Tm
open Go.Lens.Tb Go.Proofs
def exE (r:Reg) (t:Int) (l:List Cmd):Reg×Int:=
 if (jb r.2.2.2.2.2.length (r.2.1,t,[]) (q9 l)).2≠0 then (r,(jb r.2.2.2.2.2.length (r.2.1,t,[]) (q9 l)).2)
 else (((jb r.2.2.2.2.2.length (r.2.1,t,[]) (q9 l)).1.2.1,(jb r.2.2.2.2.2.length (r.2.1,t,[]) (q9 l)).1.1,r.2.2.1,r.2.2.2.1,r.2.2.2.2.1,r.2.2.2.2.2++(jb r.2.2.2.2.2.length (r.2.1,t,[]) (q9 l)).1.2.2),0)
theorem ex_no {r:Reg} {t:Int} {l:List Cmd} (h:(jb r.2.2.2.2.2.length (r.2.1,t,[]) (q9 l)).2≠0):exE r t l=(r,(jb r.2.2.2.2.2.length (r.2.1,t,[]) (q9 l)).2):=by rw[exE,if_pos h]
theorem ex_ok {r:Reg} {t:Int} {l:List Cmd} (h:(jb r.2.2.2.2.2.length (r.2.1,t,[]) (q9 l)).2=0):exE r t l=(((jb r.2.2.2.2.2.length (r.2.1,t,[]) (q9 l)).1.2.1,(jb r.2.2.2.2.2.length (r.2.1,t,[]) (q9 l)).1.1,r.2.2.1,r.2.2.2.1,r.2.2.2.2.1,r.2.2.2.2.2++(jb r.2.2.2.2.2.length (r.2.1,t,[]) (q9 l)).1.2.2),0):=by rw[exE,if_neg (by rw[h];simp)]
abbrev evN (e:Ev):List UInt8:=e.2.2.1.getD 0 []
abbrev evI (e:Ev) (i:Nat):Int:=e.2.2.2.1.getD i 0
def acE (r:Reg) (e:Ev):Reg×Int:=exE r (evI e 0) [(jV,evN e,0)]
def ruE (r:Reg) (e:Ev):Reg×Int:=if (qY ZP e.2.2.2.2).2.2≠0 then (r,(qY ZP e.2.2.2.2).2.2) else exE r (evI e 0) (qY ZP e.2.2.2.2).1
theorem ru_no {r:Reg} {e:Ev} (h:(qY ZP e.2.2.2.2).2.2≠0):ruE r e=(r,(qY ZP e.2.2.2.2).2.2):=by rw[ruE,if_pos h]
theorem ru_ok {r:Reg} {e:Ev} (h:(qY ZP e.2.2.2.2).2.2=0):ruE r e=exE r (evI e 0) (qY ZP e.2.2.2.2).1:=by rw[ruE,if_neg (by rw[h];simp)]
theorem parScr_wf [Lz] (f:List UInt8->Cmd×Bool) (s:List UInt8):Wf 4 (qY f s).1:=by
 rcases parScr_all f s with h|h
 ·rw[h];exact wf_of rfl
 exact wf_of (chkS_ok h).2.2.1
theorem act_wf (n:List UInt8):Wf 4 [(jV,n,0)]:=wf_of rfl
theorem act_chk {n:List UInt8} (h:jI (jV,n,0)=0):∀ c∈([(jV,n,0)]:List Cmd),jI c=0:=fun c hc=>by rw[zg.1 hc];exact h
abbrev tgO (e:Ev):Tgt:=⟨bsO (evN e),evI e 1,evI e 2,evI e 3,evI e 4,evI e 5,evI e 6⟩
def tgX (r:Reg) (e:Ev):Int:=qP [qF (r.2.2.1.any (fun o=>decide (o.name=bsO (evN e)))) 9,qF (decide (32<=((r.2.2.1.length:Nat):Int))) 5,qF (!(jX (tgO e))) 3]
def tgE (r:Reg) (e:Ev):Reg×Int:=if tgX r e≠0 then (r,tgX r e) else ((evI e 0,r.2.1,r.2.2.1++[tgO e],r.2.2.2.1,r.2.2.2.2.1,r.2.2.2.2.2),0)
theorem tg_no {r:Reg} {e:Ev} (h:tgX r e≠0):tgE r e=(r,tgX r e):=by rw[tgE,if_pos h]
theorem tg_ok {r:Reg} {e:Ev} (h:tgX r e=0):tgE r e=((evI e 0,r.2.1,r.2.2.1++[tgO e],r.2.2.2.1,r.2.2.2.2.1,r.2.2.2.2.2),0):=by rw[tgE,if_neg (by rw[h];simp)]
def obX (r:Reg) (e:Ev):Int:=qP [qF (!(r.2.2.1.any (fun o=>decide (o.name=bsO (evN e))))) 10,qF (r.2.2.2.1.any (fun y=>decide (evN e=y))) 9,chkSt r.2.1,qF (!(movP r.2.1)) 19]
def obE (r:Reg) (e:Ev):Reg×Int:=if obX r e≠0 then (r,obX r e) else ((evI e 0,r.2.1,r.2.2.1,r.2.2.2.1++[evN e],r.2.2.2.2.1,r.2.2.2.2.2),0)
theorem ob_no {r:Reg} {e:Ev} (h:obX r e≠0):obE r e=(r,obX r e):=by rw[obE,if_pos h]
theorem ob_ok {r:Reg} {e:Ev} (h:obX r e=0):obE r e=((evI e 0,r.2.1,r.2.2.1,r.2.2.2.1++[evN e],r.2.2.2.2.1,r.2.2.2.2.2),0):=by rw[obE,if_neg (by rw[h];simp)]
def latG (n:List UInt8) (v:Int):List Doc->Int×List Fld->Int×List Fld
 | [],a=>a
 | d::l,a=>latG n v l (if d.1≠n then a else (d.2.1,if d.2.1=v then d.2.2 else a.2))
def kg (l:List Doc) (n:List UInt8) (v:Int):Int×List Fld:=latG n v l (0,[])
theorem lat_at {n:List UInt8} {v:Int} {l:List Doc} {k:Nat} {a:Int×List Fld} (h:k<l.length):latG n v (l.drop k) a=latG n v (l.drop (k+1)) (if (l.getD k zD).1≠n then a else ((l.getD k zD).2.1,if (l.getD k zD).2.1=v then (l.getD k zD).2.2 else a.2)):=by
 rw[drop_at l k zD h,latG]
section
variable {n:List UInt8} {v m:Int} {l:List Doc} {k:Nat} {f:List Fld} {z:Int×List Fld}
theorem lat_skip (hI:z=latG n v (l.drop k) (m,f)) (h:k<l.length) (h1:(l.getD k zD).1≠n):z=latG n v (l.drop (k+1)) (m,f):=by rw[hI,lat_at h,if_pos h1]
theorem lat_same (hI:z=latG n v (l.drop k) (m,f)) (h:k<l.length) (h1:¬(l.getD k zD).1≠n) (h2:(l.getD k zD).2.1=v):z=latG n v (l.drop (k+1)) ((l.getD k zD).2.1,(l.getD k zD).2.2):=by rw[hI,lat_at h,if_neg h1,if_pos h2]
theorem lat_other (hI:z=latG n v (l.drop k) (m,f)) (h:k<l.length) (h1:¬(l.getD k zD).1≠n) (h2:¬(l.getD k zD).2.1=v):z=latG n v (l.drop (k+1)) ((l.getD k zD).2.1,f):=by rw[hI,lat_at h,if_neg h1,if_neg h2]
theorem lat_end (hI:z=latG n v (l.drop k) (m,f)) (h:¬k<l.length):z=(m,f):=by rw[hI,zN (by omega)];rfl
end
abbrev caL (r:Reg) (e:Ev):Int×List Fld:=kg r.2.2.2.2.1 (evN e) (evI e 1)
def caX (r:Reg) (e:Ev):Int:=qP [qF (decide ((caL r e).1<evI e 1)) 20,qF (decide (16<=(caL r e).1)) 5]
abbrev caM (r:Reg) (e:Ev):List Fld×List (List UInt8):=mgR (caL r e).2 (kW e.2.2.2.2).1 (kg r.2.2.2.2.1 (evN e) (caL r e).1).2
def caY (r:Reg) (e:Ev):Int:=qP [qF (decide (0<(((caM r e).2.length:Nat):Int))) 29,qF (decide (24<(((caM r e).1.length:Nat):Int))) 4]
abbrev caF (r:Reg) (e:Ev) (f:List Fld):Reg:=(evI e 0,r.2.1,r.2.2.1,r.2.2.2.1,r.2.2.2.2.1++[(evN e,(caL r e).1+1,f)],r.2.2.2.2.2)
def caE (r:Reg) (e:Ev):Reg×Int:=
 if caX r e≠0 then (r,caX r e)
 else if evI e 1<(caL r e).1 then (if caY r e≠0 then (r,caY r e) else (caF r e (caM r e).1,0)) else (caF r e (kW e.2.2.2.2).1,0)
section
variable {r:Reg} {e:Ev}
theorem ca_no (h:caX r e≠0):caE r e=(r,caX r e):=by rw[caE,if_pos h]
theorem ca_con (h:caX r e=0) (h1:evI e 1<(caL r e).1) (h2:caY r e≠0):caE r e=(r,caY r e):=by rw[caE,if_neg (by rw[h];simp),if_pos h1,if_pos h2]
theorem ca_mrg (h:caX r e=0) (h1:evI e 1<(caL r e).1) (h2:caY r e=0):caE r e=(caF r e (caM r e).1,0):=by rw[caE,if_neg (by rw[h];simp),if_pos h1,if_neg (by rw[h2];simp)]
theorem ca_new (h:caX r e=0) (h1:¬evI e 1<(caL r e).1):caE r e=(caF r e (kW e.2.2.2.2).1,0):=by rw[caE,if_neg (by rw[h];simp),if_neg h1]
end
end Go.Lens.Tm
end
section
namespace Go.Lens.Tm
open Go.Lens.Tb Go.Proofs
variable [Lz]
set_option maxHeartbeats 4000000
set_option maxRecDepth 100000
attribute [local irreducible] TK PK T RG EfR Body CG
theorem ag154:aggT tab 154=some true:=by kernel_rfl
theorem ag86:aggT tab 86=some false:=by kernel_rfl
theorem fa154_0:fadQ tab 154 0=some 0:=by kernel_rfl
theorem fa154_1:fadQ tab 154 1=some 1:=by kernel_rfl
theorem fa154_3:fadQ tab 154 3=some 6:=by kernel_rfl
theorem fa154_5:fadQ tab 154 5=some 8:=by kernel_rfl
theorem sz154:szT tab 154=some 9:=by kernel_rfl
theorem un421:tab.underlying 421=some (.slice 86):=by kernel_rfl
theorem w338 (n:Nat) (hn:n<=100000):q6 Tryz.prog 338 [.nils,vI n] (qx ([])) (.aref 2023 1) ([(2023,.arr 1 2 164 (List.map eP []))]):=by
 refine cL 2001 ([]) qf338 Z (nB Z) Z Z (kc (E Z (B.adoptV 1 2023 2 164 Z Z) (Cp Z Z (fun h1=>?_) (fun h1=>?_))))
 ·exact absurd h1 (by omega)
 refine E Z (B.run Z) (E Z (B.run Z) (E Z (B.run Z) (E Z (B.run Z) (E Z (B.sub Z Z (by unfold R64;omega)) (E Z (B.sub Z Z (by unfold R64;omega)) ?_)))))
 refine tk 4 Z ?_
 refine tn ⟨[(0,.nils),(1,vI ((n:Int)-(0-0)))],[]⟩ rfl rfl Z ?_
 rw[show ((n:Int)-(0-0))=(n:Int) by omega]
 refine kc (Cp Z Z (fun h2=>?_) (fun h2=>?_))
 ·refine E Z (B.run Z) (E Z (B.run Z) (E Z (B.run Z) (E Z (B.run Z) (E Z (B.appendN (enc:=eP) (z0:=(0,[])) (n:=n) (sz:=2) Z Z Z Z un86 un3 in164 Z Z Z by164 Z (by omega) Z Z) (E Z (B.run Z) (E Z (B.run Z) (E Z (B.slA (n:=0) Z Z Z un86 sz164 Z (by omega)) ?_)))))))
  refine tk 6 Z ?_
  refine TK.trunc (t:=0) Z Z ?_
  refine kc ?_
  refine Rt Z ?_
  exact Zh (val0:=.aref 2023 (0+1)) (out0:=[(2023,.arr (0+1) 2 164 (List.map eP (List.take 0 (List.replicate n (0,[])))))]) (.inr Z) (by kernel_rfl) Z rfl
 refine E Z (B.run Z) (E Z (B.adoptV 1 2023 2 164 Z Z) ?_)
 refine Rt Z ?_
 exact Zh (val0:=.aref 2023 1) (out0:=[(2023,.arr 1 2 164 (List.map eP []))]) (.inr Z) (by kernel_rfl) Z rfl
theorem w307 (L:List (List Stp)) (hl:L.length<=1000) (hL:(List.flatten L).length<=100000):CKa 307 [vL eVp L] (vL eP (List.flatten L)):=by
 refine cG qf307 Z (nB Z) Z (E Z (B.j8 (enc:=eP) Z) (E Z (B.jh Z un421) (l2 (fun (k:Nat) (n:Int)=>[(0,vL eVp L),(3,vI n),(9,vL eVp L),(10,vI L.length),(11,vI k)]) (fun _ _=>[]) (fun k n=>k<=L.length/\n=((List.length (List.flatten (List.take k L)):Nat):Int)) (fun k _=>L.length-k) 0 0 Z ?_ (sb Z Z Z) ?_)))
 · exact⟨zq _,rfl⟩
 intro k n hI0
 refine Cp Z Z (fun h1=>?_) (fun h1=>?_)
 ·refine E Z (B.idx (z:=[]) (i:=k) Z Z un421 sz86 (fun _=>rfl) Z (by omega)) ?_
  have hf1:=flat_len L k
  have hf2:=flat_len L (k+1)
  rw[flat_next (by omega),za] at hf2
  refine E Z (B.jh Z un86) (E Z (B.add Z Z (by unfold R64;omega)) (Cp Z Z (fun h2=>?_) (fun h2=>?_)))
  ·exact absurd h2 (by omega)
  refine E Z (B.add Z Z (by unfold R64;omega)) (pk Z (L2 (k+1) (n+((List.length (List.getD L k []):Nat):Int)) ?_ ?_ (sb Z Z Z)))
  · (exact⟨by omega,by rw[hI0.2,flat_next (by omega),za];omega⟩)
  · omega
 have hz:n=((List.length (List.flatten L):Nat):Int):=by rw[hI0.2,zx (by omega)]
 subst hz
 refine E Z (B.kU (l:=[]) (w338 (List.length (List.flatten L)) (by omega)) Z Z trivial Z Z) (E Z (B.jh Z un421) (l3 (fun (j:Nat) (v:Nat) (out:List Stp)=>[(6,.aref 2023 v),(25,vL eVp L),(26,vI L.length),(27,vI j)]) (fun _ v out=>[(2023,.arr v 2 164 (List.map eP out))]) (fun j _ out=>j<=L.length/\out=List.flatten (List.take j L)) (fun j _ _=>L.length-j) 0 1 [] Z ?_ (sb Z Z Z) ?_))
 · exact⟨zq _,rfl⟩
 intro j v out hI1
 refine Cp Z Z (fun h3=>?_) (fun h3=>?_)
 ·refine E Z (B.idx (z:=[]) (i:=j) Z Z un421 sz86 (fun _=>rfl) Z (by omega)) ?_
  have hf1:=flat_len L j
  have hf2:=flat_len L (j+1)
  rw[flat_next (by omega),za] at hf2
  have hf3:=congrArg List.length hI1.2
  refine E Z (B.append Z Z Z un86 in164 Z (fun _=>rfl) by164 (by omega)) (E Z (B.add Z Z (by unfold R64;omega)) (pk Z (L3 (j+1) (v+1) (out++(List.getD L j [])) ?_ ?_ (sb Z Z Z))))
  · exact⟨by omega,by rw[hI1.2,flat_next (by omega)]⟩
  · omega
 exact Fz 9999 2 Z Z Z (Rt Z (leaf (val0:=vL eP out) (by kernel_rfl) (lsl (by rw[hI1.2,zx (by omega)]))))
theorem w307c (a b:List Stp) (h:a.length+b.length<=100000):CKa 307 [vL eVp [a,b]] (vL eP (a++b)):=by
 have:=w307 [a,b] (nB Z) (by simpa using h)
 simpa using this
theorem w275 (hp:qH) (hm:HMa) (r:Reg) (t:Int) (l:List Cmd) (hok:OkN (r.2.2.2.2.2.length) (r.2.1,t,[])) (hw:Wf 4 l) (hc:∀ c∈l,jI c=0) (hl:l.length<=64):CKa 275 [.pv (gR r),vI t,vL eC l] (.tup [.pv (gR ((exE r t l).1)),vI (exE r t l).2]):=by
 refine cG qf275 Z (nB Z) Z ?_
 refine E Z (B.jj Z (fun l=>Frz.boxN l Z) Z) ?_
 refine E Z (B.jh Z un86) ?_
 refine E Z (B.of0 (val0:=.agg (List.map .pv [pS (bsO r.2.1.1),pI r.2.1.2.1,pB r.2.1.2.2.1,pB r.2.1.2.2.2,pI t,pI (r.2.2.2.2.2.length:Int)]++[.nils])) (m0:=[]) (lo:=0) (nm:=0) (ke _) (by intro z hz;have hz2:z∈[Operand.tmp 11,Operand.tmp 12,Operand.tmp 15]:=hz;simp only[zF,qn,or_false] at hz2;rcases hz2 with rfl|rfl|rfl<;>rfl) Z (Frz.aggNil (h:=900) (sz:=2) (T:=164) [pS (bsO r.2.1.1),pI r.2.1.2.1,pB r.2.1.2.2.1,pB r.2.1.2.2.2,pI t,pI (r.2.2.2.2.2.length:Int)] Z) Z) ?_
 refine E Z (B.jj Z (fun l=>Frz.boxN l Z) Z) ?_
 refine E Z (B.kU (l:=xSb (r.2.2.2.2.2.length) (r.2.1,t,[])) (w124bb hp hm (r.2.2.2.2.2.length) l.length (r.2.1,t,[]) l 4 (zz _) hok hw hc hl (by omega)) Z Z ⟨rfl,rfl,trivial⟩ rfl rfl) ?_
 refine Cp Z Z (fun h1=>?_) (fun h1=>?_)
 ·exact Rt Z (leaf (val0:=.tup [.pv (gR r),vI (jb (r.2.2.2.2.2.length) (r.2.1,t,[]) (q9 l)).2]) (by kernel_rfl) (by rw[ex_no h1]))
 refine tk 5 Z ?_
 refine TK.frzC (h:=9) (h2:=900) (cs:=[pS (bsO (jb (r.2.2.2.2.2.length) (r.2.1,t,[]) (q9 l)).1.1.1),pI (jb (r.2.2.2.2.2.length) (r.2.1,t,[]) (q9 l)).1.1.2.1,pB (jb (r.2.2.2.2.2.length) (r.2.1,t,[]) (q9 l)).1.1.2.2.1,pB (jb (r.2.2.2.2.2.length) (r.2.1,t,[]) (q9 l)).1.1.2.2.2,pI (jb (r.2.2.2.2.2.length) (r.2.1,t,[]) (q9 l)).1.2.1,pI (r.2.2.2.2.2.length:Int),pL eP (jb (r.2.2.2.2.2.length) (r.2.1,t,[]) (q9 l)).1.2.2]) Z Z (by simp[pvOfL,pvOf,qx]) ?_
 refine TK.norm ⟨[(3,.bref 4 0),(6,.bref 7 0),(8,.bref 9 0)],[(4,bR 154 r),(7,.box 154 [vI 0,vS (bsO []),vI 0,vB false,vB false,vL eT [],vL eN [],vL eD [],vL eP []]),(9,.box 217 [vS (bsO (jb (r.2.2.2.2.2.length) (r.2.1,t,[]) (q9 l)).1.1.1),vI (jb (r.2.2.2.2.2.length) (r.2.1,t,[]) (q9 l)).1.1.2.1,vB (jb (r.2.2.2.2.2.length) (r.2.1,t,[]) (q9 l)).1.1.2.2.1,vB (jb (r.2.2.2.2.2.length) (r.2.1,t,[]) (q9 l)).1.1.2.2.2,vI (jb (r.2.2.2.2.2.length) (r.2.1,t,[]) (q9 l)).1.2.1,vI (r.2.2.2.2.2.length:Int),vL eP (jb (r.2.2.2.2.2.length) (r.2.1,t,[]) (q9 l)).1.2.2])]⟩ (sb Z Z Z) ?_
 have hkl:=(taks_ok2 hok (unr_chk hw hc)).2.2.2
 exact kc (E Z (B.jj (val:=.pv (.slice (List.map eVp [r.2.2.2.2.2,(jb (r.2.2.2.2.2.length) (r.2.1,t,[]) (q9 l)).1.2.2]))) Z (fun l=>Frz.arr l _ _ _ _ _) Z) (C Z (w307c r.2.2.2.2.2 (jb (r.2.2.2.2.2.length) (r.2.1,t,[]) (q9 l)).1.2.2 (by omega)) Z Z Z (Dr Z (by kernel_rfl) (Rt Z (leaf (val0:=.tup [.pv (.agg [pI (jb (r.2.2.2.2.2.length) (r.2.1,t,[]) (q9 l)).1.2.1,pS (bsO (jb (r.2.2.2.2.2.length) (r.2.1,t,[]) (q9 l)).1.1.1),pI (jb (r.2.2.2.2.2.length) (r.2.1,t,[]) (q9 l)).1.1.2.1,pB (jb (r.2.2.2.2.2.length) (r.2.1,t,[]) (q9 l)).1.1.2.2.1,pB (jb (r.2.2.2.2.2.length) (r.2.1,t,[]) (q9 l)).1.1.2.2.2,pL eT r.2.2.1,pL eN r.2.2.2.1,pL eD r.2.2.2.2.1,pL eP (r.2.2.2.2.2++(jb (r.2.2.2.2.2.length) (r.2.1,t,[]) (q9 l)).1.2.2)]),vI 0]) (by kernel_rfl) (by rw[ex_ok (zi.1 h1)]))))))
theorem w206 (hp:qH) (hm:HMa) (r:Reg) (e:Ev) (hok:OkN (r.2.2.2.2.2.length) (r.2.1,(e.2.2.2.1.getD 0 0),[])) (hcn:jI (jV,(evN e),0)=0) (hN:0<e.2.2.1.length) (hV:1<=e.2.2.2.1.length):CKa 206 [.pv (gR r),.pv (gV e)] (.tup [.pv (gR ((acE r e).1)),vI (acE r e).2]):=by
 exact cG qf206 Z (nB Z) Z (E Z (B.jj Z (fun l=>Frz.boxN l Z) Z) (E Z (B.idx (z:=0) (i:=0) Z Z ku sz3 (fun _=>rfl) Z (by omega)) (E Z (B.idx (z:=[]) (i:=0) Z Z ji sz9 (fun _=>rfl) Z (by omega)) (E Z (B.jj (val:=.pv (.slice (List.map eC [([97,99,116],(evN e),0)]))) Z (fun l=>Frz.arr l _ _ _ _ _) Z) (C Z (w275 hp hm r (e.2.2.2.1.getD 0 0) [([97,99,116],(evN e),0)] hok (act_wf _) (act_chk hcn) (nB Z)) Z Z Z (Dr Z (by kernel_rfl) (Rt Z (leaf (val0:=.tup [.pv (gR ((exE r (e.2.2.2.1.getD 0 0) [([97,99,116],(evN e),0)]).1)),vI (exE r (e.2.2.2.1.getD 0 0) [([97,99,116],(evN e),0)]).2]) (by kernel_rfl) (by rfl)))))))))
theorem w208 (he:je) (hp:qH) (hm:HMa) (r:Reg) (e:Ev) (hok:OkN (r.2.2.2.2.2.length) (r.2.1,(e.2.2.2.1.getD 0 0),[])) (hV:1<=e.2.2.2.1.length) (hT:e.2.2.2.2.length<=4000):CKa 208 [.pv (gR r),.pv (gV e)] (.tup [.pv (gR ((ruE r e).1)),vI (ruE r e).2]):=by
 refine cG qf208 Z (nB Z) Z (E Z (B.jj Z (fun l=>Frz.boxN l Z) Z) (C Z (w55 hp he e.2.2.2.2 (by omega)) Z Z Z (Cp Z Z (fun h1=>?_) (fun h1=>?_))))
 ·exact Rt Z (leaf (val0:=.tup [.pv (gR r),vI (qY ZP e.2.2.2.2).2.2]) (by kernel_rfl) (by rw[ru_no h1]))
 exact E Z (B.idx (z:=0) (i:=0) Z Z ku sz3 (fun _=>rfl) Z (by omega)) (C Z (w275 hp hm r (e.2.2.2.1.getD 0 0) (qY ZP e.2.2.2.2).1 hok (parScr_wf _ _) (jL _ _).2 (jL _ _).1) Z Z Z (Dr Z (by kernel_rfl) (Rt Z (leaf (val0:=.tup [.pv (gR ((exE r (e.2.2.2.1.getD 0 0) (qY ZP e.2.2.2.2).1).1)),vI (exE r (e.2.2.2.1.getD 0 0) (qY ZP e.2.2.2.2).1).2]) (by kernel_rfl) (by rw[ru_ok (zi.1 h1)])))))
theorem w205 (r:Reg) (e:Ev) (hR:r.2.2.1.length<=1000000/\r.2.2.2.1.length<=1000000/\r.2.2.2.2.1.length<=1000000/\r.2.2.2.2.2.length<=1000) (hN:0<e.2.2.1.length) (hV:7<=e.2.2.2.1.length):CKa 205 [.pv (gR r),.pv (gV e)] (.tup [.pv (gR ((tgE r e).1)),vI (tgE r e).2]):=by
 refine cG qf205 Z (nB Z) Z (E Z (B.jj Z (fun l=>Frz.boxN l Z) Z) (E Z (B.idx (z:=[]) (i:=0) Z Z ji sz9 (fun _=>rfl) Z (by omega)) (E Z (B.idx (z:=0) (i:=1) Z Z ku sz3 (fun _=>rfl) Z (by omega)) (E Z (B.idx (z:=0) (i:=2) Z Z ku sz3 (fun _=>rfl) Z (by omega)) (E Z (B.idx (z:=0) (i:=3) Z Z ku sz3 (fun _=>rfl) Z (by omega)) (E Z (B.idx (z:=0) (i:=4) Z Z ku sz3 (fun _=>rfl) Z (by omega)) (E Z (B.idx (z:=0) (i:=5) Z Z ku sz3 (fun _=>rfl) Z (by omega)) (E Z (B.idx (z:=0) (i:=6) Z Z ku sz3 (fun _=>rfl) Z (by omega)) ?_))))))))
 refine Eb 1 Z (B.run (val:=.pv (.agg [pS (bsO (evN e)),pI (e.2.2.2.1.getD 1 0),pI (e.2.2.2.1.getD 2 0),pI (e.2.2.2.1.getD 3 0),pI (e.2.2.2.1.getD 4 0),pI (e.2.2.2.1.getD 5 0),pI (e.2.2.2.1.getD 6 0)])) (m:=[]) (rd:=[]) (by kernel_rfl)) ?_
 refine Dr Z (by kernel_rfl) (Fb 3 7 Z Z Z Z (C Z (w102b r.2.2.1 (tgO e) (by omega)) Z Z Z (C Z (w101 (List.any r.2.2.1 (fun o=>decide (Tgt.name o=Tgt.name (tgO e)))) 9) Z Z Z (E Z (B.jh Z un25) (C Z (w101 (decide (32<=(r.2.2.1.length:Int))) 5) Z Z Z (C Z (w105 (tgO e)) Z Z Z (E Z (B.jj (val:=.pv (.slice (List.map eI [(qF (List.any r.2.2.1 (fun o=>decide (Tgt.name o=Tgt.name (tgO e)))) 9),(qF (decide (32<=(r.2.2.1.length:Int))) 5),(qF (!(jX (tgO e))) 3)]))) Z (fun l=>Frz.arr l _ _ _ _ _) Z) (C Z (w100 [(qF (List.any r.2.2.1 (fun o=>decide (Tgt.name o=Tgt.name (tgO e)))) 9),(qF (decide (32<=(r.2.2.1.length:Int))) 5),(qF (!(jX (tgO e))) 3)] (nB Z)) Z Z Z (Dr Z (by kernel_rfl) (Cp Z Z (fun h1=>?_) (fun h1=>?_)))))))))))
 ·exact Rt Z (leaf (val0:=.tup [.pv (gR r),vI (qP [(qF (List.any r.2.2.1 (fun o=>decide (Tgt.name o=Tgt.name (tgO e)))) 9),(qF (decide (32<=(r.2.2.1.length:Int))) 5),(qF (!(jX (tgO e))) 3)])]) (by kernel_rfl) (by (rw[tg_no h1]<;>rfl)))
 exact C Z (w274 r.2.2.1 (tgO e) (by omega)) Z Z Z (E Z (B.idx (z:=0) (i:=0) Z Z ku sz3 (fun _=>rfl) Z (by omega)) (Dr Z (by kernel_rfl) (Rt Z (leaf (val0:=.tup [.pv (.agg [pI (e.2.2.2.1.getD 0 0),pS (bsO r.2.1.1),pI r.2.1.2.1,pB r.2.1.2.2.1,pB r.2.1.2.2.2,pL eT (r.2.2.1++[(tgO e)]),pL eN r.2.2.2.1,pL eD r.2.2.2.2.1,pL eP r.2.2.2.2.2]),vI 0]) (by kernel_rfl) (by (rw[tg_ok (zi.1 h1)]<;>rfl))))))
theorem w209 (r:Reg) (e:Ev) (hR:r.2.2.1.length<=1000000/\r.2.2.2.1.length<=1000000/\r.2.2.2.2.1.length<=1000000/\r.2.2.2.2.2.length<=1000) (hN:0<e.2.2.1.length) (hV:1<=e.2.2.2.1.length):CKa 209 [.pv (gR r),.pv (gV e)] (.tup [.pv (gR ((obE r e).1)),vI (obE r e).2]):=by
 refine cG qf209 Z (nB Z) Z (E Z (B.jj Z (fun l=>Frz.boxN l Z) Z) (E Z (B.idx (z:=[]) (i:=0) Z Z ji sz9 (fun _=>rfl) Z (by omega)) (Fb 2 6 Z Z Z Z (C Z (w102c r.2.2.1 (evN e) (by omega)) Z Z Z (C Z (w87 r.2.1) Z Z Z (C Z (w101 (!(List.any r.2.2.1 (fun o=>decide (Tgt.name o=(bsO (evN e)))))) 10) Z Z Z (C Z (w179 r.2.2.2.1 (evN e) (by omega)) Z Z Z (C Z (w101 (List.any r.2.2.2.1 (fun y=>decide ((evN e)=y))) 9) Z Z Z (C Z (w101 (!(movP r.2.1)) 19) Z Z Z (E Z (B.jj (val:=.pv (.slice (List.map eI [(qF (!(List.any r.2.2.1 (fun o=>decide (Tgt.name o=(bsO (evN e)))))) 10),(qF (List.any r.2.2.2.1 (fun y=>decide ((evN e)=y))) 9),(chkSt r.2.1),(qF (!(movP r.2.1)) 19)]))) Z (fun l=>Frz.arr l _ _ _ _ _) Z) (C Z (w100 [(qF (!(List.any r.2.2.1 (fun o=>decide (Tgt.name o=(bsO (evN e)))))) 10),(qF (List.any r.2.2.2.1 (fun y=>decide ((evN e)=y))) 9),(chkSt r.2.1),(qF (!(movP r.2.1)) 19)] (nB Z)) Z Z Z (Dr Z (by kernel_rfl) (Cp Z Z (fun h1=>?_) (fun h1=>?_))))))))))))))
 ·exact Rt Z (leaf (val0:=.tup [.pv (gR r),vI (qP [(qF (!(List.any r.2.2.1 (fun o=>decide (Tgt.name o=(bsO (evN e)))))) 10),(qF (List.any r.2.2.2.1 (fun y=>decide ((evN e)=y))) 9),(chkSt r.2.1),(qF (!(movP r.2.1)) 19)])]) (by kernel_rfl) (by (rw[ob_no h1]<;>rfl)))
 exact C Z (w277 r.2.2.2.1 (evN e) (by omega)) Z Z Z (E Z (B.idx (z:=0) (i:=0) Z Z ku sz3 (fun _=>rfl) Z (by omega)) (Dr Z (by kernel_rfl) (Rt Z (leaf (val0:=.tup [.pv (.agg [pI (e.2.2.2.1.getD 0 0),pS (bsO r.2.1.1),pI r.2.1.2.1,pB r.2.1.2.2.1,pB r.2.1.2.2.2,pL eT r.2.2.1,pL eN (r.2.2.2.1++[(evN e)]),pL eD r.2.2.2.2.1,pL eP r.2.2.2.2.2]),vI 0]) (by kernel_rfl) (by (rw[ob_ok (zi.1 h1)]<;>rfl))))))
theorem w278 (r:Reg) (n:List UInt8) (v:Int) (hR:r.2.2.2.2.1.length<=1000000):CKa 278 [.pv (gR r),vS (bsO n),vI v] (.tup [vI (kg r.2.2.2.2.1 n v).1,vL eF (kg r.2.2.2.2.1 n v).2]):=by
 refine cG qf278 Z (nB Z) Z (E Z (B.j8 (enc:=eF) Z) (E Z (B.j8 (enc:=eF) Z) (E Z (B.jh Z un152) (l3 (fun (k:Nat) (m:Int) (f:List Fld)=>[(1,vS (bsO n)),(2,vI v),(8,vI m),(9,vL eF f),(13,vL eD r.2.2.2.2.1),(14,vI (r.2.2.2.2.1.length:Int)),(15,vI k)]) (fun _ _ _=>[]) (fun k m f=>k<=r.2.2.2.2.1.length/\kg r.2.2.2.2.1 n v=latG n v (List.drop k r.2.2.2.2.1) (m,f)) (fun k _ _=>r.2.2.2.2.1.length-k) 0 0 [] Z ?_ (sb Z Z Z) ?_))))
 · exact⟨zq _,rfl⟩
 intro k m f hI0
 refine Cp Z Z (fun h1=>?_) (fun h1=>?_)
 ·refine E Z (B.idx (z:=zD) (i:=k) Z Z un152 sz279 (fun _=>rfl) Z (by omega)) (E Z (B.jj Z (fun l=>Frz.boxN l Z) Z) (E Z (B.sneB (a:=(r.2.2.2.2.1.getD k zD).1) (b:=n) Z Z) (Cp Z Z (fun h2=>?_) (fun h2=>?_))))
  ·refine E Z (B.add Z Z (by unfold R64;omega)) (pk Z (L3 (k+1) m f ?_ ?_ (sb Z Z Z)))
   ·
     exact⟨by omega,lat_skip hI0.2 (by omega) h2⟩
   · omega
  refine Cp Z Z (fun h3=>?_) (fun h3=>?_)
  ·refine E Z (B.add Z Z (by unfold R64;omega)) (pk Z (L3 (k+1) (r.2.2.2.2.1.getD k zD).2.1 (r.2.2.2.2.1.getD k zD).2.2 ?_ ?_ (sb Z Z Z)))
   ·
     exact⟨by omega,lat_same hI0.2 (by omega) h2 h3⟩
   · omega
  refine E Z (B.add Z Z (by unfold R64;omega)) (pk Z (L3 (k+1) (r.2.2.2.2.1.getD k zD).2.1 f ?_ ?_ (sb Z Z Z)))
  ·
    exact⟨by omega,lat_other hI0.2 (by omega) h2 h3⟩
  · omega
 exact Rt Z (leaf (val0:=.tup [vI m,vL eF f]) (by kernel_rfl) (tup2 (li (by rw[lat_end hI0.2 (by omega)])) (lsl (by rw[lat_end hI0.2 (by omega)]))))
theorem w211 (hp:qH) (r:Reg) (e:Ev) (hR:r.2.2.1.length<=1000000/\r.2.2.2.1.length<=1000000/\r.2.2.2.2.1.length<=1000000/\r.2.2.2.2.2.length<=1000) (hN:0<e.2.2.1.length) (hV:2<=e.2.2.2.1.length) (hT:e.2.2.2.2.length<=4000) (hsb:Small (caL r e).2) (hsm:Small (kW e.2.2.2.2).1) (hst:Small (kg r.2.2.2.2.1 (evN e) (caL r e).1).2) (hnn:0<=(kg r.2.2.2.2.1 (evN e) (e.2.2.2.1.getD 1 0)).1/\(kg r.2.2.2.2.1 (evN e) (e.2.2.2.1.getD 1 0)).1<=1000):CKa 211 [.pv (gR r),.pv (gV e)] (.tup [.pv (gR ((caE r e).1)),vI (caE r e).2]):=by
 refine cG qf211 Z (nB Z) Z (E Z (B.jj Z (fun l=>Frz.boxN l Z) Z) (E Z (B.idx (z:=[]) (i:=0) Z Z ji sz9 (fun _=>rfl) Z (by omega)) (E Z (B.idx (z:=0) (i:=1) Z Z ku sz3 (fun _=>rfl) Z (by omega)) (Dr Z (by kernel_rfl) (C Z (w37 hp e.2.2.2.2 (by omega)) Z Z Z (C Z (w278 r (evN e) (e.2.2.2.1.getD 1 0) (by omega)) Z Z Z (C Z (w101 (decide ((kg r.2.2.2.2.1 (evN e) (e.2.2.2.1.getD 1 0)).1<(e.2.2.2.1.getD 1 0))) 20) Z Z Z (C Z (w101 (decide (16<=(kg r.2.2.2.2.1 (evN e) (e.2.2.2.1.getD 1 0)).1)) 5) Z Z Z (E Z (B.jj (val:=.pv (.slice (List.map eI [(qF (decide ((kg r.2.2.2.2.1 (evN e) (e.2.2.2.1.getD 1 0)).1<(e.2.2.2.1.getD 1 0))) 20),(qF (decide (16<=(kg r.2.2.2.2.1 (evN e) (e.2.2.2.1.getD 1 0)).1)) 5)]))) Z (fun l=>Frz.arr l _ _ _ _ _) Z) (C Z (w100 [(qF (decide ((kg r.2.2.2.2.1 (evN e) (e.2.2.2.1.getD 1 0)).1<(e.2.2.2.1.getD 1 0))) 20),(qF (decide (16<=(kg r.2.2.2.2.1 (evN e) (e.2.2.2.1.getD 1 0)).1)) 5)] (nB Z)) Z Z Z (Cp Z Z (fun h1=>?_) (fun h1=>?_))))))))))))
 ·exact Rt Z (leaf (val0:=.tup [.pv (gR r),vI (qP [(qF (decide ((kg r.2.2.2.2.1 (evN e) (e.2.2.2.1.getD 1 0)).1<(e.2.2.2.1.getD 1 0))) 20),(qF (decide (16<=(kg r.2.2.2.2.1 (evN e) (e.2.2.2.1.getD 1 0)).1)) 5)])]) (by kernel_rfl) (by (rw[ca_no h1]<;>rfl)))
 refine Cp Z Z (fun h2=>?_) (fun h2=>?_)
 ·refine C Z (w278 r (evN e) (kg r.2.2.2.2.1 (evN e) (e.2.2.2.1.getD 1 0)).1 (by omega)) Z Z Z (E Z (B.kU (l:=[]) (w121 (kg r.2.2.2.2.1 (evN e) (e.2.2.2.1.getD 1 0)).2 (kW e.2.2.2.2).1 (kg r.2.2.2.2.1 (evN e) (kg r.2.2.2.2.1 (evN e) (e.2.2.2.1.getD 1 0)).1).2 hsb hsm hst) Z Z trivial Z Z) (Fz 10 15 Z Z Z (Fz 10 16 Z Z Z (E Z (B.jh Z ji) (C Z (w101 (decide (0<((List.length (mgR (kg r.2.2.2.2.1 (evN e) (e.2.2.2.1.getD 1 0)).2 (kW e.2.2.2.2).1 (kg r.2.2.2.2.1 (evN e) (kg r.2.2.2.2.1 (evN e) (e.2.2.2.1.getD 1 0)).1).2).2:Nat):Int))) 29) Z Z Z (E Z (B.jh Z un59) (C Z (w101 (decide (24<((List.length (mgR (kg r.2.2.2.2.1 (evN e) (e.2.2.2.1.getD 1 0)).2 (kW e.2.2.2.2).1 (kg r.2.2.2.2.1 (evN e) (kg r.2.2.2.2.1 (evN e) (e.2.2.2.1.getD 1 0)).1).2).1:Nat):Int))) 4) Z Z Z (E Z (B.jj (val:=.pv (.slice (List.map eI [(qF (decide (0<((List.length (mgR (kg r.2.2.2.2.1 (evN e) (e.2.2.2.1.getD 1 0)).2 (kW e.2.2.2.2).1 (kg r.2.2.2.2.1 (evN e) (kg r.2.2.2.2.1 (evN e) (e.2.2.2.1.getD 1 0)).1).2).2:Nat):Int))) 29),(qF (decide (24<((List.length (mgR (kg r.2.2.2.2.1 (evN e) (e.2.2.2.1.getD 1 0)).2 (kW e.2.2.2.2).1 (kg r.2.2.2.2.1 (evN e) (kg r.2.2.2.2.1 (evN e) (e.2.2.2.1.getD 1 0)).1).2).1:Nat):Int))) 4)]))) Z (fun l=>Frz.arr l _ _ _ _ _) Z) (C Z (w100 [(qF (decide (0<((List.length (mgR (kg r.2.2.2.2.1 (evN e) (e.2.2.2.1.getD 1 0)).2 (kW e.2.2.2.2).1 (kg r.2.2.2.2.1 (evN e) (kg r.2.2.2.2.1 (evN e) (e.2.2.2.1.getD 1 0)).1).2).2:Nat):Int))) 29),(qF (decide (24<((List.length (mgR (kg r.2.2.2.2.1 (evN e) (e.2.2.2.1.getD 1 0)).2 (kW e.2.2.2.2).1 (kg r.2.2.2.2.1 (evN e) (kg r.2.2.2.2.1 (evN e) (e.2.2.2.1.getD 1 0)).1).2).1:Nat):Int))) 4)] (nB Z)) Z Z Z (Cp Z Z (fun h3=>?_) (fun h3=>?_)))))))))))
  ·exact Rt Z (leaf (val0:=.tup [.pv (gR r),vI (qP [(qF (decide (0<((List.length (mgR (kg r.2.2.2.2.1 (evN e) (e.2.2.2.1.getD 1 0)).2 (kW e.2.2.2.2).1 (kg r.2.2.2.2.1 (evN e) (kg r.2.2.2.2.1 (evN e) (e.2.2.2.1.getD 1 0)).1).2).2:Nat):Int))) 29),(qF (decide (24<((List.length (mgR (kg r.2.2.2.2.1 (evN e) (e.2.2.2.1.getD 1 0)).2 (kW e.2.2.2.2).1 (kg r.2.2.2.2.1 (evN e) (kg r.2.2.2.2.1 (evN e) (e.2.2.2.1.getD 1 0)).1).2).1:Nat):Int))) 4)])]) (by kernel_rfl) (by (rw[ca_con (zi.1 h1) h2 h3]<;>rfl)))
  exact E Z (B.add Z Z (by unfold R64;omega)) (C Z (w279 r.2.2.2.2.1 ((evN e),((kg r.2.2.2.2.1 (evN e) (e.2.2.2.1.getD 1 0)).1+1),(mgR (kg r.2.2.2.2.1 (evN e) (e.2.2.2.1.getD 1 0)).2 (kW e.2.2.2.2).1 (kg r.2.2.2.2.1 (evN e) (kg r.2.2.2.2.1 (evN e) (e.2.2.2.1.getD 1 0)).1).2).1) (by omega)) Z Z Z (E Z (B.idx (z:=0) (i:=0) Z Z ku sz3 (fun _=>rfl) Z (by omega)) (Dr Z (by kernel_rfl) (Rt Z (leaf (val0:=.tup [.pv (.agg [pI (e.2.2.2.1.getD 0 0),pS (bsO r.2.1.1),pI r.2.1.2.1,pB r.2.1.2.2.1,pB r.2.1.2.2.2,pL eT r.2.2.1,pL eN r.2.2.2.1,pL eD (r.2.2.2.2.1++[((evN e),((kg r.2.2.2.2.1 (evN e) (e.2.2.2.1.getD 1 0)).1+1),(mgR (kg r.2.2.2.2.1 (evN e) (e.2.2.2.1.getD 1 0)).2 (kW e.2.2.2.2).1 (kg r.2.2.2.2.1 (evN e) (kg r.2.2.2.2.1 (evN e) (e.2.2.2.1.getD 1 0)).1).2).1)]),pL eP r.2.2.2.2.2]),vI 0]) (by kernel_rfl) (by (rw[ca_mrg (zi.1 h1) h2 (zi.1 h3)]<;>rfl)))))))
 exact E Z (B.add Z Z (by unfold R64;omega)) (C Z (w279 r.2.2.2.2.1 ((evN e),((kg r.2.2.2.2.1 (evN e) (e.2.2.2.1.getD 1 0)).1+1),(kW e.2.2.2.2).1) (by omega)) Z Z Z (E Z (B.idx (z:=0) (i:=0) Z Z ku sz3 (fun _=>rfl) Z (by omega)) (Dr Z (by kernel_rfl) (Rt Z (leaf (val0:=.tup [.pv (.agg [pI (e.2.2.2.1.getD 0 0),pS (bsO r.2.1.1),pI r.2.1.2.1,pB r.2.1.2.2.1,pB r.2.1.2.2.2,pL eT r.2.2.1,pL eN r.2.2.2.1,pL eD (r.2.2.2.2.1++[((evN e),((kg r.2.2.2.2.1 (evN e) (e.2.2.2.1.getD 1 0)).1+1),(kW e.2.2.2.2).1)]),pL eP r.2.2.2.2.2]),vI 0]) (by kernel_rfl) (by (rw[ca_new (zi.1 h1) h2]<;>rfl)))))))
end Go.Lens.Tm
end
section
namespace Go.Lens.Tm
open Go.Lens.Tb Go.Proofs
def ZB (r:Reg) (e:Ev):Reg×Int:=if e.2.1=kTar then tgE r e else if e.2.1=jV then acE r e else if e.2.1=ZN then ruE r e else if e.2.1=kObs then obE r e else if e.2.1=kCal then caE r e else (r,0)
def qZ (C:List Ev):Reg:=C.foldl (fun r e=>(ZB r e).1) iR
theorem regF_snoc (C:List Ev) (e:Ev):qZ (C++[e])=(ZB (qZ C) e).1:=by rw[qZ,List.foldl_append];rfl
def regs (C:List Ev):List Reg:=(List.range C.length).map fun i=>qZ (C.take (i+1))
theorem regs_len (C:List Ev):(regs C).length=C.length:=by simp[regs]
theorem regs_snoc (C:List Ev) (e:Ev):regs (C++[e])=regs C++[(ZB (qZ C) e).1]:=by
 unfold regs
 rw[za,qb,List.range_succ,qd]
 congr 1
 ·refine List.map_congr_left fun i hi=>?_
  have:=List.mem_range.1 hi
  rw[zK (by omega)]
 rw[List.map_singleton,zx (by simp),regF_snoc]
theorem regs_take (C:List Ev) (n:Nat):regs (C.take n)=(regs C).take n:=by
 unfold regs
 rw[<-List.map_take,List.take_range,zn]
 refine List.map_congr_left fun i hi=>?_
 have:=List.mem_range.1 hi
 rw[List.take_take,show min (i+1) n=i+1 by omega]
theorem regs_last {C:List Ev} (h:¬(((regs C).length:Nat):Int)=0):(regs C).getD ((regs C).length-1) zR=qZ C:=by
 rw[regs_len] at h ⊢
 unfold regs
 rw[ze,qf,List.getElem?_range (by omega)]
 simp only[qg,zP]
 rw[show C.length-1+1=C.length by omega,List.take_length]
theorem regs_nil {C:List Ev} (h:(((regs C).length:Nat):Int)=0):qZ C=iR:=by
 rw[regs_len] at h
 rw[zL (show C.length=0 by omega)];rfl
abbrev lastK (C:List Ev):List UInt8:=(C.getD (C.length-1) zV).2.1
def jQ (n:Nat) (C:List Ev) (e:Ev):Reg×Int:=
 if e.1≠((n:Nat):Int)+1 then (zR,11)
 else if e.2.1=Z5 then (if ((C.length:Nat):Int)=0 then (zR,12) else (zR,qF (bif (decide (lastK C=jV)) then true else (decide (lastK C=ZN))) 18))
 else if evI e 0<(qZ C).1 then (zR,19) else ZB (qZ C) e
def newC (C:List Ev) (e:Ev):List Ev:=if e.2.1=Z5 then C.take (C.length-1) else C++[e]
section
variable {n:Nat} {C:List Ev} {e:Ev}
theorem ap_ord (h1:e.1≠((n:Nat):Int)+1):jQ n C e=(zR,11):=by rw[jQ,if_pos h1]
theorem ap_emp (h1:¬e.1≠((n:Nat):Int)+1) (h2:e.2.1=Z5) (h3:((C.length:Nat):Int)=0):jQ n C e=(zR,12):=by rw[jQ,if_neg h1,if_pos h2,if_pos h3]
theorem ap_und (h1:¬e.1≠((n:Nat):Int)+1) (h2:e.2.1=Z5) (h3:¬((C.length:Nat):Int)=0):jQ n C e=(zR,qF (bif (decide (lastK C=jV)) then true else (decide (lastK C=ZN))) 18):=by rw[jQ,if_neg h1,if_pos h2,if_neg h3]
theorem ap_sta (h1:¬e.1≠((n:Nat):Int)+1) (h2:¬e.2.1=Z5) (h3:evI e 0<(qZ C).1):jQ n C e=(zR,19):=by rw[jQ,if_neg h1,if_neg h2,if_pos h3]
theorem ap_eff (h1:¬e.1≠((n:Nat):Int)+1) (h2:¬e.2.1=Z5) (h3:¬evI e 0<(qZ C).1):jQ n C e=ZB (qZ C) e:=by rw[jQ,if_neg h1,if_neg h2,if_neg h3]
theorem ay_yes (h:(jQ n C e).2=0) (h2:¬e.2.1=Z5):jQ n C e=ZB (qZ C) e/\evI e 0>=(qZ C).1:=by
 by_cases h1:e.1≠((n:Nat):Int)+1
 ·rw[ap_ord h1] at h;cases h
 by_cases h3:evI e 0<(qZ C).1
 ·rw[ap_sta h1 h2 h3] at h;cases h
 exact⟨ap_eff h1 h2 h3,by omega⟩
theorem ap_pos (h:(jQ n C e).2=0) (h2:e.2.1=Z5):0<C.length:=by
 by_cases h1:e.1≠((n:Nat):Int)+1
 ·rw[ap_ord h1] at h;cases h
 by_cases h3:((C.length:Nat):Int)=0
 ·rw[ap_emp h1 h2 h3] at h;cases h
 omega
theorem new_und (h:e.2.1=Z5):newC C e=C.take (C.length-1):=by rw[newC,if_pos h]
theorem new_add (h:¬e.2.1=Z5):newC C e=C++[e]:=by rw[newC,if_neg h]
theorem regs_und (h:e.2.1=Z5):regs (newC C e)=(regs C).take (C.length-1):=by rw[new_und h,regs_take]
theorem regs_add (h0:(jQ n C e).2=0) (h:¬e.2.1=Z5):regs (newC C e)=regs C++[(jQ n C e).1]:=by rw[new_add h,regs_snoc,(ay_yes h0 h).1]
end
def cntG:Nat->List Ev->List Ev->List Ev×Nat×Int
 | _,C,[]=>(C,0,0)
 | n,C,e::l=>if jp e≠0 then ([],n+1,jp e) else if (jQ n C e).2≠0 then ([],n+1,(jQ n C e).2) else cntG (n+1) (newC C e) l
def cntF (l:List Ev):List Ev×Nat×Int:=cntG 0 [] l
theorem first_all:∀ {l:List Int},qP l=0->∀ x∈l,x=0
 | [],_,x,hx=>by cases hx
 | a::l,h,x,hx=>by
  rw[qP] at h
  split at h
  ·rename_i h0
   rcases zF.1 hx with e|e
   ·rw[e];exact h0
   exact first_all h x e
  rename_i h0;exact absurd h h0
theorem ve_all {e:Ev} (h:jp e=0):(kD e.2.1).2.2=true/\((e.2.2.1.length:Nat):Int)=(kD e.2.1).1/\((e.2.2.2.1.length:Nat):Int)=(kD e.2.1).2.1/\(∀ w∈e.2.2.1,qV (bsO w)=true)/\(∀ x∈e.2.2.2.1,0<=x/\x<=999999999)/\txtB e=true:=by
 have H:=first_all h
 have h2:=H (qF (!(kD e.2.1).2.2) 13) (by simp)
 have h3:=H (qF (shpB e) 2) (by simp)
 have h4:=H (namE e.2.2.1) (by simp)
 have h5:=H (valE e.2.2.2.1) (by simp)
 have h6:=H (qF (!txtB e) 1) (by simp)
 have k2:(kD e.2.1).2.2=true:=by
  cases hq:(kD e.2.1).2.2 with
  | true=>rfl
  | false=>rw[hq] at h2;exact absurd h2 (by decide)
 have k3:shpB e=false:=by
  cases hq:shpB e with
  | false=>rfl
  | true=>rw[hq] at h3;exact absurd h3 (by decide)
 have k6:txtB e=true:=by
  cases hq:txtB e with
  | true=>rfl
  | false=>rw[hq] at h6;exact absurd h6 (by decide)
 have k4:e.2.2.1.all (fun w=>qV (bsO w))=true:=by
  cases hq:e.2.2.1.all (fun w=>qV (bsO w)) with
  | true=>rfl
  | false=>rw[namE,hq] at h4;exact absurd h4 (by decide)
 have k5:e.2.2.2.1.all (fun n=>!Zw n 0 999999999)=true:=by
  cases hq:e.2.2.2.1.all (fun n=>!Zw n 0 999999999) with
  | true=>rfl
  | false=>rw[valE,hq] at h5;exact absurd h5 (by decide)
 simp only[shpB,qc,zH,zi] at k3
 refine⟨k2,k3.1,k3.2,fun w hw=>zp.1 k4 w hw,fun x hx=>?_,k6⟩
 have:=zp.1 k5 x hx
 simp only[Zw,Bool.not_eq_true',qc,zH] at this
 omega
theorem kT {e:Ev} (h:jp e=0) (i:Nat):0<=evI e i/\evI e i<=999999999:=by
 by_cases hi:i<e.2.2.2.1.length
 ·exact (ve_all h).2.2.2.2.1 _ (getD_mem (z:=0) hi)
 show 0<=List.getD _ _ _/\List.getD _ _ _<=_
 rw[ze,qh (by omega)]
 simp
theorem evN_chk {e:Ev} (h:jp e=0) (h1:0<e.2.2.1.length):jI (jV,evN e,0)=0:=by
 have:=(ve_all h).2.2.2.1 _ (getD_mem (z:=[]) h1)
 unfold jI
 rw[if_pos rfl]
 show qP [qF (!(qV (bsO (e.2.2.1.getD 0 [])))) 8,_]=0
 rw[this];rfl
theorem frm_len {e:Ev} (h:jp e=0) {a b:Nat} {c:Bool} (hf:kD e.2.1=(((a:Nat):Int),((b:Nat):Int),c)):e.2.2.1.length=a/\e.2.2.2.1.length=b:=by
 obtain⟨_,h1,h2,_⟩:=ve_all h
 rw[hf] at h1 h2
 simp only at h1 h2
 omega
theorem ve_kind {e:Ev} (h:jp e=0) (hu:¬e.2.1=Z5):e.2.1=kTar\/e.2.1=jV\/e.2.1=ZN\/e.2.1=kObs\/e.2.1=kCal:=by
 have:=(ve_all h).1
 unfold kD at this
 split at this
 ·exact .inl ‹_›
 split at this
 ·exact .inr (.inl ‹_›)
 split at this
 ·exact .inr (.inr (.inr (.inl ‹_›)))
 split at this
 ·exact .inr (.inr (.inl ‹_›))
 split at this
 ·exact .inr (.inr (.inr (.inr ‹_›)))
 cases this
theorem len_tar {e:Ev} (h:jp e=0) (hk:e.2.1=kTar):e.2.2.1.length=1/\e.2.2.2.1.length=7:=frm_len h (a:=1) (b:=7) (c:=true) (by rw[hk];rfl)
theorem len_act {e:Ev} (h:jp e=0) (hk:e.2.1=jV):e.2.2.1.length=1/\e.2.2.2.1.length=1:=frm_len h (a:=1) (b:=1) (c:=true) (by rw[hk];rfl)
theorem len_run {e:Ev} (h:jp e=0) (hk:e.2.1=ZN):e.2.2.1.length=0/\e.2.2.2.1.length=1:=frm_len h (a:=0) (b:=1) (c:=true) (by rw[hk];rfl)
theorem len_obs {e:Ev} (h:jp e=0) (hk:e.2.1=kObs):e.2.2.1.length=1/\e.2.2.2.1.length=1:=frm_len h (a:=1) (b:=1) (c:=true) (by rw[hk];rfl)
theorem len_cal {e:Ev} (h:jp e=0) (hk:e.2.1=kCal):e.2.2.1.length=1/\e.2.2.2.1.length=2:=frm_len h (a:=1) (b:=2) (c:=true) (by rw[hk];rfl)
theorem eff_tar {r:Reg} {e:Ev} (h:e.2.1=kTar):ZB r e=tgE r e:=by rw[ZB,if_pos h]
theorem eff_act {r:Reg} {e:Ev} (h:e.2.1=jV):ZB r e=acE r e:=by rw[ZB,if_neg (by rw[h];decide),if_pos h]
theorem eff_run {r:Reg} {e:Ev} (h:e.2.1=ZN):ZB r e=ruE r e:=by rw[ZB,if_neg (by rw[h];decide),if_neg (by rw[h];decide),if_pos h]
theorem eff_obs {r:Reg} {e:Ev} (h:e.2.1=kObs):ZB r e=obE r e:=by rw[ZB,if_neg (by rw[h];decide),if_neg (by rw[h];decide),if_neg (by rw[h];decide),if_pos h]
theorem eff_cal {r:Reg} {e:Ev} (h:e.2.1=kCal):ZB r e=caE r e:=by rw[ZB,if_neg (by rw[h];decide),if_neg (by rw[h];decide),if_neg (by rw[h];decide),if_neg (by rw[h];decide),if_pos h]
variable [Lz]
theorem mg_eq {b m t:List Fld} (hb:jv b=0) (hm:jv m=0) (ht:jv t=0):mgR b m t=mgo b m t (ZH (b++m++t)):=by
 unfold mgR
 rw[cF_asc (chk_asc hb),cF_asc (chk_asc hm),cF_asc (chk_asc ht),refNm_srt]
 have:nmsK b m t 3=(b++m++t).map (·.1):=by
  show nm b++nm m++nm t=_
  unfold nm
  rw[cF_asc (chk_asc hb),cF_asc (chk_asc hm),cF_asc (chk_asc ht)];simp
 rw[this]
theorem mg_ref {b m t:List Fld} (hb:jv b=0) (hm:jv m=0) (ht:jv t=0):(refM b m t).2=(mgR b m t).2/\((mgR b m t).2=[]->(refM b m t).1=(mgR b m t).1/\(mgR b m t).1=reb (chF b m t) (ZH (b++m++t))):=by
 rw[mg_eq hb hm ht]
 have hc:=rm_con b m t (ZH (b++m++t))
 unfold refM
 by_cases hq:0<(rmGo b m t (ZH (b++m++t))).2.length
 ·rw[if_pos hq]
  refine⟨hc,fun h=>?_⟩
  rw[hc,h] at hq;exact absurd hq (by decide)
 rw[if_neg hq]
 have h0:(mgo b m t (ZH (b++m++t))).2=[]:=by rw[<-hc];exact zL (by omega)
 exact⟨h0.symm,fun _=>⟨rm_out b m t _ h0,by rw[<-rm_out b m t _ h0,rm_fst]⟩⟩
theorem fGo_zero {l:List Fld}:∀ (n i:Nat),(∀ j,i<=j->j<i+n->fOne l j=0)->fGo l n i=0
 | 0,_,_=>rfl
 | n+1,i,h=>by
  rw[fGo,if_pos (h i (by omega) (by omega))]
  exact fGo_zero n (i+1) fun j h1 h2=>h j (by omega) (by omega)
theorem chk_of {l:List Fld} (h:l.length<=24) (h1:∀ f∈l,chkF f=0) (h2:(l.map (·.1)).Pairwise (· < ·)):jv l=0:=by
 unfold jv
 rw[show decide (24<l.length)=false by simpa using h]
 refine fGo_zero _ _ fun j _ hj=>?_
 have hj:j<l.length:=by omega
 unfold fOne
 rw[if_pos (h1 _ (getD_mem hj))]
 have:ordB l j=false:=by
  unfold ordB
  by_cases h0:0<j
  ·cases hq:leS (l.getD j ([],[])).1 (l.getD (j-1) ([],[])).1 with
   | false=>simp
   | true=>
    have hle:=leS_iff.1 hq
    have hlt:=List.pairwise_iff_getElem.1 h2 (j-1) j (by simp;omega) (by simpa using hj) (by omega)
    simp only[List.getElem_map] at hlt
    rw[ze,zm hj,ze,zm (show j-1<l.length by omega)] at hle
    exact absurd hlt (List.not_lt.2 hle)
  simp[h0]
 rw[this];rfl
theorem getF_mem {x v:List UInt8}:∀ {L:List Fld},jn x L=some v->(x,v)∈L
 | [],h=>by cases h
 | (a,w)::L,h=>by
  rw[jn] at h
  split at h
  ·rename_i e
   cases h
   rw[e];simp
  exact zO _ (getF_mem h)
theorem reb_mem {g:List UInt8->Option (List UInt8)}:∀ {N:List (List UInt8)} {f:Fld},f∈reb g N->g f.1=some f.2/\f.1∈N
 | [],f,h=>by cases h
 | x::N,f,h=>by
  rw[reb] at h
  split at h
  ·rename_i e
   rcases zF.1 h with e2|e2
   ·subst e2
    obtain⟨v,hv⟩:=Option.isSome_iff_exists.1 e
    exact⟨by rw[hv];rfl,by simp⟩
   exact⟨(reb_mem e2).1,zO _ (reb_mem e2).2⟩
  exact⟨(reb_mem h).1,zO _ (reb_mem h).2⟩
theorem reb_srt {g:List UInt8->Option (List UInt8)}:∀ {N:List (List UInt8)},N.Pairwise (· < ·)->((reb g N).map (·.1)).Pairwise (· < ·)
 | [],_=>List.Pairwise.nil
 | x::N,h=>by
  obtain⟨h1,h2⟩:=List.pairwise_cons.1 h
  rw[reb]
  split
  ·refine List.pairwise_cons.2 ⟨fun y hy=>?_,reb_srt h2⟩
   obtain⟨f,hf,rfl⟩:=zE.1 hy
   exact h1 _ (reb_mem hf).2
  exact reb_srt h2
theorem chk_at {l:List Fld} (h:jv l=0) {f:Fld} (hf:f∈l):chkF f=0:=by
 obtain⟨j,hj,rfl⟩:=mem_getD ([],[]) hf
 exact ((chk_parts h).2 j hj).1
theorem chk_mg {b m t:List Fld} (hb:jv b=0) (hm:jv m=0) (ht:jv t=0) (h0:(mgR b m t).2=[]) (hl:(mgR b m t).1.length<=24):jv (mgR b m t).1=0:=by
 obtain⟨_,h⟩:=mg_ref hb hm ht
 have e:=(h h0).2
 refine chk_of hl (fun f hf=>?_) (by rw[e];exact reb_srt (nm_srt _))
 rw[e] at hf
 have h1:=(reb_mem hf).1
 unfold chF at h1
 have:f∈m\/f∈t:=by
  split at h1
  ·exact .inl (getF_mem h1)
  split at h1
  ·exact .inr (getF_mem h1)
  exact .inl (getF_mem h1)
 rcases this with h2|h2
 ·exact chk_at hm h2
 exact chk_at ht h2
theorem parF_chk (s:List UInt8):jv (kW s).1=0:=by
 rcases parF_cases s with h|h
 ·rw[h];rfl
 exact h
end Go.Lens.Tm
end
section
namespace Go.Lens.Tm
open Go.Lens.Tb Go.Proofs
variable [Lz]
section
variable [Fc] {n nb:Nat} {Q:Exit->St->Prop} {ops:Array Oper} {dr:Bool} {os:List Oper} {tm:List (Nat×DV)} {dst:Option Tmp} {op:Go.Op} {ty:TypeId} {pos:String} {af:Array Edge} {val:DV} {m ms:List (Nat×MO)} {rd:List Nat} {acc:List Ef} {K:List Fr} {c:Cg}
theorem Ek (k0:Nat) (e:go n nb 9999 k0 c=.r ops dr (⟨dst,op,ty,pos,af,none⟩::os) tm ms acc K) (h:Body Tryz.prog tab nb ⟨tm,ms⟩ ⟨dst,op,ty,pos,af,none⟩ val m rd) (k:CG n nb Q (nx ops dr os tm dst val m ms rd acc K)):CG n nb Q c:=go_ok (k:=k0) (by rw[e];exact RO h (nx_ok k))
end
def k9 (n:Nat) (r:Reg):Prop:=r.2.1∈sts/\r.2.2.1.length<=n/\r.2.2.2.1.length<=n/\r.2.2.2.2.1.length<=n/\r.2.2.2.2.2.length<=1000/\∀ d∈r.2.2.2.2.1,jv d.2.2=0/\0<=d.2.1/\d.2.1<=1000
theorem k9.up {n m:Nat} {r:Reg} (h:k9 n r) (hm:n<=m):k9 m r:=⟨h.1,by have:=h.2.1;omega,by have:=h.2.2.1;omega,by have:=h.2.2.2.1;omega,h.2.2.2.2.1,h.2.2.2.2.2⟩
theorem iR_ok:k9 0 iR:=⟨by simp[sts],zz _,zz _,zz _,zq _,fun d hd=>by cases hd⟩
theorem lat_ok {n:List UInt8} {v:Int}:∀ {l:List Doc} {a:Int×List Fld},(∀ d∈l,jv d.2.2=0/\0<=d.2.1/\d.2.1<=1000)->(jv a.2=0/\0<=a.1/\a.1<=1000)->jv (latG n v l a).2=0/\0<=(latG n v l a).1/\(latG n v l a).1<=1000
 | [],a,_,h=>h
 | d::l,a,hl,h=>by
  obtain⟨k1,k2,k3⟩:=hl d (qm ..)
  rw[latG]
  refine lat_ok (fun d hd=>hl d (zO _ hd)) ?_
  split
  ·exact h
  refine⟨?_,k2,k3⟩
  show jv (if _ then _ else _)=0
  split
  ·exact k1
  exact h.1
theorem latF_ok {n:List UInt8} {v:Int} {l:List Doc} (hl:∀ d∈l,jv d.2.2=0/\0<=d.2.1/\d.2.1<=1000):jv (kg l n v).2=0/\0<=(kg l n v).1/\(kg l n v).1<=1000:=lat_ok hl ⟨rfl,by decide,by decide⟩
theorem k9.run {n:Nat} {r:Reg} (h:k9 n r) {t:Int} (ht:0<=t/\t<=999999999):OkN r.2.2.2.2.2.length (r.2.1,t,[]):=⟨h.1,ht.1,ht.2,h.2.2.2.2.1⟩
theorem len_ap2 {α:Type} {a b:List α} {n:Nat} (h:a.length+b.length<=n):(a++b).length<=n:=by rw[za];exact h
theorem len_sn {α:Type} {a:List α} {x:α} {n:Nat} (h:a.length<=n):(a++[x]).length<=n+1:=by rw[za,qb];omega
theorem ex_reg {n:Nat} {r:Reg} (h:k9 n r) {t:Int} (ht:0<=t/\t<=999999999) {l:List Cmd} (hw:Wf 4 l) (hc:∀ c∈l,jI c=0):k9 (n+1) (exE r t l).1:=by
 by_cases h0:(jb r.2.2.2.2.2.length (r.2.1,t,[]) (q9 l)).2=0
 ·rw[ex_ok h0]
  obtain⟨k1,_,_,k2⟩:=taks_ok2 (h.run ht) (unr_chk hw hc)
  exact⟨k1,Nat.le_succ_of_le h.2.1,Nat.le_succ_of_le h.2.2.1,Nat.le_succ_of_le h.2.2.2.1,len_ap2 k2,h.2.2.2.2.2⟩
 rw[ex_no h0];exact h.up (by omega)
theorem eff_ok {n:Nat} {r:Reg} {e:Ev} (h:k9 n r) (hv:jp e=0) (hu:¬e.2.1=Z5):k9 (n+1) (ZB r e).1:=by
 obtain⟨g1,g2,g3,g4,g5,g6⟩:=h
 have h:k9 n r:=⟨g1,g2,g3,g4,g5,g6⟩
 rcases ve_kind hv hu with hk|hk|hk|hk|hk
 ·rw[eff_tar hk]
  by_cases h0:tgX r e=0
  ·rw[tg_ok h0]
   exact⟨g1,len_sn g2,Nat.le_succ_of_le g3,Nat.le_succ_of_le g4,g5,g6⟩
  rw[tg_no h0];exact h.up (by omega)
 ·rw[eff_act hk]
  exact ex_reg h (kT hv 0) (act_wf _) (act_chk (evN_chk hv (by have:=len_act hv hk;omega)))
 ·rw[eff_run hk]
  by_cases h0:(qY ZP e.2.2.2.2).2.2=0
  ·rw[ru_ok h0];exact ex_reg h (kT hv 0) (parScr_wf _ _) (jL _ _).2
  rw[ru_no h0];exact h.up (by omega)
 ·rw[eff_obs hk]
  by_cases h0:obX r e=0
  ·rw[ob_ok h0]
   exact⟨g1,Nat.le_succ_of_le g2,len_sn g3,Nat.le_succ_of_le g4,g5,g6⟩
  rw[ob_no h0];exact h.up (by omega)
 rw[eff_cal hk]
 have hL:=latF_ok (n:=evN e) (v:=evI e 1) g6
 have hL2:=latF_ok (n:=evN e) (v:=(caL r e).1) g6
 have hL0:0<=(caL r e).1:=hL.2.1
 have key:∀ f:List Fld,jv f=0->(caL r e).1<=999->k9 (n+1) (caF r e f):=by
  intro f hf hle
  refine⟨g1,Nat.le_succ_of_le g2,Nat.le_succ_of_le g3,len_sn g4,g5,fun d hd=>?_⟩
  rcases zI.1 hd with hd|hd
  ·exact g6 d hd
  rw[zg.1 hd]
  exact⟨hf,by show 0<=(caL r e).1+1;omega,by show (caL r e).1+1<=1000;omega⟩
 by_cases h0:caX r e=0
 ·have hle:(caL r e).1<=999:=by
   have:=first_all h0 (qF (decide (16<=(caL r e).1)) 5) (by simp)
   by_cases hq:16<=(caL r e).1
   ·rw[show decide (16<=(caL r e).1)=true by simpa using hq] at this;exact absurd this (by decide)
   omega
  by_cases h1:evI e 1<(caL r e).1
  ·by_cases h2:caY r e=0
   ·rw[ca_mrg h0 h1 h2]
    have k1:=first_all h2 (qF (decide (0<(((caM r e).2.length:Nat):Int))) 29) (by simp)
    have k2:=first_all h2 (qF (decide (24<(((caM r e).1.length:Nat):Int))) 4) (by simp)
    have j1:(caM r e).2=[]:=by
     by_cases hq:0<(((caM r e).2.length:Nat):Int)
     ·rw[show decide (0<(((caM r e).2.length:Nat):Int))=true by simpa using hq] at k1;exact absurd k1 (by decide)
     exact zL (by omega)
    have j2:(caM r e).1.length<=24:=by
     by_cases hq:24<(((caM r e).1.length:Nat):Int)
     ·rw[show decide (24<(((caM r e).1.length:Nat):Int))=true by simpa using hq] at k2;exact absurd k2 (by decide)
     omega
    exact key _ (chk_mg hL.1 (parF_chk _) hL2.1 j1 j2) hle
   rw[ca_con h0 h1 h2];exact h.up (by omega)
  rw[ca_new h0 h1];exact key _ (parF_chk _) hle
 rw[ca_no h0];exact h.up (by omega)
theorem regF_ok':∀ (C:List Ev) (n:Nat) (r:Reg),k9 n r->(∀ e∈C,jp e=0/\¬e.2.1=Z5)->k9 (n+C.length) (C.foldl (fun r e=>(ZB r e).1) r)
 | [],n,r,h,_=>h
 | e::C,n,r,h,hC=>by
  obtain⟨k1,k2⟩:=hC e (qm ..)
  have:=regF_ok' C (n+1) _ (eff_ok h k1 k2) fun x hx=>hC x (zO _ hx)
  rw[zb,show n+(C.length+1)=n+1+C.length by omega]
  exact this
def CntOk (n:Nat) (C:List Ev):Prop:=C.length<=n/\∀ e∈C,jp e=0/\¬e.2.1=Z5
theorem regF_ok {n:Nat} {C:List Ev} (h:CntOk n C):k9 n (qZ C):=by
 have:=regF_ok' C 0 iR iR_ok h.2
 rw[Nat.zero_add] at this
 exact this.up h.1
theorem cnt_new {n:Nat} {C:List Ev} {e:Ev} (h:CntOk n C) (hv:jp e=0):CntOk (n+1) (newC C e):=by
 by_cases hu:e.2.1=Z5
 ·rw[new_und hu]
  exact⟨by rw[zn];have:=h.1;omega,fun x hx=>h.2 x (zr hx)⟩
 rw[new_add hu]
 refine⟨by rw[za,qb];have:=h.1;omega,fun x hx=>?_⟩
 rcases zI.1 hx with hx|hx
 ·exact h.2 x hx
 rw[zg.1 hx];exact⟨hv,hu⟩
theorem cnt_nil:CntOk 0 []:=⟨zz _,fun e he=>by cases he⟩
theorem effW (he:je) (hp:qH) (hm:HMa) {n:Nat} {r:Reg} {e:Ev} (h:k9 n r) (hn:n<=1000) (hv:jp e=0) (hu:¬e.2.1=Z5) (hT:e.2.2.2.2.length<=4000) :
 ∃ (a b:Int) (z:PV) (F:FuncId),jU (pS (bsO e.2.1)) kindsK kindsV=some (rowK a b z (fK F))/\CKa F [.pv (gR r),.pv (gV e)] (.tup [.pv (gR (ZB r e).1),vI (ZB r e).2]):=by
 have hR:r.2.2.1.length<=1000000/\r.2.2.2.1.length<=1000000/\r.2.2.2.2.1.length<=1000000/\r.2.2.2.2.2.length<=1000:=by
  obtain⟨_,h1,h2,h3,h4,_⟩:=h
  omega
 rcases ve_kind hv hu with hk|hk|hk|hk|hk
 ·obtain⟨l1,l2⟩:=len_tar hv hk
  refine⟨1,7,fK 204,205,by rw[find_k,if_pos hk],?_⟩
  rw[eff_tar hk];exact w205 r e hR (by omega) (by omega)
 ·obtain⟨l1,l2⟩:=len_act hv hk
  refine⟨1,1,fK 204,206,by rw[find_k,if_neg (by rw[hk];decide),if_pos hk],?_⟩
  rw[eff_act hk];exact w206 hp hm r e (h.run (kT hv 0)) (evN_chk hv (by omega)) (by omega) (by omega)
 ·obtain⟨l1,l2⟩:=len_run hv hk
  refine⟨0,1,fK 207,208,by rw[find_k,if_neg (by rw[hk];decide),if_neg (by rw[hk];decide),if_pos hk],?_⟩
  rw[eff_run hk];exact w208 he hp hm r e (h.run (kT hv 0)) (by omega) hT
 ·obtain⟨l1,l2⟩:=len_obs hv hk
  refine⟨1,1,fK 204,209,by rw[find_k,if_neg (by rw[hk];decide),if_neg (by rw[hk];decide),if_neg (by rw[hk];decide),if_pos hk],?_⟩
  rw[eff_obs hk];exact w209 r e hR (by omega) (by omega)
 obtain⟨l1,l2⟩:=len_cal hv hk
 have hL:=latF_ok (n:=evN e) (v:=evI e 1) h.2.2.2.2.2
 have hL2:=latF_ok (n:=evN e) (v:=(caL r e).1) h.2.2.2.2.2
 refine⟨1,2,fK 210,211,by rw[find_k,if_neg (by rw[hk];decide),if_neg (by rw[hk];decide),if_neg (by rw[hk];decide),if_neg (by rw[hk];decide),if_pos hk],?_⟩
 rw[eff_cal hk];exact w211 hp r e hR (by omega) (by omega) hT (chk_small hL.1) (chk_small (parF_chk _)) (chk_small hL2.1) ⟨hL.2.1,hL.2.2⟩
section
variable {n k:Nat} {C:List Ev} {l:List Ev} {z:List Ev×Nat×Int}
theorem cg_at (hk:k<l.length):cntG n C (l.drop k)=if jp (l.getD k zV)≠0 then ([],n+1,jp (l.getD k zV)) else if (jQ n C (l.getD k zV)).2≠0 then ([],n+1,(jQ n C (l.getD k zV)).2) else cntG (n+1) (newC C (l.getD k zV)) (l.drop (k+1)):=by
 rw[drop_at l k zV hk,cntG]
theorem cg_bad (h:z=cntG k C (l.drop k)) (hk:k<l.length) (h1:jp (l.getD k zV)≠0):z=([],k+1,jp (l.getD k zV)):=by rw[h,cg_at hk,if_pos h1]
theorem cg_no (h:z=cntG k C (l.drop k)) (hk:k<l.length) (h1:jp (l.getD k zV)=0) (h2:(jQ k C (l.getD k zV)).2≠0):z=([],k+1,(jQ k C (l.getD k zV)).2):=by rw[h,cg_at hk,if_neg (by rw[h1];simp),if_pos h2]
theorem cg_yes (h:z=cntG k C (l.drop k)/\CntOk k C) (hk:k<l.length) (h1:jp (l.getD k zV)=0) (h2:(jQ k C (l.getD k zV)).2=0):z=cntG (k+1) (newC C (l.getD k zV)) (l.drop (k+1))/\CntOk (k+1) (newC C (l.getD k zV)):=
 ⟨by rw[h.1,cg_at hk,if_neg (by rw[h1];simp),if_neg (by rw[h2];simp)],cnt_new h.2 h1⟩
theorem cg_end (h:z=cntG k C (l.drop k)) (hk:¬k<l.length):z=(C,0,0):=by rw[h,zN (by omega)];rfl
end
theorem cnt_ok:∀ (l:List Ev) (n:Nat) (C:List Ev),CntOk n C->CntOk (n+l.length) (cntG n C l).1
 | [],n,C,h=>h
 | e::l,n,C,h=>by
  rw[cntG]
  split
  ·exact⟨zq _,fun x hx=>by cases hx⟩
  split
  ·exact⟨zq _,fun x hx=>by cases hx⟩
  rename_i h1 _
  have:=cnt_ok l (n+1) _ (cnt_new h (zi.1 h1))
  rw[zb,show n+(l.length+1)=n+1+l.length by omega];exact this
theorem cntF_ok (l:List Ev):CntOk l.length (cntF l).1:=by
 have:=cnt_ok l 0 [] cnt_nil
 rwa [Nat.zero_add] at this
end Go.Lens.Tm
end
section
namespace Go.Lens
variable [Lz]
section
variable {P:Program} {Y:Tab} [qU P Y] {nb:Nat} {s:St} {dst:Option Tmp} {ty u:TypeId} {pos:String} {af:Array Edge} {gd:Option (Nat×Bool)} {t:TypeId} {x y:Operand}
theorem B.lookK0 {h:Nat} {ks vs:List PV} {key z:PV} {r:Option PV} {kt et:TypeId} {kd:TypeDesc} (hx:ev1 s x=.mref h) (hm:qx s.ms h=some (.map ks vs)) (hy:ev1 s y=.pv key) (und:Y.underlying t=some (.map kt et)) (uk:Y.underlying kt=some kd)
  (hz:(Y.info? et).bind (fun i=>i.zero.bind valPV)=some z) (hpk:plainKey kd key=true) (hks:(plainKeys kd ks&&ks.length==vs.length)=true) (hr:jU key ks vs=r) :
  Body P Y nb s ⟨dst,.lookup t x y false,ty,pos,af,gd⟩ (.pv (r.getD z)) [] [h]:=by
 subst hr
 refine .inr (Zp.of fun σ G a w hv hl I=>?_)
 have hX:=hv x (by simp[Op.operands])
 have hY:=hv y (by simp[Op.operands])
 rw[hx] at hX;rw[hy] at hY
 have hlk:qx σ.ms h=some (.map ks vs):=by rw[hl h (.inl (by simp))];exact hm
 have hq:kZ Y t (mapOf (qx σ.ms) (.mref h)) (.pv key) false=some (true,.pv ((jU key ks vs).getD z)):=by
  have hmo:mapOf (qx σ.ms) (.mref h)=.pv (.map ks vs):=by simp only[mapOf,hlk]
  rw[hmo]
  simp only[kZ,und,uk,hz,hpk,qq,hks,qp,qr]
 obtain⟨r,h1,h2⟩:=lookupW_sound (P:=P) I.ctxS.sees hq hX hY
 refine⟨r,w,G,.inl ?_,qL I.ctxS h2 (fun k hk=>by simp[DV.refs] at hk)⟩
 simp only[execOp,qu,h1,qt,qw]
theorem allLt {l:List (Nat×MO)} {n:Nat} (h:l.all (fun p=>Nat.blt p.1 n)=true):∀ h o,qx l h=some o->h<n:=fun k o e=>by
 have:=zp.1 h _ (jf e);simpa using this
theorem allNe {l:List (Nat×MO)} {n:Nat} (h:l.all (fun p=>!Nat.beq p.1 n)=true):∀ p∈l,p.1≠n:=fun p hp e=>by
 have:=zp.1 h _ hp
 rw[e] at this;simp at this
noncomputable def ndM:List (Nat×MO)->Bool
 | []=>true
 | p::l=>!jJ l p.1&&ndM l
theorem ndM_ok:∀ {l:List (Nat×MO)},ndM l=true->∀ h o,(h,o)∈l->qx l h=some o
 | [],_,h,o,hm=>by cases hm
 | p::l,hd,h,o,hm=>by
  simp only[ndM,zj,Bool.not_eq_true'] at hd
  rw[qM]
  rcases zF.1 hm with e|e
  ·cases e;rw[if_pos rfl]
  have h2:=ndM_ok hd.2 h o e
  by_cases hq:p.1=h
  ·have:jJ l p.1=true:=jy.2 ⟨o,by rw[hq];exact h2⟩
   rw[hd.1] at this;cases this
  rw[if_neg hq];exact h2
def AgD (tm:List (Nat×DV)):Nat->List DV->Prop
 | _,[]=>True
 | k,.dead::ds=>AgD tm (k+1) ds
 | k,d::ds=>jC tm k=d/\AgD tm (k+1) ds
theorem agD_ok {tm:List (Nat×DV)}:∀ {ds:List DV} {k:Nat},AgD tm k ds->∀ i,ds.getD i .dead=jC tm (k+i)\/ds.getD i .dead=.dead
 | [],k,_,i=>.inr (by simp)
 | d::ds,k,h,i=>by
  have hc:(d=.dead\/jC tm k=d)/\AgD tm (k+1) ds:=by
   cases d<;>first|exact⟨.inl Z,h⟩|exact⟨.inr h.1,h.2⟩
  cases i with
  | zero=>
   rcases hc.1 with e|e
   ·exact .inr (by simpa using e)
   exact .inl (by simpa using e.symm)
  | succ i=>
   have:=agD_ok hc.2 i
   rw[show k+(i+1)=k+1+i by omega]
   simpa using this
end
def rfOf:Code->Option (Array Tmp×Code×Code)
 | .seq a b=>match rfOf a with
  | some r=>some r
  | none=>rfOf b
 | .block _ a=>rfOf a
 | .rangeFunc _ ps a b=>some (ps,a,b)
 | _=>none
end Go.Lens
namespace Go.Lens
variable [Lz]
theorem Stepped.perm {G:Gh} {w:World} {look:Nat->Option MO} {val:DV} {ms ms':List (Nat×MO)} {G':Gh} {w':World} {r:Value} (h:ms'.Perm ms) (S:Stepped G w look val ms G' w' r):Stepped G w look val ms' G' w' r:=by
 have hn:∀ k,k∈ms'.map (·.1)↔k∈ms.map (·.1):=fun k=>(h.map _).mem_iff
 exact⟨S.later,S.hval,fun k o hk=>S.hms k o (h.mem_iff.1 hk),S.keeps,fun k hk=>S.old k (fun e=>hk ((hn k).2 e)),S.fresh,fun b k hk=>(S.own b k hk).imp (fun e=>(hn k).2 e) id,fun k hk=>(S.refs k hk).imp (fun e=>(hn k).2 e) id,
  fun k o hk j hj=>(S.refsM k o (h.mem_iff.1 hk) j hj).imp (fun e=>(hn j).2 e) id,S.newb,S.r0,S.r0m⟩
theorem q6.rev {P:Program} {f:FuncId} {ds:List DV} {look:Nat->Option MO} {val:DV} {l:List (Nat×MO)} (h:q6 P f ds look val l.reverse):q6 P f ds look val l:=
 ⟨h.refs,fun G w vs M hv=>(h.call G w vs M hv).mono fun r w' ⟨G',S⟩=>⟨G',S.perm (List.reverse_perm l).symm⟩⟩
theorem agD0 {tm:List (Nat×DV)} {ds:List DV} (h:AgD tm 0 ds) (i:Nat):ds.getD i .dead=jC tm i\/ds.getD i .dead=.dead:=by
 have:=agD_ok h i
 rwa [Nat.zero_add] at this
end Go.Lens
end
section
namespace Go.Lens.Tm
open Go.Lens.Tb Go.Proofs
variable [Lz]
set_option maxHeartbeats 4000000
set_option maxRecDepth 100000
attribute [local irreducible] TK PK T RG EfR Body CG
abbrev hS (v:Nat) (E C:List Ev):List (Nat×MO):=[(14,.box 267 [.aref 901 v,.aref 902 v,.aref 903 v]),(901,.arr v 5 119 (List.map eE E)),(902,.arr v 5 119 (List.map eE C)),(903,.arr v 9 154 (List.map eR (regs C)))]
abbrev hO (v:Nat) (E C:List Ev):List (Nat×MO):=[(903,.arr v 9 154 (List.map eR (regs C))),(902,.arr v 5 119 (List.map eE C)),(901,.arr v 5 119 (List.map eE E)),(14,.box 267 [.aref 901 v,.aref 902 v,.aref 903 v])]
theorem by154:ty154.info.bytes=136:=by kernel_rfl
theorem in154:tab.info? 154=some ty154.info:=by kernel_rfl
theorem sz121:szT tab 121=some 1:=by kernel_rfl
theorem sz265:szT tab 265=some 1:=by kernel_rfl
theorem un265:tab.underlying 265=some (.slice 154):=by kernel_rfl
theorem w155 (v:Nat) (d c:List Ev) (hC:c.length<=1000):q6 Tryz.prog 155 [.bref 14 0] (qx (hS v d c)) (.pv (gR (qZ c))) (hO v d c):=by
 refine cL 1001 (hS v d c) qf155 Z (nB Z) Z Z ?_
 have hrl:=regs_len c
 refine kc (E Z (B.jj Z (fun l=>Frz.boxN l Z) Z) (E Z (B.lenA Z Z un265) (Cp Z Z (fun h1=>?_) (fun h1=>?_))))
 ·refine E Z (B.jj (val:=.pv (.agg [pI 0,pS (bsO [105,100,108,101]),pI 0,pB false,pB false,pL eT [],pL eN [],pL eD [],pL eP []])) Z (fun l=>Frz.aggN l Z) Z) ?_
  refine Rt Z ?_
  exact Zh (val0:=.pv (.agg [pI 0,pS (bsO [105,100,108,101]),pI 0,pB false,pB false,pL eT [],pL eN [],pL eD [],pL eP []])) (out0:=[(903,.arr v 9 154 (List.map eR (regs c))),(902,.arr v 5 119 (List.map eE c)),(901,.arr v 5 119 (List.map eE d)),(14,.box 267 [.aref 901 v,.aref 902 v,.aref 903 v])]) (.inr Z) (by kernel_rfl) (by rw[regs_nil h1]<;>rfl) rfl
 refine E Z (B.lenA Z Z un265) (E Z (B.sub Z Z (by unfold R64;omega)) (E Z (B.idxE (n:=(List.length (regs c)-1)) Z Z Z un265 sz154 (by omega) (by omega)) (E Z (B.loadEA (enc:=eR) (l:=(regs c)) (n:=(List.length (regs c)-1)) (z0:=zR) Z Z ag154 sz154 (by omega) Z) (Dr Z (by kernel_rfl) ?_))))
 refine Rt Z ?_
 exact Zh (val0:=.pv (gR (List.getD (regs c) (List.length (regs c)-1) zR))) (out0:=[(903,.arr v 9 154 (List.map eR (regs c))),(902,.arr v 5 119 (List.map eE c)),(901,.arr v 5 119 (List.map eE d)),(14,.box 267 [.aref 901 v,.aref 902 v,.aref 903 v])]) (.inr Z) (by kernel_rfl) (by rw[<-regs_last h1]<;>rfl) rfl
theorem w160 (hp:qH) (hm:HMa) (v:Nat) (d c:List Ev) (e:Ev) (F:FuncId) (a b:Int) (z:PV) (hE:d.length<=1000) (hC:c.length<=1000) (hX:¬e.2.1=Z5->1<=e.2.2.2.1.length/\jU (pS (bsO e.2.1)) kindsK kindsV=some (rowK a b z (fK F))/\CKa F [.pv (gR (qZ c)),.pv (gV e)] (.tup [.pv (gR (ZB (qZ c) e).1),vI (ZB (qZ c) e).2])):q6 Tryz.prog 160 [.bref 14 0,.pv (gV e)] (qx (hS v d c)) (.tup [.pv (gR ((jQ (d.length) c e).1)),vI (jQ (d.length) c e).2]) (hO v d c):=by
 refine cL 1001 (hS v d c) qf160 Z (nB Z) Z Z (kc (E Z (B.jj Z (fun l=>Frz.boxN l Z) Z) (E Z (B.lenA Z Z jt) (E Z (B.add Z Z (by unfold R64;omega)) (Dr Z (by kernel_rfl) (Cp Z Z (fun h1=>?_) (fun h1=>?_)))))))
 ·refine E Z (B.jj (val:=.pv (.agg [pI 0,pS (bsO []),pI 0,pB false,pB false,pL eT [],pL eN [],pL eD [],pL eP []])) Z (fun l=>Frz.aggN l Z) Z) ?_
  refine Rt Z ?_
  exact Zh (val0:=.tup [.pv (.agg [pI 0,pS (bsO []),pI 0,pB false,pB false,pL eT [],pL eN [],pL eD [],pL eP []]),vI 11]) (out0:=[(903,.arr v 9 154 (List.map eR (regs c))),(902,.arr v 5 119 (List.map eE c)),(901,.arr v 5 119 (List.map eE d)),(14,.box 267 [.aref 901 v,.aref 902 v,.aref 903 v])]) (.inr Z) (by kernel_rfl) (by rw[ap_ord h1]<;>rfl) rfl
 refine E Z (B.seqB (a:=e.2.1) (b:=[117,110,100,111]) Z Z) (Cp Z Z (fun h2=>?_) (fun h2=>?_))
 ·refine E Z (B.lenA Z Z jt) (Cp Z Z (fun h3=>?_) (fun h3=>?_))
  ·refine E Z (B.jj (val:=.pv (.agg [pI 0,pS (bsO []),pI 0,pB false,pB false,pL eT [],pL eN [],pL eD [],pL eP []])) Z (fun l=>Frz.aggN l Z) Z) ?_
   refine Rt Z ?_
   exact Zh (val0:=.tup [.pv (.agg [pI 0,pS (bsO []),pI 0,pB false,pB false,pL eT [],pL eN [],pL eD [],pL eP []]),vI 12]) (out0:=[(903,.arr v 9 154 (List.map eR (regs c))),(902,.arr v 5 119 (List.map eE c)),(901,.arr v 5 119 (List.map eE d)),(14,.box 267 [.aref 901 v,.aref 902 v,.aref 903 v])]) (.inr Z) (by kernel_rfl) (by rw[ap_emp h1 h2 h3]<;>rfl) rfl
  refine E Z (B.lenA Z Z jt) (E Z (B.sub Z Z (by unfold R64;omega)) (E Z (B.idxE (n:=(c.length-1)) Z Z Z jt kJ (by omega) (by omega)) ?_))
  refine Ek 0 Z (B.fadE Z Z fa119_1) ?_
  refine E Z (B.loadEC (enc:=eE) (l:=c) (n:=(c.length-1)) (c:=1) (p:=pS (bsO (c.getD (c.length-1) zV).2.1)) (z0:=zV) Z Z ag9 sz9 (by omega) Z) (Dr Z (by kernel_rfl) (E Z (B.jj (val:=.pv (.agg [pI 0,pS (bsO []),pI 0,pB false,pB false,pL eT [],pL eN [],pL eD [],pL eP []])) Z (fun l=>Frz.aggN l Z) Z) (E Z (B.seqB (a:=(c.getD (c.length-1) zV).2.1) (b:=[97,99,116]) Z Z) (Eg Z Z (fun hc=>B.move Z) Z (Eg Z Z (fun hc=>B.seqB (a:=(c.getD (c.length-1) zV).2.1) (b:=[114,117,110]) (qy Z hc) Z) Z (E Z (B.pick Z Z Z Z (gdB Z) (q7 _)) (C Z (w101 (bif (decide ((c.getD (c.length-1) zV).2.1=[97,99,116])) then true else (decide ((c.getD (c.length-1) zV).2.1=[114,117,110]))) 18) Z Z Z ?_)))))))
  refine Rt Z ?_
  exact Zh (val0:=.tup [.pv (.agg [pI 0,pS (bsO []),pI 0,pB false,pB false,pL eT [],pL eN [],pL eD [],pL eP []]),vI (qF (bif (decide ((c.getD (c.length-1) zV).2.1=[97,99,116])) then true else (decide ((c.getD (c.length-1) zV).2.1=[114,117,110]))) 18)]) (out0:=[(903,.arr v 9 154 (List.map eR (regs c))),(902,.arr v 5 119 (List.map eE c)),(901,.arr v 5 119 (List.map eE d)),(14,.box 267 [.aref 901 v,.aref 902 v,.aref 903 v])]) (.inr Z) (by kernel_rfl) (by rw[ap_und h1 h2 h3]<;>rfl) rfl
 have hx:=hX h2
 refine E Z (B.kU (l:=hS v d c) (w155 v d c (by omega)) Z Z ⟨rfl,rfl,rfl,rfl,trivial⟩ rfl rfl) (E Z (B.jj Z (fun l=>Frz.boxN l Z) Z) (E Z (B.idx (z:=0) (i:=0) Z Z ku sz3 (fun _=>rfl) Z (by omega)) (Dr Z (by kernel_rfl) (Cp Z Z (fun h4=>?_) (fun h4=>?_)))))
 ·refine E Z (B.jj (val:=.pv (.agg [pI 0,pS (bsO []),pI 0,pB false,pB false,pL eT [],pL eN [],pL eD [],pL eP []])) Z (fun l=>Frz.aggN l Z) Z) ?_
  refine Rt Z ?_
  exact Zh (val0:=.tup [.pv (.agg [pI 0,pS (bsO []),pI 0,pB false,pB false,pL eT [],pL eN [],pL eD [],pL eP []]),vI 19]) (out0:=[(903,.arr v 9 154 (List.map eR (regs c))),(902,.arr v 5 119 (List.map eE c)),(901,.arr v 5 119 (List.map eE d)),(14,.box 267 [.aref 901 v,.aref 902 v,.aref 903 v])]) (.inr Z) (by kernel_rfl) (by rw[ap_sta h1 h2 h4]<;>rfl) rfl
 refine E Z (B.kU (l:=[]) (w152 hp hm) Z Z trivial Z Z) (E Z (B.lookK0 (z:=rowK 0 0 (.lit .nilFunc) (.lit .nilFunc)) Z Z Z un256 un9 (by kernel_rfl) Z (by kernel_rfl) hx.2.1) (C Z (hx.2.2) Z Z Z (Dr Z (by kernel_rfl) ?_)))
 refine Rt Z ?_
 exact Zh (val0:=.tup [.pv (gR ((ZB (qZ c) e).1)),vI (ZB (qZ c) e).2]) (out0:=[(903,.arr v 9 154 (List.map eR (regs c))),(902,.arr v 5 119 (List.map eE c)),(901,.arr v 5 119 (List.map eE d)),(14,.box 267 [.aref 901 v,.aref 902 v,.aref 903 v])]) (.inr Z) (by kernel_rfl) (by rw[ap_eff h1 h2 h4]<;>rfl) rfl
theorem w196n (v:Nat) (d c:List Ev) (e:Ev) (hE:d.length<=1000) (hC:c.length<=1000) (hn:e.2.2.1.length<=1000000) (hv:e.2.2.2.1.length<=1000000) (hacc:q6 Tryz.prog 160 [.bref 14 0,.pv (gV e)] (qx (hS v d c)) (.tup [.pv (gR (jQ (d.length) c e).1),vI (jQ (d.length) c e).2]) (hO v d c)) (hb:(jQ (d.length) c e).2≠0):q6 Tryz.prog 196 [.bref 14 0,.pv (gV e)] (qx (hS v d c)) (vI (jQ (d.length) c e).2) (hO v d c):=by
 refine cL 1001 (hS v d c) qf196 Z (nB Z) Z Z (kc (E Z (B.kU (l:=hS v d c) (hacc) Z Z ⟨rfl,rfl,rfl,rfl,trivial⟩ rfl rfl) (E Z (B.jj Z (fun l=>Frz.boxN l Z) Z) (Cp Z Z (fun h1=>?_) (fun h1=>?_)))))
 ·refine Rt Z ?_
  exact Zh (val0:=vI (jQ (d.length) c e).2) (out0:=[(903,.arr v 9 154 (List.map eR (regs c))),(902,.arr v 5 119 (List.map eE c)),(901,.arr v 5 119 (List.map eE d)),(14,.box 267 [.aref 901 v,.aref 902 v,.aref 903 v])]) (.inr Z) (by kernel_rfl) Z rfl
 exact absurd hb h1
theorem w196y (v:Nat) (d c:List Ev) (e:Ev) (hE:d.length<=1000) (hC:c.length<=1000) (hn:e.2.2.1.length<=1000000) (hv:e.2.2.2.1.length<=1000000) (hacc:q6 Tryz.prog 160 [.bref 14 0,.pv (gV e)] (qx (hS v d c)) (.tup [.pv (gR (jQ (d.length) c e).1),vI (jQ (d.length) c e).2]) (hO v d c)) (hb:(jQ (d.length) c e).2=0):q6 Tryz.prog 196 [.bref 14 0,.pv (gV e)] (qx (hS v d c)) (vI 0) (hO (v+1) (d++[e]) (newC c e)):=by
 refine cL 1001 (hS v d c) qf196 Z (nB Z) Z Z ?_
 have hrl:=regs_len c
 refine kc (E Z (B.kU (l:=hS v d c) (hacc) Z Z ⟨rfl,rfl,rfl,rfl,trivial⟩ rfl rfl) (E Z (B.jj Z (fun l=>Frz.boxN l Z) Z) (Cp Z Z (fun h1=>?_) (fun h1=>?_))))
 ·exact absurd hb h1
 refine C Z (w156 e (by omega) (by omega)) Z Z Z (E Z (B.jj (val:=.pv (.slice (List.map eE [e]))) (val0:=.aref 1025 0) (m0:=[(1025,.arr 0 5 119 [[pI e.1,pS (bsO e.2.1),pL eN e.2.2.1,pL eI e.2.2.2.1,pS (bsO e.2.2.2.2)]])]) (rd:=[]) (by kernel_rfl) (fun l=>Frz.arr l _ _ _ _ _) Z) (E Z (B.append Z Z Z jt in119 Z (fun _=>rfl) by119 (by (simp only[za,zb,zd];omega))) (E Z (B.storeR Z Z Z Z sz121 Z Z) (Dr Z (by kernel_rfl) (E Z (B.seqB (a:=e.2.1) (b:=[117,110,100,111]) Z Z) (Cp Z Z (fun h2=>?_) (fun h2=>?_)))))))
 ·refine E Z (B.lenA Z Z jt) (E Z (B.sub Z Z (by unfold R64;omega)) ?_)
  have hcp:=ap_pos hb h2
  refine E Z (B.slA (n:=(c.length-1)) Z Z Z jt kJ (by omega) (by omega)) (E Z (B.slA (n:=(c.length-1)) Z Z Z un265 sz154 (by omega) (by omega)) ?_)
  refine Ek 2 Z (B.storeT (enc:=eE) (l:=c) Z Z Z Z sz121 Z Z) ?_
  refine Ek 2 Z (B.storeT (enc:=eR) (l:=(regs c)) Z Z Z Z sz265 Z Z) ?_
  refine Dr Z (by kernel_rfl) ?_
  refine Rt Z ?_
  exact Zh (val0:=vI 0) (out0:=[(903,.arr (v+1) 9 154 (List.map eR (List.take (c.length-1) (regs c)))),(902,.arr (v+1) 5 119 (List.map eE (List.take (c.length-1) c))),(901,.arr (v+1) 5 119 (List.map eE (d++[e]))),(14,.box 267 [.aref 901 (v+1),.aref 902 (v+1),.aref 903 (v+1)])]) (.inr Z) (by kernel_rfl) Z (by rw[hO,regs_und h2,new_und h2])
 refine C Z (w156 e (by omega) (by omega)) Z Z Z (E Z (B.jj (val:=.pv (.slice (List.map eE [e]))) (val0:=.aref 1064 0) (m0:=[(1064,.arr 0 5 119 [[pI e.1,pS (bsO e.2.1),pL eN e.2.2.1,pL eI e.2.2.2.1,pS (bsO e.2.2.2.2)]])]) (rd:=[]) (by kernel_rfl) (fun l=>Frz.arr l _ _ _ _ _) Z) (E Z (B.append Z Z Z jt in119 Z (fun _=>rfl) by119 (by (simp only[za,zb,zd];omega))) (E Z (B.jj (val:=.pv (.slice (List.map eR [(jQ (d.length) c e).1]))) (val0:=.aref 1071 0) (m0:=[(1071,.arr 0 9 154 [[pI (jQ (d.length) c e).1.1,pS (bsO (jQ (d.length) c e).1.2.1.1),pI (jQ (d.length) c e).1.2.1.2.1,pB (jQ (d.length) c e).1.2.1.2.2.1,pB (jQ (d.length) c e).1.2.1.2.2.2,pL eT (jQ (d.length) c e).1.2.2.1,pL eN (jQ (d.length) c e).1.2.2.2.1,pL eD (jQ (d.length) c e).1.2.2.2.2.1,pL eP (jQ (d.length) c e).1.2.2.2.2.2]])]) (rd:=[]) (by kernel_rfl) (fun l=>Frz.arr l _ _ _ _ _) Z) (E Z (B.append Z Z Z un265 in154 Z (fun _=>rfl) by154 (by (simp only[za,zb,zd];omega))) (E Z (B.storeR Z Z Z Z sz121 Z Z) (E Z (B.storeR Z Z Z Z sz265 Z Z) (Dr Z (by kernel_rfl) ?_)))))))
 refine Rt Z ?_
 exact Zh (val0:=vI 0) (out0:=[(903,.arr (v+1) 9 154 (List.map eR ((regs c)++[(jQ (d.length) c e).1]))),(902,.arr (v+1) 5 119 (List.map eE (c++[e]))),(901,.arr (v+1) 5 119 (List.map eE (d++[e]))),(14,.box 267 [.aref 901 (v+1),.aref 902 (v+1),.aref 903 (v+1)])]) (.inr Z) (by kernel_rfl) Z (by rw[hO,regs_add hb h2,new_add h2])
end Go.Lens.Tm
end
section
namespace Go.Lens.Tm
open Go.Lens.Tb Go.Proofs
variable [Lz]
set_option maxRecDepth 100000
attribute [local irreducible] TK PK T RG EfR Body CG
noncomputable def rf146:Array Tmp×Code×Code:=(rfOf (fn146.body.getD .skip)).getD (#[],.skip,.skip)
noncomputable def ps146:Array Tmp:=rf146.1
noncomputable def as146:Code:=rf146.2.1
noncomputable def bo146:Code:=rf146.2.2
noncomputable abbrev rY (us:List Value) (fn:FuncId) (D:Nat) (st:LoopState) (pe:Option Code):MO:=.obj (recL fn us ps146 as146 bo146 D st pe)
abbrev dsY:List DV:=[.dead,.dead,.bref 3 0,.bref 4 0,.bref 5 0,.bref 6 0,.dead,.dead,.dead,.dead,.dead,.dead,.dead,.dead,.dead,.dead,.dead,.dead,.dead,.dead,.dead,.dead,.dead,.dead,.dead,.dead,.dead,.dead,.dead,.dead]
abbrev oX (i b:Int) (v:Nat) (E C:List Ev):List (Nat×MO):=[(3,.box 243 [.pv (.lit (.pointer none))]),(4,.box 3 [vI i]),(5,.box 34 [vI b]),(6,.box 243 [.bref 14 0]),(14,.box 267 [.aref 901 v,.aref 902 v,.aref 903 v]),(901,.arr v 5 119 (List.map eE E)),(902,.arr v 5 119 (List.map eE C)),(903,.arr v 9 154 (List.map eR (regs C)))]
theorem asgW [Fc] (us:List Value) (fn:FuncId) (D v:Nat) (d c:List Ev) (i:Int) (e:Ev):TK Tryz.prog 30 2001 (fun e' s'=>e'=.normal/\Sub 2001 s' ⟨[(2,.bref 3 0),(3,.bref 4 0),(4,.bref 5 0),(5,.bref 6 0),(6,vI i),(7,.bref 2008 0)],[(3,.box 243 [.pv (.lit (.pointer none))]),(4,.box 3 [vI 0]),(5,.box 34 [vI 0]),(6,.box 243 [.bref 14 0]),(14,.box 267 [.aref 901 v,.aref 902 v,.aref 903 v]),(901,.arr v 5 119 (List.map eE d)),(902,.arr v 5 119 (List.map eE c)),(903,.arr v 9 154 (List.map eR (regs c))),(950,rY us fn D .ready none),(2008,.box 119 [vI e.1,vS (bsO e.2.1),vL eN e.2.2.1,vL eI e.2.2.2.1,vS (bsO e.2.2.2.2)])]⟩) as146 [] ⟨[(2,.bref 3 0),(3,.bref 4 0),(4,.bref 5 0),(5,.bref 6 0),(16,vI i),(17,.pv (.agg [pI e.1,pS (bsO e.2.1),pL eN e.2.2.1,pL eI e.2.2.2.1,pS (bsO e.2.2.2.2)]))],[(3,.box 243 [.pv (.lit (.pointer none))]),(4,.box 3 [vI 0]),(5,.box 34 [vI 0]),(6,.box 243 [.bref 14 0]),(14,.box 267 [.aref 901 v,.aref 902 v,.aref 903 v]),(901,.arr v 5 119 (List.map eE d)),(902,.arr v 5 119 (List.map eE c)),(903,.arr v 9 154 (List.map eR (regs c))),(950,rY us fn D .ready none)]⟩:=by
 exact kc (E Z (B.jj Z (fun l=>Frz.boxN l Z) Z) (Rn Z ⟨rfl,sb Z Z rfl⟩))
theorem bodA [Fc] (hp:qH) (he:je) (hm:HMa) (hj:jE) (hj2:jl) (us:List Value) (fn:FuncId) (D v:Nat) (d c:List Ev) (i:Int) (e:Ev) (hsz:e.2.2.2.2.length<=4000/\e.2.2.1.length<=1000000/\e.2.2.2.1.length<=1000000) (hb:jp e≠0):TK Tryz.prog 30 2001 (fun e' s'=>e'=.ret/\Sub 2001 s' ⟨[],(950,rY us fn D .busy none)::oX i (jp e) v d c⟩) bo146 [] ⟨[(2,.bref 3 0),(3,.bref 4 0),(4,.bref 5 0),(5,.bref 6 0),(6,vI i),(7,.bref 2008 0)],[(3,.box 243 [.pv (.lit (.pointer none))]),(4,.box 3 [vI 0]),(5,.box 34 [vI 0]),(6,.box 243 [.bref 14 0]),(14,.box 267 [.aref 901 v,.aref 902 v,.aref 903 v]),(901,.arr v 5 119 (List.map eE d)),(902,.arr v 5 119 (List.map eE c)),(903,.arr v 9 154 (List.map eR (regs c))),(950,rY us fn D .busy none),(2008,.box 119 [vI e.1,vS (bsO e.2.1),vL eN e.2.2.1,vL eI e.2.2.2.1,vS (bsO e.2.2.2.2)])]⟩:=by
 refine kc (C Z (w81 hp he hm hj hj2 e hsz.1 (by omega) (by omega)) Z Z Z (Cp Z Z (fun h1=>?_) (fun h1=>?_)))
 ·exact absurd h1 hb
 refine Cp Z Z (fun h2=>?_) (fun h2=>?_)
 ·exact Rt Z ⟨rfl,sb Z Z rfl⟩
 exact absurd hb h2
theorem bodB [Fc] (hp:qH) (he:je) (hm:HMa) (hj:jE) (hj2:jl) (us:List Value) (fn:FuncId) (D v:Nat) (d c:List Ev) (i:Int) (e:Ev) (hsz:e.2.2.2.2.length<=4000/\e.2.2.1.length<=1000000/\e.2.2.2.1.length<=1000000) (hc:jp e=0) (hb:(jQ (d.length) c e).2≠0) (h196:q6 Tryz.prog 196 [.bref 14 0,.pv (gV e)] (qx (hS v d c)) (vI (jQ (d.length) c e).2) (hO v d c)):TK Tryz.prog 30 2001 (fun e' s'=>e'=.ret/\Sub 2001 s' ⟨[],(950,rY us fn D .busy none)::oX i (jQ (d.length) c e).2 v d c⟩) bo146 [] ⟨[(2,.bref 3 0),(3,.bref 4 0),(4,.bref 5 0),(5,.bref 6 0),(6,vI i),(7,.bref 2008 0)],[(3,.box 243 [.pv (.lit (.pointer none))]),(4,.box 3 [vI 0]),(5,.box 34 [vI 0]),(6,.box 243 [.bref 14 0]),(14,.box 267 [.aref 901 v,.aref 902 v,.aref 903 v]),(901,.arr v 5 119 (List.map eE d)),(902,.arr v 5 119 (List.map eE c)),(903,.arr v 9 154 (List.map eR (regs c))),(950,rY us fn D .busy none),(2008,.box 119 [vI e.1,vS (bsO e.2.1),vL eN e.2.2.1,vL eI e.2.2.2.1,vS (bsO e.2.2.2.2)])]⟩:=by
 refine kc (C Z (w81 hp he hm hj hj2 e hsz.1 (by omega) (by omega)) Z Z Z (Cp Z Z (fun h1=>?_) (fun h1=>?_)))
 ·refine E Z (B.kU (l:=hS v d c) (h196) Z Z ⟨rfl,rfl,rfl,rfl,trivial⟩ rfl rfl) (Cp Z Z (fun h2=>?_) (fun h2=>?_))
  ·exact Rt Z ⟨rfl,sb Z Z rfl⟩
  exact absurd hb h2
 exact absurd hc h1
theorem bodY [Fc] (hp:qH) (he:je) (hm:HMa) (hj:jE) (hj2:jl) (us:List Value) (fn:FuncId) (D v:Nat) (d c:List Ev) (i:Int) (e:Ev) (hsz:e.2.2.2.2.length<=4000/\e.2.2.1.length<=1000000/\e.2.2.2.1.length<=1000000) (hc:jp e=0) (h196:q6 Tryz.prog 196 [.bref 14 0,.pv (gV e)] (qx (hS v d c)) (vI 0) (hO (v+1) (d++[e]) (newC c e))):TK Tryz.prog 30 2001 (fun e' s'=>e'=.normal/\Sub 2001 s' ⟨[],(950,rY us fn D .busy none)::oX 0 0 (v+1) (d++[e]) (newC c e)⟩) bo146 [] ⟨[(2,.bref 3 0),(3,.bref 4 0),(4,.bref 5 0),(5,.bref 6 0),(6,vI i),(7,.bref 2008 0)],[(3,.box 243 [.pv (.lit (.pointer none))]),(4,.box 3 [vI 0]),(5,.box 34 [vI 0]),(6,.box 243 [.bref 14 0]),(14,.box 267 [.aref 901 v,.aref 902 v,.aref 903 v]),(901,.arr v 5 119 (List.map eE d)),(902,.arr v 5 119 (List.map eE c)),(903,.arr v 9 154 (List.map eR (regs c))),(950,rY us fn D .busy none),(2008,.box 119 [vI e.1,vS (bsO e.2.1),vL eN e.2.2.1,vL eI e.2.2.2.1,vS (bsO e.2.2.2.2)])]⟩:=by
 refine kc (C Z (w81 hp he hm hj hj2 e hsz.1 (by omega) (by omega)) Z Z Z (Cp Z Z (fun h1=>?_) (fun h1=>?_)))
 ·refine E Z (B.kU (l:=hS v d c) (h196) Z Z ⟨rfl,rfl,rfl,rfl,trivial⟩ rfl rfl) (Cp Z Z (fun h2=>?_) (fun h2=>?_))
  ·exact absurd Z h2
  exact Rn Z ⟨rfl,sb Z Z rfl⟩
 exact absurd hc h1
theorem ylA (hp:qH) (he:je) (hm:HMa) (hj:jE) (hj2:jl) (us:List Value) (fn:FuncId) (D v:Nat) (d c:List Ev) (i:Int) (e:Ev) (hu:us.length=30) (hsz:e.2.2.2.2.length<=4000/\e.2.2.1.length<=1000000/\e.2.2.2.1.length<=1000000) (hb:jp e≠0):YldOk Tryz.prog 950 us dsY [vI i,.pv (gV e)] (qx ((950,rY us fn D .ready none)::oX 0 0 v d c)) (lit (.bool false)) ((950,rY us fn D .done (some .ret))::oX i (jp e) v d c):=
 YldOk.of (n:=30) (nb:=2001) (tm1:=[(2,.bref 3 0),(3,.bref 4 0),(4,.bref 5 0),(5,.bref 6 0),(6,vI i),(7,.bref 2008 0)]) (l1:=[(3,.box 243 [.pv (.lit (.pointer none))]),(4,.box 3 [vI 0]),(5,.box 34 [vI 0]),(6,.box 243 [.bref 14 0]),(14,.box 267 [.aref 901 v,.aref 902 v,.aref 903 v]),(901,.arr v 5 119 (List.map eE d)),(902,.arr v 5 119 (List.map eE c)),(903,.arr v 9 154 (List.map eR (regs c))),(950,rY us fn D .ready none),(2008,.box 119 [vI e.1,vS (bsO e.2.1),vL eN e.2.2.1,vL eI e.2.2.2.1,vS (bsO e.2.2.2.2)])]) (ps:=ps146) (assign:=as146) (body:=bo146) false hu Z (by decide) (allLt Z) Z rfl
  (fun r=>letI ic:Fc:=⟨some r⟩;TK.start (TK.norm ⟨[(2,.bref 3 0),(3,.bref 4 0),(4,.bref 5 0),(5,.bref 6 0),(16,vI i),(17,.pv (.agg [pI e.1,pS (bsO e.2.1),pL eN e.2.2.1,pL eI e.2.2.2.1,pS (bsO e.2.2.2.2)]))],[(3,.box 243 [.pv (.lit (.pointer none))]),(4,.box 3 [vI 0]),(5,.box 34 [vI 0]),(6,.box 243 [.bref 14 0]),(14,.box 267 [.aref 901 v,.aref 902 v,.aref 903 v]),(901,.arr v 5 119 (List.map eE d)),(902,.arr v 5 119 (List.map eE c)),(903,.arr v 9 154 (List.map eR (regs c))),(950,rY us fn D .ready none)]⟩ (sb Z Z Z) (asgW us fn D v d c i e))) rfl
  (fun r=>letI ic:Fc:=⟨some r⟩;TK.start (TK.norm ⟨[(2,.bref 3 0),(3,.bref 4 0),(4,.bref 5 0),(5,.bref 6 0),(6,vI i),(7,.bref 2008 0)],[(3,.box 243 [.pv (.lit (.pointer none))]),(4,.box 3 [vI 0]),(5,.box 34 [vI 0]),(6,.box 243 [.bref 14 0]),(14,.box 267 [.aref 901 v,.aref 902 v,.aref 903 v]),(901,.arr v 5 119 (List.map eE d)),(902,.arr v 5 119 (List.map eE c)),(903,.arr v 9 154 (List.map eR (regs c))),(950,rY us fn D .busy none),(2008,.box 119 [vI e.1,vS (bsO e.2.1),vL eN e.2.2.1,vL eI e.2.2.2.1,vS (bsO e.2.2.2.2)])]⟩ (sb Z Z Z) (bodA hp he hm hj hj2 us fn D v d c i e hsz hb))) (allNe Z) (ndM_ok Z) Z rfl
theorem ylB (hp:qH) (he:je) (hm:HMa) (hj:jE) (hj2:jl) (us:List Value) (fn:FuncId) (D v:Nat) (d c:List Ev) (i:Int) (e:Ev) (hu:us.length=30) (hsz:e.2.2.2.2.length<=4000/\e.2.2.1.length<=1000000/\e.2.2.2.1.length<=1000000) (hc:jp e=0) (hb:(jQ (d.length) c e).2≠0) (h196:q6 Tryz.prog 196 [.bref 14 0,.pv (gV e)] (qx (hS v d c)) (vI (jQ (d.length) c e).2) (hO v d c)):YldOk Tryz.prog 950 us dsY [vI i,.pv (gV e)] (qx ((950,rY us fn D .ready none)::oX 0 0 v d c)) (lit (.bool false)) ((950,rY us fn D .done (some .ret))::oX i (jQ (d.length) c e).2 v d c):=
 YldOk.of (n:=30) (nb:=2001) (tm1:=[(2,.bref 3 0),(3,.bref 4 0),(4,.bref 5 0),(5,.bref 6 0),(6,vI i),(7,.bref 2008 0)]) (l1:=[(3,.box 243 [.pv (.lit (.pointer none))]),(4,.box 3 [vI 0]),(5,.box 34 [vI 0]),(6,.box 243 [.bref 14 0]),(14,.box 267 [.aref 901 v,.aref 902 v,.aref 903 v]),(901,.arr v 5 119 (List.map eE d)),(902,.arr v 5 119 (List.map eE c)),(903,.arr v 9 154 (List.map eR (regs c))),(950,rY us fn D .ready none),(2008,.box 119 [vI e.1,vS (bsO e.2.1),vL eN e.2.2.1,vL eI e.2.2.2.1,vS (bsO e.2.2.2.2)])]) (ps:=ps146) (assign:=as146) (body:=bo146) false hu Z (by decide) (allLt Z) Z rfl
  (fun r=>letI ic:Fc:=⟨some r⟩;TK.start (TK.norm ⟨[(2,.bref 3 0),(3,.bref 4 0),(4,.bref 5 0),(5,.bref 6 0),(16,vI i),(17,.pv (.agg [pI e.1,pS (bsO e.2.1),pL eN e.2.2.1,pL eI e.2.2.2.1,pS (bsO e.2.2.2.2)]))],[(3,.box 243 [.pv (.lit (.pointer none))]),(4,.box 3 [vI 0]),(5,.box 34 [vI 0]),(6,.box 243 [.bref 14 0]),(14,.box 267 [.aref 901 v,.aref 902 v,.aref 903 v]),(901,.arr v 5 119 (List.map eE d)),(902,.arr v 5 119 (List.map eE c)),(903,.arr v 9 154 (List.map eR (regs c))),(950,rY us fn D .ready none)]⟩ (sb Z Z Z) (asgW us fn D v d c i e))) rfl
  (fun r=>letI ic:Fc:=⟨some r⟩;TK.start (TK.norm ⟨[(2,.bref 3 0),(3,.bref 4 0),(4,.bref 5 0),(5,.bref 6 0),(6,vI i),(7,.bref 2008 0)],[(3,.box 243 [.pv (.lit (.pointer none))]),(4,.box 3 [vI 0]),(5,.box 34 [vI 0]),(6,.box 243 [.bref 14 0]),(14,.box 267 [.aref 901 v,.aref 902 v,.aref 903 v]),(901,.arr v 5 119 (List.map eE d)),(902,.arr v 5 119 (List.map eE c)),(903,.arr v 9 154 (List.map eR (regs c))),(950,rY us fn D .busy none),(2008,.box 119 [vI e.1,vS (bsO e.2.1),vL eN e.2.2.1,vL eI e.2.2.2.1,vS (bsO e.2.2.2.2)])]⟩ (sb Z Z Z) (bodB hp he hm hj hj2 us fn D v d c i e hsz hc hb h196))) (allNe Z) (ndM_ok Z) Z rfl
theorem ylY (hp:qH) (he:je) (hm:HMa) (hj:jE) (hj2:jl) (us:List Value) (fn:FuncId) (D v:Nat) (d c:List Ev) (i:Int) (e:Ev) (hu:us.length=30) (hsz:e.2.2.2.2.length<=4000/\e.2.2.1.length<=1000000/\e.2.2.2.1.length<=1000000) (hc:jp e=0) (h196:q6 Tryz.prog 196 [.bref 14 0,.pv (gV e)] (qx (hS v d c)) (vI 0) (hO (v+1) (d++[e]) (newC c e))):YldOk Tryz.prog 950 us dsY [vI i,.pv (gV e)] (qx ((950,rY us fn D .ready none)::oX 0 0 v d c)) (lit (.bool true)) ((950,rY us fn D .ready none)::oX 0 0 (v+1) (d++[e]) (newC c e)):=
 YldOk.of (n:=30) (nb:=2001) (tm1:=[(2,.bref 3 0),(3,.bref 4 0),(4,.bref 5 0),(5,.bref 6 0),(6,vI i),(7,.bref 2008 0)]) (l1:=[(3,.box 243 [.pv (.lit (.pointer none))]),(4,.box 3 [vI 0]),(5,.box 34 [vI 0]),(6,.box 243 [.bref 14 0]),(14,.box 267 [.aref 901 v,.aref 902 v,.aref 903 v]),(901,.arr v 5 119 (List.map eE d)),(902,.arr v 5 119 (List.map eE c)),(903,.arr v 9 154 (List.map eR (regs c))),(950,rY us fn D .ready none),(2008,.box 119 [vI e.1,vS (bsO e.2.1),vL eN e.2.2.1,vL eI e.2.2.2.1,vS (bsO e.2.2.2.2)])]) (ps:=ps146) (assign:=as146) (body:=bo146) true hu Z (by decide) (allLt Z) Z rfl
  (fun r=>letI ic:Fc:=⟨some r⟩;TK.start (TK.norm ⟨[(2,.bref 3 0),(3,.bref 4 0),(4,.bref 5 0),(5,.bref 6 0),(16,vI i),(17,.pv (.agg [pI e.1,pS (bsO e.2.1),pL eN e.2.2.1,pL eI e.2.2.2.1,pS (bsO e.2.2.2.2)]))],[(3,.box 243 [.pv (.lit (.pointer none))]),(4,.box 3 [vI 0]),(5,.box 34 [vI 0]),(6,.box 243 [.bref 14 0]),(14,.box 267 [.aref 901 v,.aref 902 v,.aref 903 v]),(901,.arr v 5 119 (List.map eE d)),(902,.arr v 5 119 (List.map eE c)),(903,.arr v 9 154 (List.map eR (regs c))),(950,rY us fn D .ready none)]⟩ (sb Z Z Z) (asgW us fn D v d c i e))) rfl
  (fun r=>letI ic:Fc:=⟨some r⟩;TK.start (TK.norm ⟨[(2,.bref 3 0),(3,.bref 4 0),(4,.bref 5 0),(5,.bref 6 0),(6,vI i),(7,.bref 2008 0)],[(3,.box 243 [.pv (.lit (.pointer none))]),(4,.box 3 [vI 0]),(5,.box 34 [vI 0]),(6,.box 243 [.bref 14 0]),(14,.box 267 [.aref 901 v,.aref 902 v,.aref 903 v]),(901,.arr v 5 119 (List.map eE d)),(902,.arr v 5 119 (List.map eE c)),(903,.arr v 9 154 (List.map eR (regs c))),(950,rY us fn D .busy none),(2008,.box 119 [vI e.1,vS (bsO e.2.1),vL eN e.2.2.1,vL eI e.2.2.2.1,vS (bsO e.2.2.2.2)])]⟩ (sb Z Z Z) (bodY hp he hm hj hj2 us fn D v d c i e hsz hc h196))) (allNe Z) (ndM_ok Z) Z rfl
def cntB:Nat->List Ev->List Ev->List Ev
 | _,C,[]=>C
 | n,C,e::l=>if jp e≠0 then C else if (jQ n C e).2≠0 then C else cntB (n+1) (newC C e) l
section
variable {k:Nat} {c:List Ev} {l:List Ev} {z:List Ev} {y:List Ev×Nat×Int}
theorem cb_at (hk:k<l.length):cntB k c (l.drop k)=if jp (l.getD k zV)≠0 then c else if (jQ k c (l.getD k zV)).2≠0 then c else cntB (k+1) (newC c (l.getD k zV)) (l.drop (k+1)):=by rw[drop_at l k zV hk,cntB]
theorem cb_bad (h:z=cntB k c (l.drop k)) (hk:k<l.length) (h1:jp (l.getD k zV)≠0):z=c:=by rw[h,cb_at hk,if_pos h1]
theorem cb_no (h:z=cntB k c (l.drop k)) (hk:k<l.length) (h1:jp (l.getD k zV)=0) (h2:(jQ k c (l.getD k zV)).2≠0):z=c:=by rw[h,cb_at hk,if_neg (by rw[h1];simp),if_pos h2]
theorem cb_yes (h:z=cntB k c (l.drop k)) (hk:k<l.length) (h1:jp (l.getD k zV)=0) (h2:(jQ k c (l.getD k zV)).2=0):z=cntB (k+1) (newC c (l.getD k zV)) (l.drop (k+1)):=by rw[h,cb_at hk,if_neg (by rw[h1];simp),if_neg (by rw[h2];simp)]
theorem cg_both (h:y=cntG k c (l.drop k)) (hk:k<l.length) (hb:y.2.2=0):jp (l.getD k zV)=0/\(jQ k c (l.getD k zV)).2=0:=by
 by_cases h1:jp (l.getD k zV)=0
 ·refine⟨h1,?_⟩
  by_cases h2:(jQ k c (l.getD k zV)).2=0
  ·exact h2
  rw[cg_no h hk h1 h2] at hb;exact absurd hb h2
 rw[cg_bad h hk h1] at hb;exact absurd hb h1
theorem cg_three (e:Ev):jp e≠0\/(jp e=0/\(jQ k c e).2≠0)\/(jp e=0/\(jQ k c e).2=0):=by
 by_cases h1:jp e=0
 ·by_cases h2:(jQ k c e).2=0
  ·exact .inr (.inr ⟨h1,h2⟩)
  exact .inr (.inl ⟨h1,h2⟩)
 exact .inl h1
theorem take_nx (hk:k<l.length):l.take k++[l.getD k zV]=l.take (k+1):=by
 rw[List.take_succ_eq_append_getElem hk,ze,zm hk];rfl
end
def EvS (e:Ev):Prop:=e.2.2.2.2.length<=4000/\e.2.2.1.length<=1000000/\e.2.2.2.1.length<=1000000
theorem acc_ok (hp:qH) (he:je) (hm:HMa) {n v:Nat} {d c:List Ev} {e:Ev} (h:CntOk n c) (hn:n<=1000) (hd:d.length<=1000) (hv:jp e=0) (hT:e.2.2.2.2.length<=4000) :
  q6 Tryz.prog 160 [.bref 14 0,.pv (gV e)] (qx (hS v d c)) (.tup [.pv (gR (jQ d.length c e).1),vI (jQ d.length c e).2]) (hO v d c):=by
 have hc:c.length<=1000:=qi h.1 hn
 by_cases hu:e.2.1=Z5
 ·exact w160 hp hm v d c e 0 0 0 (.lit .nilFunc) hd hc fun h=>absurd hu h
 obtain⟨a,b,z,F,h1,h2⟩:=effW he hp hm (regF_ok h) hn hv hu hT
 have hl:1<=e.2.2.2.1.length:=by
  rcases ve_kind hv hu with hk|hk|hk|hk|hk
  ·have:=len_tar hv hk;omega
  ·have:=len_act hv hk;omega
  ·have:=len_run hv hk;omega
  ·have:=len_obs hv hk;omega
  have:=len_cal hv hk;omega
 exact w160 hp hm v d c e F a b z hd hc fun _=>⟨hl,h1,h2⟩
section
variable (hp:qH) (he:je) (hm:HMa) (hj:jE) (hj2:jl) (us:List Value) (fn:FuncId) (D v:Nat) (d c:List Ev) (i:Int) (e:Ev) (hu:us.length=30) (hsz:EvS e)
include hp he hm hj hj2 hu hsz
theorem rdA (hb:jp e≠0):YldOk Tryz.prog 950 us dsY [vI i,.pv (gV e)] (qx ((950,rY us fn D .ready none)::oX 0 0 v d c)) (lit (.bool false)) ((950,rY us fn D .done (some .ret))::oX i (jp e) v d c):=ylA hp he hm hj hj2 us fn D v d c i e hu hsz hb
theorem rdB (h:CntOk d.length c) (hd:d.length<=1000) (hc:jp e=0) (hb:(jQ d.length c e).2≠0):YldOk Tryz.prog 950 us dsY [vI i,.pv (gV e)] (qx ((950,rY us fn D .ready none)::oX 0 0 v d c)) (lit (.bool false)) ((950,rY us fn D .done (some .ret))::oX i (jQ d.length c e).2 v d c):=
 ylB hp he hm hj hj2 us fn D v d c i e hu hsz hc hb (w196n v d c e hd (qi h.1 hd) hsz.2.1 hsz.2.2 (acc_ok hp he hm h hd hd hc hsz.1) hb)
theorem rdY (h:CntOk d.length c) (hd:d.length<=1000) (hc:jp e=0) (hb:(jQ d.length c e).2=0):YldOk Tryz.prog 950 us dsY [vI i,.pv (gV e)] (qx ((950,rY us fn D .ready none)::oX 0 0 v d c)) (lit (.bool true)) ((950,rY us fn D .ready none)::oX 0 0 (v+1) (d++[e]) (newC c e)):=
 ylY hp he hm hj hj2 us fn D v d c i e hu hsz hc (w196y v d c e hd (qi h.1 hd) hsz.2.1 hsz.2.2 (acc_ok hp he hm h hd hd hc hsz.1) hb)
end
theorem w267y (hp:qH) (he:je) (hm:HMa) (hj:jE) (hj2:jl) (us:List Value) (fn:FuncId) (D:Nat) (l:List Ev) (hu:us.length=30) (hl:l.length<=1000) (hZ:∀ e∈l,EvS e) (hb:Prod.snd (cntF l).2=0):q6 Tryz.prog 267 [.yld 950 us dsY,.pv (.box [pL eE l])] (qx ((950,rY us fn D .ready none)::oX 0 0 0 [] [])) (.tup []) (List.reverse ((950,rY us fn D .ready none)::oX 0 0 (l.length) l (cntF l).1)):=by
 refine cL 1001 ((950,rY us fn D .ready none)::oX 0 0 0 [] []) qf267 Z (nB Z) Z Z (kc (E Z (B.jh Z jt) (l3 (fun (k:Nat) (d:List Ev) (c:List Ev)=>[(0,.yld 950 us dsY),(5,vL eE l),(6,vI l.length),(7,vI k)]) (fun k d c=>[(3,.box 243 [.pv (.lit (.pointer none))]),(4,.box 3 [vI 0]),(5,.box 34 [vI 0]),(6,.box 243 [.bref 14 0]),(14,.box 267 [.aref 901 k,.aref 902 k,.aref 903 k]),(901,.arr k 5 119 (List.map eE d)),(902,.arr k 5 119 (List.map eE c)),(903,.arr k 9 154 (List.map eR (regs c))),(950,rY us fn D .ready none)]) (fun k d c=>k<=l.length/\d=List.take k l/\cntF l=cntG k c (List.drop k l)/\CntOk k c/\cntB 0 [] l=cntB k c (List.drop k l)) (fun k _ _=>l.length-k) 0 [] [] Z ?_ (sb Z Z Z) ?_)))
 · exact⟨zq _,rfl,rfl,cnt_nil,rfl⟩
 intro k d c hI0
 refine Cp Z Z (fun h1=>?_) (fun h1=>?_)
 ·refine E Z (B.idx (z:=zV) (i:=k) Z Z jt kJ (fun _=>rfl) Z (by omega)) (E Z (B.jj Z (fun l=>Frz.boxN l Z) Z) ?_)
  have hkl:k<l.length:=by omega
  have hdl:d.length=k:=by rw[hI0.2.1,zn];omega
  have hsz:=hZ _ (getD_mem (z:=zV) hkl)
  have hco:=hI0.2.2.2.1
  obtain⟨hc0,ha0⟩:=cg_both hI0.2.2.1 hkl hb
  refine E Z (B.add Z Z (by unfold R64;omega)) (E Z (B.yieldS (l:=(950,rY us fn D .ready none)::oX 0 0 k d c) (rdY hp he hm hj hj2 us fn D k d c ((k:Int)+1) (l.getD k zV) hu hsz (by rw[hdl];exact hco) (by omega) hc0 (by rw[hdl];exact ha0)) Z Z ⟨rfl,rfl,rfl,rfl,rfl,rfl,rfl,rfl,rfl,trivial⟩ rfl rfl) (Cb Z Z (fun h2=>?_) (fun h2=>?_)))
  ·exact absurd h2 (by decide)
  refine E Z (B.add Z Z (by unfold R64;omega)) (pk Z (L3 (k+1) (d++[(l.getD k zV)]) (newC c (l.getD k zV)) ?_ ?_ (sb Z Z Z)))
  · (exact⟨by omega,by rw[hI0.2.1];exact take_nx hkl,(cg_yes ⟨hI0.2.2.1,hco⟩ hkl hc0 ha0).1,(cg_yes ⟨hI0.2.2.1,hco⟩ hkl hc0 ha0).2,cb_yes hI0.2.2.2.2 hkl hc0 ha0⟩)
  · omega
 refine Rn Z ?_
 have hq:=cg_end hI0.2.2.1 (by omega)
 have hk:k=l.length:=by omega
 have hd2:d=l:=by rw[hI0.2.1,hk,List.take_length]
 exact Zh (val0:=.tup []) (out0:=[(903,.arr k 9 154 (List.map eR (regs c))),(902,.arr k 5 119 (List.map eE c)),(901,.arr k 5 119 (List.map eE d)),(14,.box 267 [.aref 901 k,.aref 902 k,.aref 903 k]),(6,.box 243 [.bref 14 0]),(5,.box 34 [vI 0]),(4,.box 3 [vI 0]),(3,.box 243 [.pv (.lit (.pointer none))]),(950,rY us fn D .ready none)]) (.inl Z) (by kernel_rfl) Z (by rw[hq,hd2,hk]<;>rfl)
theorem w267n (hp:qH) (he:je) (hm:HMa) (hj:jE) (hj2:jl) (us:List Value) (fn:FuncId) (D:Nat) (l:List Ev) (hu:us.length=30) (hl:l.length<=1000) (hZ:∀ e∈l,EvS e) (hb:Prod.snd (cntF l).2≠0):q6 Tryz.prog 267 [.yld 950 us dsY,.pv (.box [pL eE l])] (qx ((950,rY us fn D .ready none)::oX 0 0 0 [] [])) (.tup []) (List.reverse ((950,rY us fn D .done (some .ret))::oX (((Prod.fst (cntF l).2:Nat)):Int) (cntF l).2.2 (Prod.fst (cntF l).2-1) (List.take (Prod.fst (cntF l).2-1) l) (cntB 0 [] l))):=by
 refine cL 1001 ((950,rY us fn D .ready none)::oX 0 0 0 [] []) qf267 Z (nB Z) Z Z (kc (E Z (B.jh Z jt) (l3 (fun (k:Nat) (d:List Ev) (c:List Ev)=>[(0,.yld 950 us dsY),(5,vL eE l),(6,vI l.length),(7,vI k)]) (fun k d c=>[(3,.box 243 [.pv (.lit (.pointer none))]),(4,.box 3 [vI 0]),(5,.box 34 [vI 0]),(6,.box 243 [.bref 14 0]),(14,.box 267 [.aref 901 k,.aref 902 k,.aref 903 k]),(901,.arr k 5 119 (List.map eE d)),(902,.arr k 5 119 (List.map eE c)),(903,.arr k 9 154 (List.map eR (regs c))),(950,rY us fn D .ready none)]) (fun k d c=>k<=l.length/\d=List.take k l/\cntF l=cntG k c (List.drop k l)/\CntOk k c/\cntB 0 [] l=cntB k c (List.drop k l)) (fun k _ _=>l.length-k) 0 [] [] Z ?_ (sb Z Z Z) ?_)))
 · exact⟨zq _,rfl,rfl,cnt_nil,rfl⟩
 intro k d c hI0
 refine Cp Z Z (fun h1=>?_) (fun h1=>?_)
 ·refine E Z (B.idx (z:=zV) (i:=k) Z Z jt kJ (fun _=>rfl) Z (by omega)) (E Z (B.jj Z (fun l=>Frz.boxN l Z) Z) ?_)
  rcases cg_three (k:=k) (c:=c) (l.getD k zV) with hcA|⟨hc0,haB⟩|⟨hc0,ha0⟩
  ·have hkl:k<l.length:=by omega
   have hdl:d.length=k:=by rw[hI0.2.1,zn];omega
   have hsz:=hZ _ (getD_mem (z:=zV) hkl)
   have hco:=hI0.2.2.2.1
   refine E Z (B.add Z Z (by unfold R64;omega)) (E Z (B.yieldS (l:=(950,rY us fn D .ready none)::oX 0 0 k d c) (rdA hp he hm hj hj2 us fn D k d c ((k:Int)+1) (l.getD k zV) hu hsz hcA) Z Z ⟨rfl,rfl,rfl,rfl,rfl,rfl,rfl,rfl,rfl,trivial⟩ rfl rfl) (Cb Z Z (fun h2=>?_) (fun h2=>?_)))
   ·refine Rt Z ?_
    exact Zh (val0:=.tup []) (out0:=[(903,.arr k 9 154 (List.map eR (regs c))),(902,.arr k 5 119 (List.map eE c)),(901,.arr k 5 119 (List.map eE d)),(14,.box 267 [.aref 901 k,.aref 902 k,.aref 903 k]),(6,.box 243 [.bref 14 0]),(5,.box 34 [vI (jp (l.getD k zV))]),(4,.box 3 [vI ((k:Int)+1)]),(3,.box 243 [.pv (.lit (.pointer none))]),(950,rY us fn D .done (some .ret))]) (.inr Z) (by kernel_rfl) Z (by rw[cg_bad hI0.2.2.1 hkl hcA,cb_bad hI0.2.2.2.2 hkl hcA,hI0.2.1]<;>rfl)
   exact absurd h2 (by decide)
  ·have hkl:k<l.length:=by omega
   have hdl:d.length=k:=by rw[hI0.2.1,zn];omega
   have hsz:=hZ _ (getD_mem (z:=zV) hkl)
   have hco:=hI0.2.2.2.1
   refine E Z (B.add Z Z (by unfold R64;omega)) (E Z (B.yieldS (l:=(950,rY us fn D .ready none)::oX 0 0 k d c) (rdB hp he hm hj hj2 us fn D k d c ((k:Int)+1) (l.getD k zV) hu hsz (by rw[hdl];exact hco) (by omega) hc0 (by rw[hdl];exact haB)) Z Z ⟨rfl,rfl,rfl,rfl,rfl,rfl,rfl,rfl,rfl,trivial⟩ rfl rfl) (Cb Z Z (fun h3=>?_) (fun h3=>?_)))
   ·refine Rt Z ?_
    exact Zh (val0:=.tup []) (out0:=[(903,.arr k 9 154 (List.map eR (regs c))),(902,.arr k 5 119 (List.map eE c)),(901,.arr k 5 119 (List.map eE d)),(14,.box 267 [.aref 901 k,.aref 902 k,.aref 903 k]),(6,.box 243 [.bref 14 0]),(5,.box 34 [vI (jQ (d.length) c (l.getD k zV)).2]),(4,.box 3 [vI ((k:Int)+1)]),(3,.box 243 [.pv (.lit (.pointer none))]),(950,rY us fn D .done (some .ret))]) (.inr Z) (by kernel_rfl) Z (by rw[cg_no hI0.2.2.1 hkl hc0 haB,cb_no hI0.2.2.2.2 hkl hc0 haB,hdl,hI0.2.1]<;>rfl)
   exact absurd h3 (by decide)
  have hkl:k<l.length:=by omega
  have hdl:d.length=k:=by rw[hI0.2.1,zn];omega
  have hsz:=hZ _ (getD_mem (z:=zV) hkl)
  have hco:=hI0.2.2.2.1
  refine E Z (B.add Z Z (by unfold R64;omega)) (E Z (B.yieldS (l:=(950,rY us fn D .ready none)::oX 0 0 k d c) (rdY hp he hm hj hj2 us fn D k d c ((k:Int)+1) (l.getD k zV) hu hsz (by rw[hdl];exact hco) (by omega) hc0 (by rw[hdl];exact ha0)) Z Z ⟨rfl,rfl,rfl,rfl,rfl,rfl,rfl,rfl,rfl,trivial⟩ rfl rfl) (Cb Z Z (fun h4=>?_) (fun h4=>?_)))
  ·exact absurd h4 (by decide)
  refine E Z (B.add Z Z (by unfold R64;omega)) (pk Z (L3 (k+1) (d++[(l.getD k zV)]) (newC c (l.getD k zV)) ?_ ?_ (sb Z Z Z)))
  · (exact⟨by omega,by rw[hI0.2.1];exact take_nx hkl,(cg_yes ⟨hI0.2.2.1,hco⟩ hkl hc0 ha0).1,(cg_yes ⟨hI0.2.2.1,hco⟩ hkl hc0 ha0).2,cb_yes hI0.2.2.2.2 hkl hc0 ha0⟩)
  · omega
 exact absurd (by rw[cg_end hI0.2.2.1 (by omega)]) hb
set_option maxHeartbeats 4000000 in
theorem w195 (l:List Ev):CKa 195 [vL eE l] (.pv (.fn (.func 267) [] [.box [pL eE l]])):=by
 exact cG qf195 Z (nB Z) Z (Fb 1 1 Z Z Z Z (Rt Z (leaf Z Z)))
theorem w146y (hp:qH) (he:je) (hm:HMa) (hj:jE) (hj2:jl) (l:List Ev) (hl:l.length<=1000) (hZ:∀ e∈l,EvS e) (hb:Prod.snd (cntF l).2=0):q6 Tryz.prog 146 [vL eE l] (qx []) (.tup [.bref 14 0,vI 0,vI 0]) (hO (l.length) l (cntF l).1):=by
 refine cL 1 [] qf146 Z (nB Z) Z Z (kc (E Z (B.jh Z jt) (Cp Z Z (fun h1=>?_) (fun h1=>?_))))
 ·exact absurd h1 (by omega)
 refine E Z (B.run Z) (E Z (B.run Z) ?_)
 refine tk 4 Z ?_
 refine TK.adoptC 14 0 901 5 119 Z Z Z Z ?_
 refine TK.adoptC 14 1 902 5 119 Z Z Z Z ?_
 refine TK.adoptC 14 2 903 9 154 Z Z Z Z ?_
 refine TK.norm ⟨[(0,vL eE l),(2,.bref 3 0),(3,.bref 4 0),(4,.bref 5 0),(5,.bref 6 0)],[(3,.box 243 [.pv (.lit (.pointer none))]),(4,.box 3 [vI 0]),(5,.box 34 [vI 0]),(6,.box 243 [.bref 14 0]),(14,.box 267 [.aref 901 0,.aref 902 0,.aref 903 0]),(901,.arr 0 5 119 (List.map eE [])),(902,.arr 0 5 119 (List.map eE [])),(903,.arr 0 9 154 (List.map eR (regs [])))]⟩ (sb Z Z Z) ?_
 refine kc (C Z (w195 l) Z Z Z ?_)
 refine tk 9999 Z ?_
 refine TK.norm ⟨[(2,.bref 3 0),(3,.bref 4 0),(4,.bref 5 0),(5,.bref 6 0),(15,.pv (.fn (.func 267) [] [.box [pL eE l]]))],[(3,.box 243 [.pv (.lit (.pointer none))]),(4,.box 3 [vI 0]),(5,.box 34 [vI 0]),(6,.box 243 [.bref 14 0]),(14,.box 267 [.aref 901 0,.aref 902 0,.aref 903 0]),(901,.arr 0 5 119 (List.map eE [])),(902,.arr 0 5 119 (List.map eE [])),(903,.arr 0 9 154 (List.map eR (regs [])))]⟩ (sb Z Z Z) ?_
 refine TK.range (hl:=950) (ds:=dsY) (st:=.ready) (val:=.tup []) (out:=oX 0 0 (l.length) l (cntF l).1) false (fun a w=>Tryz.call267 a w) Z Z Z (fun i _=>agD0 (tm:=[(2,.bref 3 0),(3,.bref 4 0),(4,.bref 5 0),(5,.bref 6 0),(15,.pv (.fn (.func 267) [] [.box [pL eE l]]))]) (ds:=dsY) ⟨rfl,rfl,rfl,rfl,trivial⟩ i) (fun us fn D hu=>(w267y hp he hm hj hj2 us fn D l hu hl hZ hb).rev) (by decide) (allNe Z) ?_
 refine pc ?_
 refine Rt Z ?_
 exact Zh (val0:=.tup [.bref 14 0,vI 0,vI 0]) (out0:=[(903,.arr (l.length) 9 154 (List.map eR (regs (cntF l).1))),(902,.arr (l.length) 5 119 (List.map eE (cntF l).1)),(901,.arr (l.length) 5 119 (List.map eE l)),(14,.box 267 [.aref 901 (l.length),.aref 902 (l.length),.aref 903 (l.length)])]) (.inr Z) (by kernel_rfl) Z rfl
theorem w146n (hp:qH) (he:je) (hm:HMa) (hj:jE) (hj2:jl) (l:List Ev) (hl:l.length<=1000) (hZ:∀ e∈l,EvS e) (hb:Prod.snd (cntF l).2≠0):q6 Tryz.prog 146 [vL eE l] (qx []) (.tup [.pv (.lit (.pointer none)),vI ((Prod.fst (cntF l).2:Nat):Int),vI (cntF l).2.2]) ([]):=by
 refine cL 1 [] qf146 Z (nB Z) Z Z (kc (E Z (B.jh Z jt) (Cp Z Z (fun h1=>?_) (fun h1=>?_))))
 ·exact absurd h1 (by omega)
 refine E Z (B.run Z) (E Z (B.run Z) ?_)
 refine tk 4 Z ?_
 refine TK.adoptC 14 0 901 5 119 Z Z Z Z ?_
 refine TK.adoptC 14 1 902 5 119 Z Z Z Z ?_
 refine TK.adoptC 14 2 903 9 154 Z Z Z Z ?_
 refine TK.norm ⟨[(0,vL eE l),(2,.bref 3 0),(3,.bref 4 0),(4,.bref 5 0),(5,.bref 6 0)],[(3,.box 243 [.pv (.lit (.pointer none))]),(4,.box 3 [vI 0]),(5,.box 34 [vI 0]),(6,.box 243 [.bref 14 0]),(14,.box 267 [.aref 901 0,.aref 902 0,.aref 903 0]),(901,.arr 0 5 119 (List.map eE [])),(902,.arr 0 5 119 (List.map eE [])),(903,.arr 0 9 154 (List.map eR (regs [])))]⟩ (sb Z Z Z) ?_
 refine kc (C Z (w195 l) Z Z Z ?_)
 refine tk 9999 Z ?_
 refine TK.norm ⟨[(2,.bref 3 0),(3,.bref 4 0),(4,.bref 5 0),(5,.bref 6 0),(15,.pv (.fn (.func 267) [] [.box [pL eE l]]))],[(3,.box 243 [.pv (.lit (.pointer none))]),(4,.box 3 [vI 0]),(5,.box 34 [vI 0]),(6,.box 243 [.bref 14 0]),(14,.box 267 [.aref 901 0,.aref 902 0,.aref 903 0]),(901,.arr 0 5 119 (List.map eE [])),(902,.arr 0 5 119 (List.map eE [])),(903,.arr 0 9 154 (List.map eR (regs [])))]⟩ (sb Z Z Z) ?_
 refine TK.range (hl:=950) (ds:=dsY) (st:=.done) (val:=.tup []) (out:=oX (((Prod.fst (cntF l).2:Nat)):Int) (cntF l).2.2 (Prod.fst (cntF l).2-1) (List.take (Prod.fst (cntF l).2-1) l) (cntB 0 [] l)) true (fun a w=>Tryz.call267 a w) Z Z Z (fun i _=>agD0 (tm:=[(2,.bref 3 0),(3,.bref 4 0),(4,.bref 5 0),(5,.bref 6 0),(15,.pv (.fn (.func 267) [] [.box [pL eE l]]))]) (ds:=dsY) ⟨rfl,rfl,rfl,rfl,trivial⟩ i) (fun us fn D hu=>(w267n hp he hm hj hj2 us fn D l hu hl hZ hb).rev) (by decide) (allNe Z) ?_
 refine PK.ret ?_
 exact Zh (val0:=.tup [.pv (.lit (.pointer none)),vI ((Prod.fst (cntF l).2:Nat):Int),vI (cntF l).2.2]) (out0:=[]) (.inr Z) (by kernel_rfl) Z rfl
end Go.Lens.Tm
end
section
namespace Go.Lens.Tm
open Go.Lens.Tb Go.Proofs
variable [Lz]
set_option maxHeartbeats 4000000
set_option maxRecDepth 100000
attribute [local irreducible] TK PK T RG EfR Body CG
theorem take_gx {α:Type} {l:List α} {k:Nat} (z:α) (hk:k<l.length):l.take k++[l.getD k z]=l.take (k+1):=by
 rw[List.take_succ_eq_append_getElem hk,ze,zm hk];rfl
theorem ro_len {n:Nat} {r:Reg} (h:k9 n r) (hn:n<=1000):(r.2.2.1.length<=1000000/\r.2.2.2.1.length<=1000000/\r.2.2.2.2.1.length<=1000000/\r.2.2.2.2.2.length<=1000)/\∀ d∈r.2.2.2.2.1,d.2.2.length<=1000000:=by
 obtain⟨_,h1,h2,h3,h4,h5⟩:=h
 exact⟨by omega,fun d hd=>by have:=(chk_parts (h5 d hd).1).1;omega⟩
def rpF (l:List Ev):Reg×Int×Int:=if (cntF l).2.2≠0 then (zR,(((cntF l).2.1:Nat):Int),(cntF l).2.2) else (qZ (cntF l).1,0,0)
theorem rp_no {l:List Ev} (h:(cntF l).2.2≠0):rpF l=(zR,(((cntF l).2.1:Nat):Int),(cntF l).2.2):=by rw[rpF,if_pos h]
theorem rp_ok {l:List Ev} (h:(cntF l).2.2=0):rpF l=(qZ (cntF l).1,0,0):=by rw[rpF,if_neg (by rw[h];simp)]
def accQ (l:List Ev) (e:Ev):Int:=qP [jp e,qF (decide (1000<=((l.length:Nat):Int))) 5]
def accF (l:List Ev) (e:Ev):Int:=if (cntF l).2.2≠0 then (cntF l).2.2 else if accQ l e≠0 then accQ l e else (jQ l.length (cntF l).1 e).2
theorem ac_no {l:List Ev} {e:Ev} (h:(cntF l).2.2≠0):accF l e=(cntF l).2.2:=by rw[accF,if_pos h]
theorem ac_bad {l:List Ev} {e:Ev} (h:(cntF l).2.2=0) (h1:accQ l e≠0):accF l e=accQ l e:=by rw[accF,if_neg (by rw[h];simp),if_pos h1]
theorem ac_yes {l:List Ev} {e:Ev} (h:(cntF l).2.2=0) (h1:accQ l e=0):accF l e=(jQ l.length (cntF l).1 e).2:=by rw[accF,if_neg (by rw[h];simp),if_neg (by rw[h1];simp)]
theorem w159 (r:Reg) (hR:r.2.2.1.length<=1000000/\r.2.2.2.1.length<=1000000/\r.2.2.2.2.1.length<=1000000/\r.2.2.2.2.2.length<=1000) (hD:∀ d∈r.2.2.2.2.1,d.2.2.length<=1000000):CKa 159 [.pv (gR r)] (.pv (gR r)):=by
 refine cG qf159 Z (nB Z) Z (E Z (B.jj Z (fun l=>Frz.boxN l Z) Z) (C Z (w219z r.2.2.1 (by omega)) Z Z Z (C Z (w217z r.2.2.2.1 (by omega)) Z Z Z (C Z (w220z r.2.2.2.2.2 (by omega)) Z Z Z (Dr Z (by kernel_rfl) (E Z (B.adopt 4 3 279 Z Z) (E Z (B.jh Z un152) (l3 (fun (k:Nat) (v:Nat) (out:List Doc)=>[(1,.bref 2 0),(2,.bref 3 0),(3,.aref 4 v),(19,vL eD r.2.2.2.2.1),(20,vI (r.2.2.2.2.1.length:Int)),(21,vI k)]) (fun _ v out=>[(2,bR 154 r),(3,.box 154 [vI 0,vS (bsO []),vI 0,vB false,vB false,vL eT [],vL eN [],vL eD [],vL eP []]),(4,.arr v 3 279 (List.map eD out))]) (fun k _ out=>k<=r.2.2.2.2.1.length/\out=List.take k r.2.2.2.2.1) (fun k _ _=>r.2.2.2.2.1.length-k) 0 0 [] Z ?_ (sb Z Z Z) ?_))))))))
 · exact⟨zq _,rfl⟩
 intro k v out hI0
 have hol:out.length<=1000000:=by rw[hI0.2,zn];omega
 refine Cp Z Z (fun h1=>?_) (fun h1=>?_)
 ·have hdf:=hD _ (getD_mem (z:=zD) (k:=k) (by omega))
  refine E Z (B.idx (z:=zD) (i:=k) Z Z un152 sz279 (fun _=>rfl) Z (by omega)) (E Z (B.jj Z (fun l=>Frz.boxN l Z) Z) (C Z (w221z (r.2.2.2.2.1.getD k zD).2.2 (by omega)) Z Z Z (E Z (B.jj (val:=.pv (.slice (List.map eD [(r.2.2.2.2.1.getD k zD)]))) Z (fun l=>Frz.arr l _ _ _ _ _) Z) (E Z (B.append Z Z Z un152 in279 Z (fun _=>rfl) by279 (by (simp only[za,zb,zd];omega))) (E Z (B.add Z Z (by unfold R64;omega)) (pk Z (L3 (k+1) (v+1) (out++[(r.2.2.2.2.1.getD k zD)]) ?_ ?_ (sb Z Z Z))))))))
  · (exact⟨by omega,by rw[hI0.2];exact take_gx zD (by omega)⟩)
  · omega
 exact Fz 9 3 Z Z Z (Rt Z (leaf (val0:=.pv (.agg [pI r.1,pS (bsO r.2.1.1),pI r.2.1.2.1,pB r.2.1.2.2.1,pB r.2.1.2.2.2,pL eT r.2.2.1,pL eN r.2.2.2.1,pL eD out,pL eP r.2.2.2.2.2])) (by kernel_rfl) (by rw[hI0.2,zx (by omega)])))
theorem w80y (hp:qH) (he:je) (hm:HMa) (hj:jE) (hj2:jl) (l:List Ev) (hl:l.length<=1000) (hZ:∀ e∈l,EvS e) (hb:Prod.snd (cntF l).2=0):CKa 80 [vL eE l] (.tup [.pv (gR ((rpF l).1)),vI (rpF l).2.1,vI (rpF l).2.2]):=by
 refine cG qf80 Z (nB Z) Z ?_
 have hco:=cntF_ok l
 have hro:=ro_len (regF_ok hco) hl
 have hcl:=hco.1
 refine E Z (B.jj Z (fun l=>Frz.boxN l Z) Z) (E Z (B.kU (l:=[]) (w146y hp he hm hj hj2 l hl hZ hb) Z Z trivial Z Z) (Cp Z Z (fun h1=>?_) (fun h1=>?_)))
 ·exact absurd Z h1
 exact E Z (B.kU (l:=hS (l.length) l (cntF l).1) (w155 (l.length) l (cntF l).1 (by omega)) Z Z ⟨rfl,rfl,rfl,rfl,trivial⟩ rfl rfl) (C Z (w159 (qZ (cntF l).1) hro.1 hro.2) Z Z Z (Rt Z (leaf (val0:=.tup [.pv (gR (qZ (cntF l).1)),vI 0,vI 0]) (by kernel_rfl) (by rw[rp_ok hb]))))
theorem w80n (hp:qH) (he:je) (hm:HMa) (hj:jE) (hj2:jl) (l:List Ev) (hl:l.length<=1000) (hZ:∀ e∈l,EvS e) (hb:Prod.snd (cntF l).2≠0):CKa 80 [vL eE l] (.tup [.pv (gR ((rpF l).1)),vI (rpF l).2.1,vI (rpF l).2.2]):=by
 refine cG qf80 Z (nB Z) Z (E Z (B.jj Z (fun l=>Frz.boxN l Z) Z) (C Z (w146n hp he hm hj hj2 l hl hZ hb) Z Z Z (Cp Z Z (fun h1=>?_) (fun h1=>?_))))
 ·exact E Z (B.jj (val:=.pv (.agg [pI 0,pS (bsO []),pI 0,pB false,pB false,pL eT [],pL eN [],pL eD [],pL eP []])) Z (fun l=>Frz.aggN l Z) Z) (Rt Z (leaf (val0:=.tup [.pv (.agg [pI 0,pS (bsO []),pI 0,pB false,pB false,pL eT [],pL eN [],pL eD [],pL eP []]),vI ((Prod.fst (cntF l).2:Nat):Int),vI (cntF l).2.2]) (by kernel_rfl) (by rw[rp_no hb])))
 exact absurd hb h1
theorem w84y (hp:qH) (he:je) (hm:HMa) (hj:jE) (hj2:jl) (l:List Ev) (e:Ev) (hl:l.length<=1000) (hZ:∀ e∈l,EvS e) (hsz:EvS e) (hb:Prod.snd (cntF l).2=0):CKa 84 [vL eE l,.pv (gV e)] (vI (accF l e)):=by
 refine cG qf84 Z (nB Z) Z ?_
 have hco:=cntF_ok l
 have hro:=ro_len (regF_ok hco) hl
 have hcl:=hco.1
 refine E Z (B.kU (l:=[]) (w146y hp he hm hj hj2 l hl hZ hb) Z Z trivial Z Z) (Cp Z Z (fun h1=>?_) (fun h1=>?_))
 ·exact absurd Z h1
 have hs1:=hsz.1
 have hs2:=hsz.2.1
 have hs3:=hsz.2.2
 refine C Z (w81 hp he hm hj hj2 e hsz.1 (by omega) (by omega)) Z Z Z (E Z (B.jh Z jt) (C Z (w101 (decide (1000<=(l.length:Int))) 5) Z Z Z (E Z (B.jj (val:=.pv (.slice (List.map eI [(jp e),(qF (decide (1000<=(l.length:Int))) 5)]))) Z (fun l=>Frz.arr l _ _ _ _ _) Z) (C Z (w100 [(jp e),(qF (decide (1000<=(l.length:Int))) 5)] (nB Z)) Z Z Z (Cp Z Z (fun h2=>?_) (fun h2=>?_))))))
 ·exact Rt Z (leaf (val0:=vI (qP [(jp e),(qF (decide (1000<=(l.length:Int))) 5)])) (by kernel_rfl) (li (by (rw[ac_bad hb h2]<;>rfl))))
 have hv0:=first_all (zi.1 h2) (jp e) (by simp)
 have hacc:=acc_ok hp he hm (v:=l.length) (d:=l) hco hl hl hv0 hs1
 exact E Z (B.kU (l:=hS (l.length) l (cntF l).1) (hacc) Z Z ⟨rfl,rfl,rfl,rfl,trivial⟩ rfl rfl) (Rt Z (leaf (val0:=vI (jQ (l.length) (cntF l).1 e).2) (by kernel_rfl) (li (by exact (ac_yes hb (zi.1 h2)).symm))))
theorem w84n (hp:qH) (he:je) (hm:HMa) (hj:jE) (hj2:jl) (l:List Ev) (e:Ev) (hl:l.length<=1000) (hZ:∀ e∈l,EvS e) (hsz:EvS e) (hb:Prod.snd (cntF l).2≠0):CKa 84 [vL eE l,.pv (gV e)] (vI (accF l e)):=by
 refine cG qf84 Z (nB Z) Z (C Z (w146n hp he hm hj hj2 l hl hZ hb) Z Z Z (Cp Z Z (fun h1=>?_) (fun h1=>?_)))
 ·exact Rt Z (leaf (val0:=vI (cntF l).2.2) (by kernel_rfl) (li (by exact (ac_no hb).symm)))
 exact absurd hb h1
theorem w80 (hp:qH) (he:je) (hm:HMa) (hj:jE) (hj2:jl) (l:List Ev) (hl:l.length<=1000) (hZ:∀ e∈l,EvS e):CKa 80 [vL eE l] (.tup [.pv (gR ((rpF l).1)),vI (rpF l).2.1,vI (rpF l).2.2]):=by
 by_cases hb:(cntF l).2.2=0
 ·exact w80y hp he hm hj hj2 l hl hZ hb
 exact w80n hp he hm hj hj2 l hl hZ hb
theorem w84 (hp:qH) (he:je) (hm:HMa) (hj:jE) (hj2:jl) (l:List Ev) (e:Ev) (hl:l.length<=1000) (hZ:∀ e∈l,EvS e) (hsz:EvS e):CKa 84 [vL eE l,.pv (gV e)] (vI (accF l e)):=by
 by_cases hb:(cntF l).2.2=0
 ·exact w84y hp he hm hj hj2 l e hl hZ hsz hb
 exact w84n hp he hm hj hj2 l e hl hZ hsz hb
end Go.Lens.Tm
end
section
namespace Go.Lens.Tm
open Go.Lens.Tb Go.Proofs
variable [Lz]
def eVf (l:List Fld):List PV:=[.slice (List.map eF l)]
def verL (l:List Doc) (n:List UInt8):List (List Fld):=[]::(l.filter fun d=>decide (d.1=n)).map (·.2.2)
def versK (l:List Doc) (n:List UInt8) (k:Nat):List (List Fld):=verL (l.take k) n
def cntD (n:List UInt8) (l:List Doc):Nat:=(l.filter fun d=>decide (d.1=n)).length
theorem verL_len (l:List Doc) (n:List UInt8):(verL l n).length=cntD n l+1:=by simp[verL,cntD]
theorem verL_snoc (l:List Doc) (n:List UInt8) (d:Doc):verL (l++[d]) n=if d.1=n then verL l n++[d.2.2] else verL l n:=by
 unfold verL
 rw[List.filter_append]
 by_cases h:d.1=n<;>simp[h]
theorem cntD_snoc (l:List Doc) (n:List UInt8) (d:Doc):cntD n (l++[d])=if d.1=n then cntD n l+1 else cntD n l:=by
 unfold cntD
 rw[List.filter_append]
 by_cases h:d.1=n<;>simp[h]
section
variable {l:List Doc} {n:List UInt8} {k:Nat} {o:List (List Fld)}
theorem vk_hit (hI:o=versK l n k) (hk:k<l.length) (h:(l.getD k zD).1=n):o++[(l.getD k zD).2.2]=versK l n (k+1):=by
 rw[hI,versK,versK,<-take_gx zD hk,verL_snoc,if_pos h]
theorem vk_skip (hI:o=versK l n k) (hk:k<l.length) (h:¬(l.getD k zD).1=n):o=versK l n (k+1):=by
 rw[hI,versK,versK,<-take_gx zD hk,verL_snoc,if_neg h]
theorem vk_end (hI:o=versK l n k) (hk:¬k<l.length):o=verL l n:=by rw[hI,versK,zx (by omega)]
end
def VerOk (l:List Doc):Prop:=∀ k,k<l.length->(l.getD k zD).2.1=((cntD (l.getD k zD).1 (l.take k):Nat):Int)+1
theorem ver_nil:VerOk []:=fun k hk=>absurd hk (by simp)
theorem ver_snoc {l:List Doc} {d:Doc} (h:VerOk l) (hd:d.2.1=((cntD d.1 l:Nat):Int)+1):VerOk (l++[d]):=by
 intro k hk
 rw[za,qb] at hk
 by_cases h1:k<l.length
 ·have e:(l++[d]).getD k zD=l.getD k zD:=by
   rw[ze,ze,qa h1]
  rw[e,zK (by omega)];exact h k h1
 have e:(l++[d]).getD k zD=d:=by
  rw[ze,z8 (by omega),show k-l.length=0 by omega];rfl
 rw[e,zK (by omega),zx (by omega)];exact hd
theorem latG_app {n:List UInt8} {v:Int}:∀ (l m:List Doc) (a:Int×List Fld),latG n v (l++m) a=latG n v m (latG n v l a)
 | [],m,a=>rfl
 | d::l,m,a=>by rw[zQ,latG,latG,latG_app l m]
theorem lat_take {n:List UInt8} {v:Int} {l:List Doc} (h:VerOk l):∀ k,k<=l.length->kg (l.take k) n v=(((cntD n (l.take k):Nat):Int),if 1<=v/\v<=((cntD n (l.take k):Nat):Int) then (verL (l.take k) n).getD v.toNat [] else [])
 | 0,_=>by simp[kg,latG,cntD,verL];omega
 | k+1,hk=>by
  have ih:=lat_take (n:=n) (v:=v) h k (by omega)
  have hv:=h k (by omega)
  unfold kg at ih
  rw[<-take_gx zD (by omega),kg,latG_app,ih,latG,latG,cntD_snoc,verL_snoc]
  generalize hd:l.getD k zD=d
  rw[hd] at hv
  by_cases hn:d.1=n
  ·rw[if_neg (by simpa using hn),if_pos hn,if_pos hn]
   rw[hn] at hv
   have hlen:=verL_len (l.take k) n
   generalize hc:cntD n (l.take k)=c at*
   rw[hv]
   refine Prod.ext (by simp) ?_
   show (if ((c:Nat):Int)+1=v then d.2.2 else _)=_
   by_cases h1:((c:Nat):Int)+1=v
   ·rw[if_pos h1,if_pos (by omega),ze,z8 (by omega),show v.toNat-(verL (l.take k) n).length=0 by omega];rfl
   rw[if_neg h1]
   by_cases h2:1<=v/\v<=((c:Nat):Int)
   ·rw[if_pos h2,if_pos (by omega),ze,ze,qa (by omega)]
   rw[if_neg h2,if_neg (by omega)]
  rw[if_pos (by simpa using hn),if_neg hn,if_neg hn]
theorem lat_spec {n:List UInt8} {v:Int} {l:List Doc} (h:VerOk l):kg l n v=(((cntD n l:Nat):Int),if 1<=v/\v<=((cntD n l:Nat):Int) then (verL l n).getD v.toNat [] else []):=by
 have:=lat_take (n:=n) (v:=v) h l.length (zz _)
 rwa [List.take_length] at this
abbrev vers (r:Reg) (n:List UInt8):List (List Fld):=verL r.2.2.2.2.1 n
abbrev wrL (r:Reg) (e:Ev):Int:=(((vers r (evN e)).length:Nat):Int)-1
abbrev wrM (r:Reg) (e:Ev):List Fld×List (List UInt8):=refM ((vers r (evN e)).getD (evI e 1).toNat []) (kW e.2.2.2.2).1 ((vers r (evN e)).getD ((vers r (evN e)).length-1) [])
def wrF (r:Reg) (e:Ev):List Fld×Int:=
 if wrL r e<evI e 1 then ([],20) else if 16<=wrL r e then ([],5) else if evI e 1=wrL r e then ((kW e.2.2.2.2).1,0)
 else if 0<(((wrM r e).2.length:Nat):Int) then ([],29) else if 24<(((wrM r e).1.length:Nat):Int) then ([],4) else ((wrM r e).1,0)
section
variable {r:Reg} {e:Ev}
theorem wr_1 (h1:wrL r e<evI e 1):wrF r e=([],20):=by rw[wrF,if_pos h1]
theorem wr_2 (h1:¬wrL r e<evI e 1) (h2:16<=wrL r e):wrF r e=([],5):=by rw[wrF,if_neg h1,if_pos h2]
theorem wr_3 (h1:¬wrL r e<evI e 1) (h2:¬16<=wrL r e) (h3:evI e 1=wrL r e):wrF r e=((kW e.2.2.2.2).1,0):=by rw[wrF,if_neg h1,if_neg h2,if_pos h3]
theorem wr_4 (h1:¬wrL r e<evI e 1) (h2:¬16<=wrL r e) (h3:¬evI e 1=wrL r e) (h4:0<(((wrM r e).2.length:Nat):Int)):wrF r e=([],29):=by rw[wrF,if_neg h1,if_neg h2,if_neg h3,if_pos h4]
theorem wr_5 (h1:¬wrL r e<evI e 1) (h2:¬16<=wrL r e) (h3:¬evI e 1=wrL r e) (h4:¬0<(((wrM r e).2.length:Nat):Int)) (h5:24<(((wrM r e).1.length:Nat):Int)):wrF r e=([],4):=by rw[wrF,if_neg h1,if_neg h2,if_neg h3,if_neg h4,if_pos h5]
theorem wr_6 (h1:¬wrL r e<evI e 1) (h2:¬16<=wrL r e) (h3:¬evI e 1=wrL r e) (h4:¬0<(((wrM r e).2.length:Nat):Int)) (h5:¬24<(((wrM r e).1.length:Nat):Int)):wrF r e=((wrM r e).1,0):=by rw[wrF,if_neg h1,if_neg h2,if_neg h3,if_neg h4,if_neg h5]
theorem firstC {a b:Bool} {x y:Int} (hx:x≠0) (hy:y≠0):qP [qF a x,qF b y]=if a=true then x else if b=true then y else 0:=by
 cases a<;>cases b<;>simp[qP,qF,hx,hy]
theorem vers_chk {n:Nat} (hR:k9 n r) (m:List UInt8):∀ x∈vers r m,jv x=0:=by
 intro x hx
 have hx:x∈verL _ _:=hx
 unfold verL at hx
 rcases zF.1 hx with e|e
 ·rw[e];rfl
 obtain⟨d,hd,rfl⟩:=zE.1 e
 exact (hR.2.2.2.2.2 d (List.mem_filter.1 hd).1).1
theorem ca_wr {n:Nat} (hR:k9 n r) (hV:VerOk r.2.2.2.2.1) (hv:0<=evI e 1):caE r e=if (wrF r e).2≠0 then (r,(wrF r e).2) else (caF r e (wrF r e).1,0):=by
 have hlen:=verL_len r.2.2.2.2.1 (evN e)
 have hL:=lat_spec (n:=evN e) (v:=evI e 1) hV
 have hVl:(vers r (evN e)).length=cntD (evN e) r.2.2.2.2.1+1:=hlen
 have hW:wrL r e=((cntD (evN e) r.2.2.2.2.1:Nat):Int):=by show (((vers r (evN e)).length:Nat):Int)-1=_;rw[hVl];omega
 have hc:(caL r e).1=wrL r e:=by
  show (kg _ _ _).1=_
  rw[hL,hW]
 have hX:caX r e=if wrL r e<evI e 1 then 20 else if 16<=wrL r e then 5 else 0:=by
  rw[caX,firstC (by decide) (by decide),hc];simp only[zf]
 by_cases h1:wrL r e<evI e 1
 ·rw[if_pos h1] at hX
  rw[wr_1 h1,ca_no (by rw[hX];decide),hX];rfl
 rw[if_neg h1] at hX
 by_cases h2:16<=wrL r e
 ·rw[if_pos h2] at hX
  rw[wr_2 h1 h2,ca_no (by rw[hX];decide),hX];rfl
 rw[if_neg h2] at hX
 by_cases h3:evI e 1=wrL r e
 ·rw[wr_3 h1 h2 h3,ca_new hX (by rw[hc];omega)];rfl
 have h4:evI e 1<(caL r e).1:=by rw[hc];omega
 have b1:(caL r e).2=(vers r (evN e)).getD (evI e 1).toNat []:=by
  show (kg _ _ _).2=_
  rw[hL]
  by_cases hq:1<=evI e 1/\evI e 1<=((cntD (evN e) r.2.2.2.2.1:Nat):Int)
  ·show (if _ then _ else _)=_
   rw[if_pos hq]
  have:evI e 1=0:=by omega
  show (if _ then _ else _)=_
  rw[if_neg hq,this];rfl
 have b2:(kg r.2.2.2.2.1 (evN e) (caL r e).1).2=(vers r (evN e)).getD ((vers r (evN e)).length-1) []:=by
  rw[lat_spec hV,hc]
  show (if _ then _ else _)=_
  rw[if_pos (by omega),show (wrL r e).toNat=(vers r (evN e)).length-1 by omega]
 have eM:caM r e=mgR ((vers r (evN e)).getD (evI e 1).toNat []) (kW e.2.2.2.2).1 ((vers r (evN e)).getD ((vers r (evN e)).length-1) []):=by
  show mgR _ _ _=_
  rw[b1,b2]
 have hq:=mg_ref (vers_chk hR (evN e) _ (getD_mem (z:=[]) (k:=(evI e 1).toNat) (by omega))) (parF_chk e.2.2.2.2) (vers_chk hR (evN e) _ (getD_mem (z:=[]) (k:=(vers r (evN e)).length-1) (by omega)))
 rw[<-eM] at hq
 have hY:caY r e=if 0<(((caM r e).2.length:Nat):Int) then 29 else if 24<(((caM r e).1.length:Nat):Int) then 4 else 0:=by
  rw[caY,firstC (by decide) (by decide)];simp only[zf]
 by_cases h5:0<(((wrM r e).2.length:Nat):Int)
 ·have h5':=h5
  rw[hq.1] at h5'
  rw[if_pos h5'] at hY
  rw[wr_4 h1 h2 h3 h5,ca_con hX h4 (by rw[hY];decide),hY];rfl
 have h5':=h5
 rw[hq.1] at h5'
 rw[if_neg h5'] at hY
 have h0:(caM r e).2=[]:=zL (by omega)
 have hf:=(hq.2 h0).1
 by_cases h6:24<(((wrM r e).1.length:Nat):Int)
 ·have h6':=h6
  rw[hf] at h6'
  rw[if_pos h6'] at hY
  rw[wr_5 h1 h2 h3 h5 h6,ca_con hX h4 (by rw[hY];decide),hY];rfl
 have h6':=h6
 rw[hf] at h6'
 rw[if_neg h6'] at hY
 rw[wr_6 h1 h2 h3 h5 h6,ca_mrg hX h4 hY,hf];rfl
end
theorem eff_ver {n:Nat} {r:Reg} {e:Ev} (hR:k9 n r) (hV:VerOk r.2.2.2.2.1) (hv:jp e=0) (hu:¬e.2.1=Z5):VerOk (ZB r e).1.2.2.2.2.1:=by
 have ex:∀ t l,(exE r t l).1.2.2.2.2.1=r.2.2.2.2.1:=by
  intro t l
  by_cases h:(jb r.2.2.2.2.2.length (r.2.1,t,[]) (q9 l)).2=0
  ·rw[ex_ok h]
  rw[ex_no h]
 rcases ve_kind hv hu with hk|hk|hk|hk|hk
 ·rw[eff_tar hk]
  by_cases h0:tgX r e=0
  ·rw[tg_ok h0];exact hV
  rw[tg_no h0];exact hV
 ·rw[eff_act hk,acE,ex];exact hV
 ·rw[eff_run hk,ruE]
  split
  ·exact hV
  rw[ex];exact hV
 ·rw[eff_obs hk]
  by_cases h0:obX r e=0
  ·rw[ob_ok h0];exact hV
  rw[ob_no h0];exact hV
 rw[eff_cal hk,ca_wr hR hV (kT hv 1).1]
 split
 ·exact hV
 refine ver_snoc hV ?_
 show (caL r e).1+1=_
 show (kg _ _ _).1+1=_
 rw[lat_spec hV]
theorem regF_ver':∀ (C:List Ev) (n:Nat) (r:Reg),k9 n r->VerOk r.2.2.2.2.1->(∀ e∈C,jp e=0/\¬e.2.1=Z5)->VerOk (C.foldl (fun r e=>(ZB r e).1) r).2.2.2.2.1
 | [],n,r,_,h,_=>h
 | e::C,n,r,h,hV,hC=>by
  obtain⟨k1,k2⟩:=hC e (qm ..)
  exact regF_ver' C (n+1) _ (eff_ok h k1 k2) (eff_ver h hV k1 k2) fun x hx=>hC x (zO _ hx)
theorem regF_ver {n:Nat} {C:List Ev} (h:CntOk n C):VerOk (qZ C).2.2.2.2.1:=regF_ver' C 0 iR iR_ok ver_nil h.2
abbrev scrE (e:Ev):List Cmd:=if e.2.1=jV then [(jV,evN e,0)] else (qY ZE e.2.2.2.2).1
abbrev doF (r:Reg) (e:Ev):Mc×Int:=jb r.2.2.2.2.2.length (r.2.1,evI e 0,[]) (q9 (scrE e))
theorem do_act {r:Reg} {e:Ev} (h:e.2.1=jV):doF r e=jb r.2.2.2.2.2.length (r.2.1,evI e 0,[]) (q9 [(jV,evN e,0)]):=by rw[doF,scrE,if_pos h]
theorem do_run {r:Reg} {e:Ev} (h:¬e.2.1=jV):doF r e=jb r.2.2.2.2.2.length (r.2.1,evI e 0,[]) (q9 (qY ZE e.2.2.2.2).1):=by rw[doF,scrE,if_neg h]
theorem run_par {e:Ev} (hv:jp e=0) (hk:e.2.1=ZN):(qY ZP e.2.2.2.2).2.2=0:=by
 have h:=(ve_all hv).2.2.2.2.2
 rw[txt_run hk,scrB,zj] at h
 exact of_decide_eq_true h.1
theorem eff_do {r:Reg} {e:Ev} (hv:jp e=0) (hk:e.2.1=jV\/e.2.1=ZN):ZB r e=exE r (evI e 0) (scrE e):=by
 rcases hk with hk|hk
 ·rw[eff_act hk,acE,scrE,if_pos hk]
 rw[eff_run hk,ru_ok (run_par hv hk),scrE,if_neg (by rw[hk];decide),par_same]
theorem sts_chk:∀ s∈sts,chkSt s=0:=by decide +kernel
def rfF (r:Reg) (e:Ev):Int:=if evI e 0<r.1 then 19 else (ZB r e).2
section
variable {r:Reg} {e:Ev}
theorem rf_old (h:evI e 0<r.1):rfF r e=19:=by rw[rfF,if_pos h]
theorem rf_new (h:¬evI e 0<r.1):rfF r e=(ZB r e).2:=by rw[rfF,if_neg h]
theorem tgX_eq:tgX r e=if 0<=kI (fun o=>decide (Tgt.name o=bsO (evN e))) r.2.2.1 then 9 else if 32<=((r.2.2.1.length:Nat):Int) then 5 else if (!(jX (tgO e)))=true then 3 else 0:=by
 rw[tgX]
 simp only[findI_nonneg_t]
 cases r.2.2.1.any fun o=>decide (o.name=bsO (evN e))<;>by_cases h:32<=((r.2.2.1.length:Nat):Int)<;>cases jX (tgO e)<;>simp[qP,qF,h]
theorem rf_tar (h:e.2.1=kTar):(ZB r e).2=tgX r e:=by
 rw[eff_tar h]
 by_cases h0:tgX r e=0
 ·rw[tg_ok h0,h0]
 rw[tg_no h0]
theorem rf_do (hv:jp e=0) (hk:e.2.1=jV\/e.2.1=ZN):(ZB r e).2=(doF r e).2:=by
 rw[eff_do hv hk]
 by_cases h0:(doF r e).2=0
 ·rw[ex_ok h0,h0]
 rw[ex_no h0]
theorem obX_eq (hs:r.2.1∈sts):obX r e=if kI (fun o=>decide (Tgt.name o=bsO (evN e))) r.2.2.1<0 then 10 else if r.2.2.2.1.any (fun y=>decide (y=evN e))=true then 9 else if (!(decide (r.2.1.1=jg)))=true then 19 else 0:=by
 have hc:=sts_chk _ hs
 rw[obX,movP_ok hc,hc]
 have e1:(r.2.2.2.1.any fun y=>decide (evN e=y))=r.2.2.2.1.any (fun y=>decide (y=evN e)):=by
  congr 1;funext y;rw[zM];simp only[zf];exact eq_comm
 rw[e1]
 have e2:(kI (fun o=>decide (Tgt.name o=bsO (evN e))) r.2.2.1<0)=((r.2.2.1.any fun o=>decide (o.name=bsO (evN e)))=false):=by
  rw[<-findI_nonneg_f];simp
 simp only[e2]
 cases r.2.2.1.any fun o=>decide (o.name=bsO (evN e))<;>cases r.2.2.2.1.any fun y=>decide (y=evN e)<;>by_cases h:r.2.1.1=jg<;>simp[qP,qF,h]
theorem rf_obs (h:e.2.1=kObs):(ZB r e).2=obX r e:=by
 rw[eff_obs h]
 by_cases h0:obX r e=0
 ·rw[ob_ok h0,h0]
 rw[ob_no h0]
theorem rf_cal {n:Nat} (hR:k9 n r) (hV:VerOk r.2.2.2.2.1) (hv:jp e=0) (h:e.2.1=kCal):(ZB r e).2=(wrF r e).2:=by
 rw[eff_cal h,ca_wr hR hV (kT hv 1).1]
 by_cases h0:(wrF r e).2=0
 ·rw[if_neg (by rw[h0];simp),h0]
 rw[if_pos h0]
theorem af_tar (h:e.2.1=kTar) (h0:(ZB r e).2=0):(ZB r e).1=(evI e 0,r.2.1,r.2.2.1++[tgO e],r.2.2.2.1,r.2.2.2.2.1,r.2.2.2.2.2):=by
 rw[rf_tar h] at h0
 rw[eff_tar h,tg_ok h0]
theorem af_do (hv:jp e=0) (hk:e.2.1=jV\/e.2.1=ZN) (h0:(ZB r e).2=0):(ZB r e).1=((doF r e).1.2.1,(doF r e).1.1,r.2.2.1,r.2.2.2.1,r.2.2.2.2.1,r.2.2.2.2.2++(doF r e).1.2.2):=by
 rw[rf_do hv hk] at h0
 rw[eff_do hv hk,ex_ok h0]
theorem af_obs (h:e.2.1=kObs) (h0:(ZB r e).2=0):(ZB r e).1=(evI e 0,r.2.1,r.2.2.1,r.2.2.2.1++[evN e],r.2.2.2.2.1,r.2.2.2.2.2):=by
 rw[rf_obs h] at h0
 rw[eff_obs h,ob_ok h0]
theorem af_cal {n:Nat} (hR:k9 n r) (hV:VerOk r.2.2.2.2.1) (hv:jp e=0) (h:e.2.1=kCal) (h0:(ZB r e).2=0):(ZB r e).1=(evI e 0,r.2.1,r.2.2.1,r.2.2.2.1,r.2.2.2.2.1++[(evN e,(((vers r (evN e)).length:Nat):Int),(wrF r e).1)],r.2.2.2.2.2):=by
 rw[rf_cal hR hV hv h] at h0
 rw[eff_cal h,ca_wr hR hV (kT hv 1).1,if_neg (by rw[h0];simp)]
 have:(caL r e).1+1=(((vers r (evN e)).length:Nat):Int):=by
  show (kg _ _ _).1+1=_
  rw[lat_spec hV,verL_len];simp
 show caF r e _=_
 rw[caF,this]
end
def AccOk (n:Nat) (c:List Ev):Prop:=CntOk n c/\∀ k,k<c.length->(ZB (qZ (c.take k)) (c.getD k zV)).2=0
theorem acc_nil:AccOk 0 []:=⟨cnt_nil,fun k hk=>absurd hk (by simp)⟩
theorem cnt_take {n:Nat} {c:List Ev} (h:CntOk n c) (k:Nat):CntOk n (c.take k):=⟨by rw[zn];have:=h.1;omega,fun x hx=>h.2 x (zr hx)⟩
theorem acc_new {n m:Nat} {c:List Ev} {e:Ev} (h:AccOk n c) (hv:jp e=0) (ha:(jQ m c e).2=0):AccOk (n+1) (newC c e):=by
 refine⟨cnt_new h.1 hv,fun k hk=>?_⟩
 by_cases hu:e.2.1=Z5
 ·rw[new_und hu] at hk ⊢
  rw[zn] at hk
  have h2:=h.2 k (by omega)
  rw[List.take_take,show min k (c.length-1)=k by omega,ze,qo,if_pos (by omega),<-ze]
  exact h2
 rw[new_add hu] at hk ⊢
 rw[za,qb] at hk
 by_cases h1:k<c.length
 ·rw[zK (by omega),ze,qa h1,<-ze]
  exact h.2 k h1
 have hk2:k=c.length:=by omega
 subst hk2
 rw[zK (by omega),List.take_length,ze,z8 (by omega),show c.length-c.length=0 by omega]
 show (ZB (qZ c) e).2=0
 rw[<-(ay_yes ha hu).1];exact ha
theorem acc_ref {n:Nat} {c:List Ev} {e:Ev} (h1:¬e.1≠((n:Nat):Int)+1) (h2:¬e.2.1=Z5):(jQ n c e).2=rfF (qZ c) e:=by
 by_cases h3:evI e 0<(qZ c).1
 ·rw[ap_sta h1 h2 h3,rf_old h3]
 rw[ap_eff h1 h2 h3,rf_new h3]
def undF (c:List Ev):Int:=if ((c.length:Nat):Int)=0 then 12 else if (bif (decide (lastK c=jV)) then true else (decide (lastK c=ZN)))=true then 18 else 0
theorem acc_und {n:Nat} {c:List Ev} {e:Ev} (h1:¬e.1≠((n:Nat):Int)+1) (h2:e.2.1=Z5):(jQ n c e).2=undF c:=by
 unfold undF
 by_cases h3:((c.length:Nat):Int)=0
 ·rw[ap_emp h1 h2 h3,if_pos h3]
 rw[ap_und h1 h2 h3,if_neg h3]
 cases (bif (decide (lastK c=jV)) then true else (decide (lastK c=ZN)))<;>rfl
theorem cnt_acc:∀ (l:List Ev) (n:Nat) (C:List Ev),AccOk n C->AccOk (n+l.length) (cntG n C l).1
 | [],n,C,h=>h
 | e::l,n,C,h=>by
  have z:∀ m,AccOk m []:=fun m=>⟨⟨zq _,fun e he=>by cases he⟩,fun k hk=>absurd hk (by simp)⟩
  rw[cntG]
  split
  ·exact z _
  split
  ·exact z _
  rename_i h1 h2
  have:=cnt_acc l (n+1) _ (acc_new h (zi.1 h1) (zi.1 h2))
  rw[zb,show n+(l.length+1)=n+1+l.length by omega];exact this
theorem cntF_acc (l:List Ev):AccOk l.length (cntF l).1:=by
 have:=cnt_acc l 0 [] acc_nil
 rwa [Nat.zero_add] at this
section
variable {n:Nat} {C l:List Ev} {x:Ev}
theorem cg_c1 (h:jp x≠0):cntG n C (x::l)=([],n+1,jp x):=by rw[cntG,if_pos h]
theorem cg_c2 (h:jp x=0) (h2:(jQ n C x).2≠0):cntG n C (x::l)=([],n+1,(jQ n C x).2):=by rw[cntG,if_neg (fun k=>k h),if_pos h2]
theorem cg_c3 (h:jp x=0) (h2:(jQ n C x).2=0):cntG n C (x::l)=cntG (n+1) (newC C x) l:=by rw[cntG,if_neg (fun k=>k h),if_neg (fun k=>k h2)]
end
end Go.Lens.Tm
end
section
namespace Go.Lens.Tm
open Go.Lens.Tb Go.Proofs
variable [Lz]
set_option maxHeartbeats 4000000
set_option maxRecDepth 100000
attribute [local irreducible] TK PK T RG EfR Body CG
theorem bne_f {b:Bool} (h:b=false):¬b=true:=by rw[h];simp
theorem ve_len1 {e:Ev} (hv:jp e=0) (hu:¬e.2.1=Z5):1<=e.2.2.2.1.length:=by
 rcases ve_kind hv hu with hk|hk|hk|hk|hk
 ·have:=len_tar hv hk;omega
 ·have:=len_act hv hk;omega
 ·have:=len_run hv hk;omega
 ·have:=len_obs hv hk;omega
 have:=len_cal hv hk;omega
theorem do_len {e:Ev} (hv:jp e=0):e.2.1=jV->0<e.2.2.1.length/\jI (jV,evN e,0)=0:=fun hk=>by
 have h:=len_act hv hk
 exact⟨by omega,evN_chk hv (by omega)⟩
theorem do_bnd {n:Nat} {r:Reg} {e:Ev} (hR:k9 n r) (hv:jp e=0) (hk:e.2.1=jV\/e.2.1=ZN):r.2.2.2.2.2.length+(doF r e).1.2.2.length<=1000:=by
 have key:Wf 4 (scrE e)/\∀ c∈scrE e,jI c=0:=by
  rcases hk with hk|hk
  ·have e1:scrE e=[(jV,evN e,0)]:=if_pos hk
   rw[e1];exact⟨act_wf _,act_chk (do_len hv hk).2⟩
  have e1:scrE e=(qY ZE e.2.2.2.2).1:=if_neg (by rw[hk];decide)
  rw[e1];exact⟨parScr_wf _ _,(jL _ _).2⟩
 exact (taks_ok2 (hR.run (kT hv 0)) (unr_chk key.1 key.2)).2.2.2
theorem vers_len {n:Nat} {r:Reg} (hR:k9 n r) (m:List UInt8):∀ x∈vers r m,x.length<=1000:=fun x hx=>by
 have:=(chk_parts (vers_chk hR m x hx)).1
 omega
theorem by277:ty277.info.bytes=48:=by kernel_rfl
theorem by60:ty60.info.bytes=24:=by kernel_rfl
theorem in277:tab.info? 277=some ty277.info:=by kernel_rfl
theorem in60:tab.info? 60=some ty60.info:=by kernel_rfl
theorem sz134:szT tab 134=some 1:=by kernel_rfl
theorem sz27:szT tab 27=some 1:=by kernel_rfl
theorem sz277:szT tab 277=some 3:=by kernel_rfl
theorem un134:tab.underlying 134=some (.slice 277):=by kernel_rfl
theorem w199:CKa 199 [] (.pv (.agg [pI 0,pS (bsO [105,100,108,101]),pI 0,pB false,pB false,pL eT [],pL eN [],pL eD [],pL eP []])):=by
 exact cG qf199 Z (nB Z) Z (E Z (B.jj Z (fun l=>Frz.boxN l Z) Z) (E Z (B.jj (val:=.pv (.agg [pI 0,pS (bsO [105,100,108,101]),pI 0,pB false,pB false,pL eT [],pL eN [],pL eD [],pL eP []])) Z (fun l=>Frz.aggN l Z) Z) (Rt Z (leaf Z Z))))
theorem w203 (r:Reg) (n:List UInt8) (hD:r.2.2.2.2.1.length<=1000000):CKa 203 [.pv (gR r),vS (bsO n)] (vL eVf (vers r n)):=by
 refine cG qf203 Z (nB Z) Z (E Z (B.j8 (enc:=eVf) Z) (E Z (B.run Z) (l3 (fun (k:Nat) (v:Nat) (o:List (List Fld))=>[(1,vS (bsO n)),(2,.bref 3 0),(5,.aref 8 v),(6,vI k)]) (fun _ v o=>[(3,bR 136 r),(8,.arr v 1 60 (List.map eVf o))]) (fun k _ o=>k<=r.2.2.2.2.1.length/\o=versK r.2.2.2.2.1 n k/\o.length<=k+1) (fun k _ _=>r.2.2.2.2.1.length-k) 0 0 ([[]]) Z ?_ (sb Z Z Z) ?_)))
 · exact⟨zq _,rfl,by simp⟩
 intro k v o hI0
 refine E Z (B.jh Z un134) (Cp Z Z (fun h1=>?_) (fun h1=>?_))
 ·refine E Z (B.idx (z:=zD) (i:=k) Z Z un134 sz277 (fun _=>rfl) Z (by omega)) (E Z (B.seqB (a:=(r.2.2.2.2.1.getD k zD).1) (b:=n) Z Z) (Cp Z Z (fun h2=>?_) (fun h2=>?_)))
  ·refine E Z (B.idx (z:=zD) (i:=k) Z Z un134 sz277 (fun _=>rfl) Z (by omega)) (E Z (B.jj (val:=.pv (.slice (List.map eVf [(r.2.2.2.2.1.getD k zD).2.2]))) Z (fun l=>Frz.arr l _ _ _ _ _) Z) (E Z (B.append Z Z Z un212 in60 Z (fun _=>rfl) by60 (by (simp only[za,zb,zd];omega))) (E Z (B.add Z Z (by unfold R64;omega)) (pk Z (L3 (k+1) (v+1) (o++[(r.2.2.2.2.1.getD k zD).2.2]) ?_ ?_ (sb Z Z Z))))))
   ·
     exact⟨by omega,vk_hit hI0.2.1 (by omega) h2,by rw[za,qb];omega⟩
   · omega
  refine E Z (B.add Z Z (by unfold R64;omega)) (pk Z (L3 (k+1) v o ?_ ?_ (sb Z Z Z)))
  ·
    exact⟨by omega,vk_skip hI0.2.1 (by omega) h2,by omega⟩
  · omega
 exact Fz 7 5 Z Z Z (Rt Z (leaf (val0:=vL eVf o) (by kernel_rfl) (lsl (by exact vk_end hI0.2.1 (by omega)))))
theorem w268 (e:Ev) (hN:0<e.2.2.1.length) (hV:7<=e.2.2.2.1.length):CKa 268 [.pv (gV e)] (.pv (.agg [pS (bsO (evN e)),pI (e.2.2.2.1.getD 1 0),pI (e.2.2.2.1.getD 2 0),pI (e.2.2.2.1.getD 3 0),pI (e.2.2.2.1.getD 4 0),pI (e.2.2.2.1.getD 5 0),pI (e.2.2.2.1.getD 6 0)])):=by
 refine cG qf268 Z (nB Z) Z (E Z (B.idx (z:=[]) (i:=0) Z Z ji sz9 (fun _=>rfl) Z (by omega)) (E Z (B.idx (z:=0) (i:=1) Z Z ku sz3 (fun _=>rfl) Z (by omega)) (E Z (B.idx (z:=0) (i:=2) Z Z ku sz3 (fun _=>rfl) Z (by omega)) (E Z (B.idx (z:=0) (i:=3) Z Z ku sz3 (fun _=>rfl) Z (by omega)) (E Z (B.idx (z:=0) (i:=4) Z Z ku sz3 (fun _=>rfl) Z (by omega)) (E Z (B.idx (z:=0) (i:=5) Z Z ku sz3 (fun _=>rfl) Z (by omega)) (E Z (B.idx (z:=0) (i:=6) Z Z ku sz3 (fun _=>rfl) Z (by omega)) ?_)))))))
 refine Eb 1 Z (B.run (val:=.pv (.agg [pS (bsO (evN e)),pI (e.2.2.2.1.getD 1 0),pI (e.2.2.2.1.getD 2 0),pI (e.2.2.2.1.getD 3 0),pI (e.2.2.2.1.getD 4 0),pI (e.2.2.2.1.getD 5 0),pI (e.2.2.2.1.getD 6 0)])) (m:=[]) (rd:=[]) (by kernel_rfl)) ?_
 exact Dr Z (by kernel_rfl) (Rt Z (leaf Z Z))
theorem w269 (hp:qH) (hm:HMa) (r:Reg) (e:Ev) (hok:OkN (r.2.2.2.2.2.length) (r.2.1,(e.2.2.2.1.getD 0 0),[])) (hV:1<=e.2.2.2.1.length) (hA:e.2.1=jV->0<e.2.2.1.length/\jI (jV,evN e,0)=0) (hT:e.2.2.2.2.length<=4000):CKa 269 [.pv (gR r),.pv (gV e)] (.tup [.pv (.agg [pS (bsO (doF r e).1.1.1),pI (doF r e).1.1.2.1,pB (doF r e).1.1.2.2.1,pB (doF r e).1.1.2.2.2,pI (doF r e).1.2.1,pL eP (doF r e).1.2.2,pI (r.2.2.2.2.2.length:Int)]),vI (doF r e).2]):=by
 refine cG qf269 Z (nB Z) Z ?_
 refine E Z (B.jj Z (fun l=>Frz.boxN l Z) Z) ?_
 refine E Z (B.idx (z:=0) (i:=0) Z Z ku sz3 (fun _=>rfl) Z (by omega)) ?_
 refine E Z (B.jh Z un90) ?_
 refine E Z (B.jj (val:=.pv (.agg [pS (bsO r.2.1.1),pI r.2.1.2.1,pB r.2.1.2.2.1,pB r.2.1.2.2.2,pI (e.2.2.2.1.getD 0 0),pL eP [],pI (r.2.2.2.2.2.length:Int)])) Z (fun l=>Frz.aggN l Z) Z) ?_
 refine E Z (B.jj Z (fun l=>Frz.boxN l Z) Z) ?_
 refine Dr Z (by kernel_rfl) ?_
 refine E Z (B.seqB (a:=e.2.1) (b:=[97,99,116]) Z Z) ?_
 refine Cp Z Z (fun h1=>?_) (fun h1=>?_)
 ·have ha:=hA h1
  exact E Z (B.idx (z:=[]) (i:=0) Z Z ji sz9 (fun _=>rfl) Z (by omega)) (E Z (B.jj (val:=.pv (.slice (List.map eC [([97,99,116],(evN e),0)]))) Z (fun l=>Frz.arr l _ _ _ _ _) Z) (C Z (w126b hp hm (r.2.2.2.2.2.length) (r.2.1,(e.2.2.2.1.getD 0 0),[]) [([97,99,116],(evN e),0)] hok (act_wf _) (act_chk ha.2) (nB Z)) Z Z Z (Dr Z (by kernel_rfl) (Rt Z (leaf (val0:=.tup [.pv (.agg [pS (bsO (jb (r.2.2.2.2.2.length) (r.2.1,(e.2.2.2.1.getD 0 0),[]) (q9 [([97,99,116],(evN e),0)])).1.1.1),pI (jb (r.2.2.2.2.2.length) (r.2.1,(e.2.2.2.1.getD 0 0),[]) (q9 [([97,99,116],(evN e),0)])).1.1.2.1,pB (jb (r.2.2.2.2.2.length) (r.2.1,(e.2.2.2.1.getD 0 0),[]) (q9 [([97,99,116],(evN e),0)])).1.1.2.2.1,pB (jb (r.2.2.2.2.2.length) (r.2.1,(e.2.2.2.1.getD 0 0),[]) (q9 [([97,99,116],(evN e),0)])).1.1.2.2.2,pI (jb (r.2.2.2.2.2.length) (r.2.1,(e.2.2.2.1.getD 0 0),[]) (q9 [([97,99,116],(evN e),0)])).1.2.1,pL eP (jb (r.2.2.2.2.2.length) (r.2.1,(e.2.2.2.1.getD 0 0),[]) (q9 [([97,99,116],(evN e),0)])).1.2.2,pI (r.2.2.2.2.2.length:Int)]),vI (jb (r.2.2.2.2.2.length) (r.2.1,(e.2.2.2.1.getD 0 0),[]) (q9 [([97,99,116],(evN e),0)])).2]) (by kernel_rfl) (by (rw[do_act h1]<;>rfl)))))))
 exact C Z (w58 e.2.2.2.2 (by omega)) Z Z Z (C Z (w126b hp hm (r.2.2.2.2.2.length) (r.2.1,(e.2.2.2.1.getD 0 0),[]) (qY ZE e.2.2.2.2).1 hok (parScr_wf _ _) (jL _ _).2 (jL _ _).1) Z Z Z (Rt Z (leaf (val0:=.tup [.pv (.agg [pS (bsO (jb (r.2.2.2.2.2.length) (r.2.1,(e.2.2.2.1.getD 0 0),[]) (q9 (qY ZE e.2.2.2.2).1)).1.1.1),pI (jb (r.2.2.2.2.2.length) (r.2.1,(e.2.2.2.1.getD 0 0),[]) (q9 (qY ZE e.2.2.2.2).1)).1.1.2.1,pB (jb (r.2.2.2.2.2.length) (r.2.1,(e.2.2.2.1.getD 0 0),[]) (q9 (qY ZE e.2.2.2.2).1)).1.1.2.2.1,pB (jb (r.2.2.2.2.2.length) (r.2.1,(e.2.2.2.1.getD 0 0),[]) (q9 (qY ZE e.2.2.2.2).1)).1.1.2.2.2,pI (jb (r.2.2.2.2.2.length) (r.2.1,(e.2.2.2.1.getD 0 0),[]) (q9 (qY ZE e.2.2.2.2).1)).1.2.1,pL eP (jb (r.2.2.2.2.2.length) (r.2.1,(e.2.2.2.1.getD 0 0),[]) (q9 (qY ZE e.2.2.2.2).1)).1.2.2,pI (r.2.2.2.2.2.length:Int)]),vI (jb (r.2.2.2.2.2.length) (r.2.1,(e.2.2.2.1.getD 0 0),[]) (q9 (qY ZE e.2.2.2.2).1)).2]) (by kernel_rfl) (by (rw[do_run h1]<;>rfl)))))
theorem w271 (hp:qH) (r:Reg) (e:Ev) (hD:r.2.2.2.2.1.length<=1000000) (hN:0<e.2.2.1.length) (hV:2<=e.2.2.2.1.length) (hT:e.2.2.2.2.length<=4000) (hv1:0<=(e.2.2.2.1.getD 1 0)) (hF:∀ x∈(vers r (evN e)),x.length<=1000):CKa 271 [.pv (gR r),.pv (gV e)] (.tup [vL eF (wrF r e).1,vI (wrF r e).2]):=by
 refine cG qf271 Z (nB Z) Z ?_
 have hvl:1<=List.length (vers r (evN e)):=Nat.le_add_left 1 _
 have hvu:List.length (vers r (evN e))<=1000001:=by rw[verL_len];exact Nat.succ_le_succ (qi (List.length_filter_le _ _) hD)
 refine E Z (B.j8 (enc:=eF) Z) (E Z (B.idx (z:=[]) (i:=0) Z Z ji sz9 (fun _=>rfl) Z (by omega)) (C Z (w203 r (evN e) (by omega)) Z Z Z (Dr Z (by kernel_rfl) (E Z (B.jh Z un212) (E Z (B.sub Z Z (by unfold R64;omega)) (E Z (B.idx (z:=0) (i:=1) Z Z ku sz3 (fun _=>rfl) Z (by omega)) (Cp Z Z (fun h1=>?_) (fun h1=>?_))))))))
 ·exact E Z (B.j8 (enc:=eF) Z) (Rt Z (leaf (val0:=.tup [vL eF [],vI 20]) (by kernel_rfl) (tup2 (lsl (by (rw[wr_1 h1]<;>rfl))) (li (by (rw[wr_1 h1]<;>rfl))))))
 refine Cp Z Z (fun h2=>?_) (fun h2=>?_)
 ·exact E Z (B.j8 (enc:=eF) Z) (Rt Z (leaf (val0:=.tup [vL eF [],vI 5]) (by kernel_rfl) (tup2 (lsl (by (rw[wr_2 h1 h2]<;>rfl))) (li (by (rw[wr_2 h1 h2]<;>rfl))))))
 refine C Z (w40 e.2.2.2.2 (by omega)) Z Z Z (E Z (B.idx (z:=0) (i:=1) Z Z ku sz3 (fun _=>rfl) Z (by omega)) (Cp Z Z (fun h3=>?_) (fun h3=>?_)))
 ·exact Rt Z (leaf (val0:=.tup [vL eF (kW e.2.2.2.2).1,vI 0]) (by kernel_rfl) (tup2 (lsl (by (rw[wr_3 h1 h2 h3]<;>rfl))) (li (by (rw[wr_3 h1 h2 h3]<;>rfl)))))
 have hf1:=hF _ (getD_mem (z:=[]) (k:=Int.toNat (e.2.2.2.1.getD 1 0)) (by omega))
 have hf2:=hF _ (getD_mem (z:=[]) (k:=List.length (vers r (evN e))-1) (by omega))
 have hf3:=(parF_len e.2.2.2.2).1
 refine E Z (B.idx (z:=0) (i:=1) Z Z ku sz3 (fun _=>rfl) Z (by omega)) (E Z (B.idx (z:=[]) (i:=(Int.toNat (e.2.2.2.1.getD 1 0))) Z Z un212 sz60 (fun _=>rfl) (Int.toNat_of_nonneg (by omega)).symm (by omega)) (E Z (B.idx (z:=[]) (i:=(List.length (vers r (evN e))-1)) Z Z un212 sz60 (fun _=>rfl) (by omega) (by omega)) (C Z (w122 (List.getD (vers r (evN e)) (Int.toNat (e.2.2.2.1.getD 1 0)) []) (kW e.2.2.2.2).1 (List.getD (vers r (evN e)) (List.length (vers r (evN e))-1) []) (by omega) (by omega) (by omega)) Z Z Z (Dr Z (by kernel_rfl) (E Z (B.jh Z ji) (Cp Z Z (fun h4=>?_) (fun h4=>?_)))))))
 ·exact E Z (B.j8 (enc:=eF) Z) (Rt Z (leaf (val0:=.tup [vL eF [],vI 29]) (by kernel_rfl) (tup2 (lsl (by (rw[wr_4 h1 h2 h3 h4]<;>rfl))) (li (by (rw[wr_4 h1 h2 h3 h4]<;>rfl))))))
 refine E Z (B.jh Z un60) (Cp Z Z (fun h5=>?_) (fun h5=>?_))
 ·exact E Z (B.j8 (enc:=eF) Z) (Rt Z (leaf (val0:=.tup [vL eF [],vI 4]) (by kernel_rfl) (tup2 (lsl (by (rw[wr_5 h1 h2 h3 h4 h5]<;>rfl))) (li (by (rw[wr_5 h1 h2 h3 h4 h5]<;>rfl))))))
 exact Rt Z (leaf (val0:=.tup [vL eF (refM (List.getD (vers r (evN e)) (Int.toNat (e.2.2.2.1.getD 1 0)) []) (kW e.2.2.2.2).1 (List.getD (vers r (evN e)) (List.length (vers r (evN e))-1) [])).1,vI 0]) (by kernel_rfl) (tup2 (lsl (by (rw[wr_6 h1 h2 h3 h4 h5]<;>rfl))) (li (by (rw[wr_6 h1 h2 h3 h4 h5]<;>rfl)))))
theorem w200 (hp:qH) (hm:HMa) (n:Nat) (r:Reg) (e:Ev) (hR:k9 n r) (hn:n<=1000) (hV:VerOk r.2.2.2.2.1) (hv:jp e=0) (hu:¬e.2.1=Z5) (hT:e.2.2.2.2.length<=4000) (h0:(ZB r e).2=0):CKa 200 [.pv (gR r),.pv (gV e)] (.pv (gR ((ZB r e).1))):=by
 refine cG qf200 Z (nB Z) Z ?_
 obtain⟨⟨hr1,hr2,hr3,hr4⟩,hr5⟩:=ro_len hR hn
 have hl1:=ve_len1 hv hu
 have hd0:=do_len hv
 refine E Z (B.jj Z (fun l=>Frz.boxN l Z) Z) (E Z (B.seqB (a:=e.2.1) (b:=[116,97,114,103,101,116]) Z Z) (Cp Z Z (fun h1=>?_) (fun h1=>?_)))
 ·have hkl:=len_tar hv (by assumption)
  refine E Z (B.run Z) (E Z (B.append (enc:=eT) (l:=[]) (r:=r.2.2.1) Z Z Z un27 in49 Z (fun _=>rfl) by49 (by (simp only[za,zb,zd];omega))) (C Z (w268 e (by omega) (by omega)) Z Z Z (E Z (B.jj (val:=.pv (.slice (List.map eT [(tgO e)]))) Z (fun l=>Frz.arr l _ _ _ _ _) Z) (E Z (B.append Z Z Z un27 in49 Z (fun _=>rfl) by49 (by (simp only[za,zb,zd];omega))) (E Z (B.storeR Z Z Z Z sz27 Z Z) (Dr Z (by kernel_rfl) ?_))))))
  refine tk 15 Z ?_
  refine TK.frzC (h:=3) (h2:=14) (cs:=[pI r.1,pS (bsO r.2.1.1),pI r.2.1.2.1,pB r.2.1.2.2.1,pB r.2.1.2.2.2,pL eT (r.2.2.1++[(tgO e)]),pL eN r.2.2.2.1,pL eD r.2.2.2.2.1,pL eP r.2.2.2.2.2]) Z Z Z ?_
  refine TK.norm ⟨[(2,.bref 3 0),(3,.bref 4 0),(4,.bref 5 0)],[(3,.box 136 [vI r.1,vS (bsO r.2.1.1),vI r.2.1.2.1,vB r.2.1.2.2.1,vB r.2.1.2.2.2,vL eT (r.2.2.1++[(tgO e)]),vL eN r.2.2.2.1,vL eD r.2.2.2.2.1,vL eP r.2.2.2.2.2]),(4,bV 119 e),(5,.box 136 [vI 0,vS (bsO []),vI 0,vB false,vB false,vL eT [],vL eN [],vL eD [],vL eP []])]⟩ (sb Z Z Z) ?_
  exact kc (E Z (B.idx (z:=0) (i:=0) Z Z ku sz3 (fun _=>rfl) Z (by omega)) (Rt Z (leaf (val0:=.pv (.agg [pI (e.2.2.2.1.getD 0 0),pS (bsO r.2.1.1),pI r.2.1.2.1,pB r.2.1.2.2.1,pB r.2.1.2.2.2,pL eT (r.2.2.1++[(tgO e)]),pL eN r.2.2.2.1,pL eD r.2.2.2.2.1,pL eP r.2.2.2.2.2])) (by kernel_rfl) (by (rw[af_tar (by assumption) h0]<;>rfl)))))
 refine E Z (B.seqB (a:=e.2.1) (b:=[97,99,116]) Z Z) (Cp Z Z (fun h2=>?_) (fun h2=>?_))
 ·refine Cp Z Z (fun h3=>?_) (fun h3=>?_)
  ·have hk:e.2.1=jV\/e.2.1=ZN:=by exact .inl (by assumption)
   refine C Z (w269 hp hm r e (hR.run (kT hv 0)) (by omega) hd0 hT) Z Z Z (E Z (B.jj Z (fun l=>Frz.boxN l Z) Z) ?_)
   have hdb:=do_bnd hR hv hk
   refine E Z (B.run Z) (E Z (B.append (enc:=eP) (l:=[]) (r:=r.2.2.2.2.2) Z Z Z un90 in176 Z (fun _=>rfl) by176 (by (simp only[za,zb,zd];omega))) (E Z (B.append Z Z Z un90 in176 Z (fun _=>rfl) by176 (by (simp only[za,zb,zd];omega))) (E Z (B.storeR Z Z Z Z sz90 Z Z) (Dr Z (by kernel_rfl) ?_))))
   refine tk 9 Z ?_
   refine TK.frzC (h:=3) (h2:=34) (cs:=[pI (doF r e).1.2.1,pS (bsO (doF r e).1.1.1),pI (doF r e).1.1.2.1,pB (doF r e).1.1.2.2.1,pB (doF r e).1.1.2.2.2,pL eT r.2.2.1,pL eN r.2.2.2.1,pL eD r.2.2.2.2.1,pL eP (r.2.2.2.2.2++(doF r e).1.2.2)]) Z Z Z ?_
   refine TK.norm ⟨[(2,.bref 3 0),(4,.bref 5 0)],[(3,.box 136 [vI (doF r e).1.2.1,vS (bsO (doF r e).1.1.1),vI (doF r e).1.1.2.1,vB (doF r e).1.1.2.2.1,vB (doF r e).1.1.2.2.2,vL eT r.2.2.1,vL eN r.2.2.2.1,vL eD r.2.2.2.2.1,vL eP (r.2.2.2.2.2++(doF r e).1.2.2)]),(5,.box 136 [vI 0,vS (bsO []),vI 0,vB false,vB false,vL eT [],vL eN [],vL eD [],vL eP []])]⟩ (sb Z Z Z) ?_
   exact kc (Rt Z (leaf (val0:=.pv (.agg [pI (doF r e).1.2.1,pS (bsO (doF r e).1.1.1),pI (doF r e).1.1.2.1,pB (doF r e).1.1.2.2.1,pB (doF r e).1.1.2.2.2,pL eT r.2.2.1,pL eN r.2.2.2.1,pL eD r.2.2.2.2.1,pL eP (r.2.2.2.2.2++(doF r e).1.2.2)])) (by kernel_rfl) (by (rw[af_do hv hk h0]<;>rfl))))
  exact absurd h2 h3
 refine E Z (B.seqB (a:=e.2.1) (b:=[114,117,110]) Z Z) (Cp Z Z (fun h4=>?_) (fun h4=>?_))
 ·have hk:e.2.1=jV\/e.2.1=ZN:=by exact .inr (by assumption)
  refine C Z (w269 hp hm r e (hR.run (kT hv 0)) (by omega) hd0 hT) Z Z Z (E Z (B.jj Z (fun l=>Frz.boxN l Z) Z) ?_)
  have hdb:=do_bnd hR hv hk
  refine E Z (B.run Z) (E Z (B.append (enc:=eP) (l:=[]) (r:=r.2.2.2.2.2) Z Z Z un90 in176 Z (fun _=>rfl) by176 (by (simp only[za,zb,zd];omega))) (E Z (B.append Z Z Z un90 in176 Z (fun _=>rfl) by176 (by (simp only[za,zb,zd];omega))) (E Z (B.storeR Z Z Z Z sz90 Z Z) (Dr Z (by kernel_rfl) ?_))))
  refine tk 9 Z ?_
  refine TK.frzC (h:=3) (h2:=34) (cs:=[pI (doF r e).1.2.1,pS (bsO (doF r e).1.1.1),pI (doF r e).1.1.2.1,pB (doF r e).1.1.2.2.1,pB (doF r e).1.1.2.2.2,pL eT r.2.2.1,pL eN r.2.2.2.1,pL eD r.2.2.2.2.1,pL eP (r.2.2.2.2.2++(doF r e).1.2.2)]) Z Z Z ?_
  refine TK.norm ⟨[(2,.bref 3 0),(4,.bref 5 0)],[(3,.box 136 [vI (doF r e).1.2.1,vS (bsO (doF r e).1.1.1),vI (doF r e).1.1.2.1,vB (doF r e).1.1.2.2.1,vB (doF r e).1.1.2.2.2,vL eT r.2.2.1,vL eN r.2.2.2.1,vL eD r.2.2.2.2.1,vL eP (r.2.2.2.2.2++(doF r e).1.2.2)]),(5,.box 136 [vI 0,vS (bsO []),vI 0,vB false,vB false,vL eT [],vL eN [],vL eD [],vL eP []])]⟩ (sb Z Z Z) ?_
  exact kc (Rt Z (leaf (val0:=.pv (.agg [pI (doF r e).1.2.1,pS (bsO (doF r e).1.1.1),pI (doF r e).1.1.2.1,pB (doF r e).1.1.2.2.1,pB (doF r e).1.1.2.2.2,pL eT r.2.2.1,pL eN r.2.2.2.1,pL eD r.2.2.2.2.1,pL eP (r.2.2.2.2.2++(doF r e).1.2.2)])) (by kernel_rfl) (by (rw[af_do hv hk h0]<;>rfl))))
 refine E Z (B.seqB (a:=e.2.1) (b:=[111,98,115,101,114,118,101]) Z Z) (Cp Z Z (fun h5=>?_) (fun h5=>?_))
 ·have hkl:=len_obs hv (by assumption)
  refine E Z (B.run Z) (E Z (B.append (enc:=eN) (l:=[]) (r:=r.2.2.2.1) Z Z Z ji in9 Z (fun _=>rfl) by9 (by (simp only[za,zb,zd];omega))) (E Z (B.idx (z:=[]) (i:=0) Z Z ji sz9 (fun _=>rfl) Z (by omega)) (E Z (B.jj (val:=.pv (.slice (List.map eN [(evN e)]))) Z (fun l=>Frz.arr l _ _ _ _ _) Z) (E Z (B.append Z Z Z ji in9 Z (fun _=>rfl) by9 (by (simp only[za,zb,zd];omega))) (E Z (B.storeR Z Z Z Z sz73 Z Z) (Dr Z (by kernel_rfl) ?_))))))
  refine tk 15 Z ?_
  refine TK.frzC (h:=3) (h2:=49) (cs:=[pI r.1,pS (bsO r.2.1.1),pI r.2.1.2.1,pB r.2.1.2.2.1,pB r.2.1.2.2.2,pL eT r.2.2.1,pL eN (r.2.2.2.1++[(evN e)]),pL eD r.2.2.2.2.1,pL eP r.2.2.2.2.2]) Z Z Z ?_
  refine TK.norm ⟨[(2,.bref 3 0),(3,.bref 4 0),(4,.bref 5 0)],[(3,.box 136 [vI r.1,vS (bsO r.2.1.1),vI r.2.1.2.1,vB r.2.1.2.2.1,vB r.2.1.2.2.2,vL eT r.2.2.1,vL eN (r.2.2.2.1++[(evN e)]),vL eD r.2.2.2.2.1,vL eP r.2.2.2.2.2]),(4,bV 119 e),(5,.box 136 [vI 0,vS (bsO []),vI 0,vB false,vB false,vL eT [],vL eN [],vL eD [],vL eP []])]⟩ (sb Z Z Z) ?_
  exact kc (E Z (B.idx (z:=0) (i:=0) Z Z ku sz3 (fun _=>rfl) Z (by omega)) (Rt Z (leaf (val0:=.pv (.agg [pI (e.2.2.2.1.getD 0 0),pS (bsO r.2.1.1),pI r.2.1.2.1,pB r.2.1.2.2.1,pB r.2.1.2.2.2,pL eT r.2.2.1,pL eN (r.2.2.2.1++[(evN e)]),pL eD r.2.2.2.2.1,pL eP r.2.2.2.2.2])) (by kernel_rfl) (by (rw[af_obs (by assumption) h0]<;>rfl)))))
 refine E Z (B.seqB (a:=e.2.1) (b:=[99,97,108,105,98,114,97,116,101]) Z Z) (Cp Z Z (fun h6=>?_) (fun h6=>?_))
 ·have hkl:=len_cal hv (by assumption)
  refine C Z (w271 hp r e (by omega) (by omega) (by omega) hT (kT hv 1).1 (vers_len hR _)) Z Z Z (E Z (B.run Z) (E Z (B.append (enc:=eD) (l:=[]) (r:=r.2.2.2.2.1) Z Z Z un134 in277 Z (fun _=>rfl) by277 (by (simp only[za,zb,zd];omega))) (E Z (B.idx (z:=[]) (i:=0) Z Z ji sz9 (fun _=>rfl) Z (by omega)) (E Z (B.idx (z:=[]) (i:=0) Z Z ji sz9 (fun _=>rfl) Z (by omega)) (C Z (w203 r (evN e) (by omega)) Z Z Z (E Z (B.jh Z un212) (E Z (B.jj (val:=.pv (.slice (List.map eD [((evN e),((List.length (vers r (evN e)):Nat):Int),(wrF r e).1)]))) Z (fun l=>Frz.arr l _ _ _ _ _) Z) (E Z (B.append Z Z Z un134 in277 Z (fun _=>rfl) by277 (by (simp only[za,zb,zd];omega))) (E Z (B.storeR Z Z Z Z sz134 Z Z) (Dr Z (by kernel_rfl) ?_))))))))))
  refine tk 15 Z ?_
  refine TK.frzC (h:=3) (h2:=68) (cs:=[pI r.1,pS (bsO r.2.1.1),pI r.2.1.2.1,pB r.2.1.2.2.1,pB r.2.1.2.2.2,pL eT r.2.2.1,pL eN r.2.2.2.1,pL eD (r.2.2.2.2.1++[((evN e),((List.length (vers r (evN e)):Nat):Int),(wrF r e).1)]),pL eP r.2.2.2.2.2]) Z Z Z ?_
  refine TK.norm ⟨[(2,.bref 3 0),(3,.bref 4 0),(4,.bref 5 0)],[(3,.box 136 [vI r.1,vS (bsO r.2.1.1),vI r.2.1.2.1,vB r.2.1.2.2.1,vB r.2.1.2.2.2,vL eT r.2.2.1,vL eN r.2.2.2.1,vL eD (r.2.2.2.2.1++[((evN e),((List.length (vers r (evN e)):Nat):Int),(wrF r e).1)]),vL eP r.2.2.2.2.2]),(4,bV 119 e),(5,.box 136 [vI 0,vS (bsO []),vI 0,vB false,vB false,vL eT [],vL eN [],vL eD [],vL eP []])]⟩ (sb Z Z Z) ?_
  exact kc (E Z (B.idx (z:=0) (i:=0) Z Z ku sz3 (fun _=>rfl) Z (by omega)) (Rt Z (leaf (val0:=.pv (.agg [pI (e.2.2.2.1.getD 0 0),pS (bsO r.2.1.1),pI r.2.1.2.1,pB r.2.1.2.2.1,pB r.2.1.2.2.2,pL eT r.2.2.1,pL eN r.2.2.2.1,pL eD (r.2.2.2.2.1++[((evN e),((List.length (vers r (evN e)):Nat):Int),(wrF r e).1)]),pL eP r.2.2.2.2.2])) (by kernel_rfl) (by (rw[af_cal hR hV hv (by assumption) h0]<;>rfl)))))
 exfalso;rcases ve_kind hv hu with h|h|h|h|h<;>contradiction
theorem w148 (hp:qH) (hm:HMa) (n:Nat) (c:List Ev) (ha:AccOk n c) (hn:n<=1000) (hT:∀ e∈c,e.2.2.2.2.length<=4000):CKa 148 [vL eE c] (.pv (gR (qZ c))):=by
 refine cG qf148 Z (nB Z) Z ?_
 have hcl:=ha.1.1
 refine E Z (B.jj Z (fun l=>Frz.boxN l Z) Z) (C Z (w199) Z Z Z (E Z (B.jj Z (fun l=>Frz.boxN l Z) Z) (l2 (fun (k:Nat) (r:Reg)=>[(0,vL eE c),(2,.bref 3 0),(3,.bref 4 0),(4,vI k)]) (fun _ r=>[(3,.box 136 [vI 0,vS (bsO []),vI 0,vB false,vB false,vL eT [],vL eN [],vL eD [],vL eP []]),(4,bR 136 r)]) (fun k r=>k<=c.length/\r=qZ (List.take k c)) (fun k _=>c.length-k) 0 iR Z ?_ (sb Z Z Z) ?_)))
 · exact⟨zq _,rfl⟩
 intro k r hI0
 refine E Z (B.jh Z jt) (Cp Z Z (fun h1=>?_) (fun h1=>?_))
 ·have hke:k<c.length:=by omega
  have hme:=getD_mem (z:=zV) hke
  have hrk:=(regF_ok (cnt_take ha.1 k))
  have hvk:=regF_ver (cnt_take ha.1 k)
  have h0k:=ha.2 k hke
  rw[<-hI0.2] at hrk hvk h0k
  refine E Z (B.idx (z:=zV) (i:=k) Z Z jt kJ (fun _=>rfl) Z (by omega)) (C Z (w200 hp hm n r (c.getD k zV) hrk hn hvk (ha.1.2 _ hme).1 (ha.1.2 _ hme).2 (hT _ hme) h0k) Z Z Z (Dr Z (by kernel_rfl) (E Z (B.add Z Z (by unfold R64;omega)) (pk Z (L2 (k+1) (ZB r (c.getD k zV)).1 ?_ ?_ (sb Z Z Z))))))
  · exact⟨by omega,by rw[<-take_gx zV hke,regF_snoc,<-hI0.2]⟩
  · omega
 exact Rt Z (leaf (val0:=.pv (gR r)) (by kernel_rfl) (by rw[hI0.2,zx (by omega)]))
theorem w197 (c:List Ev) (hl:c.length<=1000000):CKa 197 [vL eE c] (vI (undF c)):=by
 refine cG qf197 Z (nB Z) Z (E Z (B.jh Z jt) (Cp Z Z (fun h1=>?_) (fun h1=>?_)))
 ·exact Rt Z (leaf (val0:=vI 12) (by kernel_rfl) (li (by (rw[undF,if_pos h1]))))
 refine E Z (B.jh Z jt) (E Z (B.sub Z Z (by unfold R64;omega)) (E Z (B.idx (z:=zV) (i:=(c.length-1)) Z Z jt kJ (fun _=>rfl) (by omega) (by omega)) (E Z (B.seqB (a:=(c.getD (c.length-1) zV).2.1) (b:=[97,99,116]) Z Z) (Eg Z Z (fun hc=>B.move Z) Z (Eg Z Z (fun hc=>B.seqB (a:=(c.getD (c.length-1) zV).2.1) (b:=[114,117,110]) (qy Z hc) Z) Z (E Z (B.pick Z Z Z Z (gdB Z) (q7 _)) (Cb Z Z (fun h2=>?_) (fun h2=>?_))))))))
 ·exact Rt Z (leaf (val0:=vI 18) (by kernel_rfl) (li (by (rw[undF,if_neg h1,if_pos h2]))))
 exact Rt Z (leaf (val0:=vI 0) (by kernel_rfl) (li (by (rw[undF,if_neg h1,if_neg (bne_f h2)]))))
theorem w198 (hp:qH) (hm:HMa) (n:Nat) (r:Reg) (e:Ev) (hR:k9 n r) (hn:n<=1000) (hV:VerOk r.2.2.2.2.1) (hv:jp e=0) (hu:¬e.2.1=Z5) (hT:e.2.2.2.2.length<=4000):CKa 198 [.pv (gR r),.pv (gV e)] (vI (rfF r e)):=by
 refine cG qf198 Z (nB Z) Z ?_
 obtain⟨⟨hr1,hr2,hr3,hr4⟩,hr5⟩:=ro_len hR hn
 have hl1:=ve_len1 hv hu
 have hd0:=do_len hv
 refine E Z (B.idx (z:=0) (i:=0) Z Z ku sz3 (fun _=>rfl) Z (by omega)) (Dr Z (by kernel_rfl) (Cp Z Z (fun h1=>?_) (fun h1=>?_)))
 ·exact Rt Z (leaf (val0:=vI 19) (by kernel_rfl) (li (by (rw[rf_old h1]))))
 refine E Z (B.seqB (a:=e.2.1) (b:=[116,97,114,103,101,116]) Z Z) (Cp Z Z (fun h2=>?_) (fun h2=>?_))
 ·have hkl:=len_tar hv (by assumption)
  refine E Z (B.idx (z:=[]) (i:=0) Z Z ji sz9 (fun _=>rfl) Z (by omega)) (C Z (w95 r.2.2.1 (bsO (evN e)) (by omega)) Z Z Z (Dr Z (by kernel_rfl) (Cp Z Z (fun h3=>?_) (fun h3=>?_))))
  ·exact Rt Z (leaf (val0:=vI 9) (by kernel_rfl) (li (by (rw[rf_new h1,rf_tar (by assumption),tgX_eq,if_pos (by assumption)]))))
  refine E Z (B.jh Z un27) (Cp Z Z (fun h4=>?_) (fun h4=>?_))
  ·exact Rt Z (leaf (val0:=vI 5) (by kernel_rfl) (li (by (rw[rf_new h1,rf_tar (by assumption),tgX_eq,if_neg (by assumption),if_pos (by assumption)]))))
  refine C Z (w268 e (by omega) (by omega)) Z Z Z (C Z (w96 (tgO e)) Z Z Z (Cb Z Z (fun h5=>?_) (fun h5=>?_)))
  ·exact Rt Z (leaf (val0:=vI 3) (by kernel_rfl) (li (by (rw[rf_new h1,rf_tar (by assumption),tgX_eq,if_neg (by assumption),if_neg (by assumption),if_pos (by assumption)]))))
  exact Rt Z (leaf (val0:=vI 0) (by kernel_rfl) (li (by (rw[rf_new h1,rf_tar (by assumption),tgX_eq,if_neg (by assumption),if_neg (by assumption),if_neg (bne_f (by assumption))]))))
 refine E Z (B.seqB (a:=e.2.1) (b:=[97,99,116]) Z Z) (Cp Z Z (fun h6=>?_) (fun h6=>?_))
 ·refine Cp Z Z (fun h7=>?_) (fun h7=>?_)
  ·have hk:e.2.1=jV\/e.2.1=ZN:=by exact .inl (by assumption)
   exact C Z (w269 hp hm r e (hR.run (kT hv 0)) (by omega) hd0 hT) Z Z Z (E Z (B.jj Z (fun l=>Frz.boxN l Z) Z) (Rt Z (leaf (val0:=vI (doF r e).2) (by kernel_rfl) (li (by (rw[rf_new h1,rf_do hv hk]))))))
  exact absurd h6 h7
 refine E Z (B.seqB (a:=e.2.1) (b:=[114,117,110]) Z Z) (Cp Z Z (fun h8=>?_) (fun h8=>?_))
 ·have hk:e.2.1=jV\/e.2.1=ZN:=by exact .inr (by assumption)
  exact C Z (w269 hp hm r e (hR.run (kT hv 0)) (by omega) hd0 hT) Z Z Z (E Z (B.jj Z (fun l=>Frz.boxN l Z) Z) (Rt Z (leaf (val0:=vI (doF r e).2) (by kernel_rfl) (li (by (rw[rf_new h1,rf_do hv hk]))))))
 refine E Z (B.seqB (a:=e.2.1) (b:=[111,98,115,101,114,118,101]) Z Z) (Cp Z Z (fun h9=>?_) (fun h9=>?_))
 ·have hkl:=len_obs hv (by assumption)
  refine E Z (B.idx (z:=[]) (i:=0) Z Z ji sz9 (fun _=>rfl) Z (by omega)) (C Z (w95 r.2.2.1 (bsO (evN e)) (by omega)) Z Z Z (Dr Z (by kernel_rfl) (Cp Z Z (fun h10=>?_) (fun h10=>?_))))
  ·exact Rt Z (leaf (val0:=vI 10) (by kernel_rfl) (li (by (rw[rf_new h1,rf_obs (by assumption),obX_eq hR.1,if_pos (by assumption)]))))
  refine E Z (B.idx (z:=[]) (i:=0) Z Z ji sz9 (fun _=>rfl) Z (by omega)) (C Z (w88 r.2.2.2.1 (evN e) (by omega)) Z Z Z (Dr Z (by kernel_rfl) (Cb Z Z (fun h11=>?_) (fun h11=>?_))))
  ·exact Rt Z (leaf (val0:=vI 9) (by kernel_rfl) (li (by (rw[rf_new h1,rf_obs (by assumption),obX_eq hR.1,if_neg (by assumption),if_pos (by assumption)]))))
  refine C Z (w270 r.2.1) Z Z Z (Cb Z Z (fun h12=>?_) (fun h12=>?_))
  ·exact Rt Z (leaf (val0:=vI 19) (by kernel_rfl) (li (by (rw[rf_new h1,rf_obs (by assumption),obX_eq hR.1,if_neg (by assumption),if_neg (bne_f (by assumption)),if_pos (by assumption)]))))
  exact Rt Z (leaf (val0:=vI 0) (by kernel_rfl) (li (by (rw[rf_new h1,rf_obs (by assumption),obX_eq hR.1,if_neg (by assumption),if_neg (bne_f (by assumption)),if_neg (bne_f (by assumption))]))))
 refine E Z (B.seqB (a:=e.2.1) (b:=[99,97,108,105,98,114,97,116,101]) Z Z) (Cp Z Z (fun h13=>?_) (fun h13=>?_))
 ·have hkl:=len_cal hv (by assumption)
  exact C Z (w271 hp r e (by omega) (by omega) (by omega) hT (kT hv 1).1 (vers_len hR _)) Z Z Z (Rt Z (leaf (val0:=vI (wrF r e).2) (by kernel_rfl) (li (by (rw[rf_new h1,rf_cal hR hV hv (by assumption)])))))
 exfalso;rcases ve_kind hv hu with h|h|h|h|h<;>contradiction
theorem bk_f {p:Prop} [Decidable p] {b:Bool} (hp:¬p) (h:(bif decide p then b else false)=true):False:=by rw[zk hp] at h;cases h
theorem bk_t {p:Prop} [Decidable p] {b:Bool} (hp:p) (hb:b=true) (h:(bif decide p then b else false)=false):False:=by rw[zl hp,hb] at h;cases h
theorem bk_n {p:Prop} [Decidable p] {b:Bool} (hb:b=false) (h:(bif decide p then b else false)=true):False:=by
 rw[hb] at h
 cases hd:decide p<;>rw[hd] at h<;>cases h
theorem cq_four (k:Nat) (e:Ev):jp e≠0\/(jp e=0/\e.1≠(k:Int)+1)\/(jp e=0/\¬e.1≠(k:Int)+1/\e.2.1=[117,110,100,111])\/(jp e=0/\¬e.1≠(k:Int)+1/\¬e.2.1=[117,110,100,111]):=by
 by_cases h0:jp e=0
 ·by_cases h1:e.1≠(k:Int)+1
  ·exact .inr (.inl ⟨h0,h1⟩)
  by_cases h2:e.2.1=[117,110,100,111]
  ·exact .inr (.inr (.inl ⟨h0,h1,h2⟩))
  exact .inr (.inr (.inr ⟨h0,h1,h2⟩))
 exact .inl h0
section
variable {k:Nat} {c l:List Ev} {z:List Ev×Nat×Int} (h:z=cntG k c (l.drop k)) (hk:k<l.length) (h0:jp (l.getD k zV)=0)
include h hk h0
theorem cq_B (hn:(l.getD k zV).1≠(k:Int)+1):z=([],k+1,11):=by
 have e:=ap_ord (C:=c) hn
 rw[cg_no h hk h0 (by rw[e];decide),e]
theorem cq_C (hn:¬(l.getD k zV).1≠(k:Int)+1) (hu:(l.getD k zV).2.1=Z5) (hb:undF c≠0):z=([],k+1,undF c):=by
 have e:=acc_und (c:=c) hn hu
 rw[cg_no h hk h0 (by rw[e];exact hb),e]
theorem cq_D (hn:¬(l.getD k zV).1≠(k:Int)+1) (hu:¬(l.getD k zV).2.1=Z5) (hb:rfF (qZ c) (l.getD k zV)≠0):z=([],k+1,rfF (qZ c) (l.getD k zV)):=by
 have e:=acc_ref (c:=c) hn hu
 rw[cg_no h hk h0 (by rw[e];exact hb),e]
theorem cq_Cy (ha:AccOk k c) (hn:¬(l.getD k zV).1≠(k:Int)+1) (hu:(l.getD k zV).2.1=Z5) (hb:¬undF c≠0):z=cntG (k+1) (c.take (c.length-1)) (l.drop (k+1))/\AccOk (k+1) (c.take (c.length-1)):=by
 have e:(jQ k c (l.getD k zV)).2=0:=by rw[acc_und hn hu];exact zi.1 hb
 rw[<-new_und hu]
 exact⟨(cg_yes ⟨h,ha.1⟩ hk h0 e).1,acc_new ha h0 e⟩
theorem cq_Dy (ha:AccOk k c) (hn:¬(l.getD k zV).1≠(k:Int)+1) (hu:¬(l.getD k zV).2.1=Z5) (hb:¬rfF (qZ c) (l.getD k zV)≠0):z=cntG (k+1) (c++[l.getD k zV]) (l.drop (k+1))/\AccOk (k+1) (c++[l.getD k zV]):=by
 have e:(jQ k c (l.getD k zV)).2=0:=by rw[acc_ref hn hu];exact zi.1 hb
 rw[<-new_add hu]
 exact⟨(cg_yes ⟨h,ha.1⟩ hk h0 e).1,acc_new ha h0 e⟩
end
theorem und_pos {c:List Ev} (h:¬undF c≠0):1<=c.length:=by
 by_cases h1:((c.length:Nat):Int)=0
 ·exact absurd (by rw[undF,if_pos h1];decide) h
 omega
theorem cnt_mem:∀ (l:List Ev) (n:Nat) (C:List Ev) (e:Ev),e∈(cntG n C l).1->e∈C\/e∈l
 | [],n,C,e,h=>.inl h
 | x::l,n,C,e,h=>by
  by_cases h1:jp x=0
  ·by_cases h2:(jQ n C x).2=0
   ·rw[cg_c3 h1 h2] at h
    rcases cnt_mem l _ _ e h with k|k
    ·by_cases hu:x.2.1=Z5
     ·rw[new_und hu] at k;exact .inl (zr k)
     rw[new_add hu] at k
     rcases zI.1 k with k|k
     ·exact .inl k
     rw[zg.1 k];exact .inr (qm ..)
    exact .inr (zO _ k)
   rw[cg_c2 h1 h2] at h;cases h
  rw[cg_c1 h1] at h;cases h
theorem cntF_mem {l:List Ev} {e:Ev} (h:e∈(cntF l).1):e∈l:=by
 rcases cnt_mem l 0 [] e h with k|k
 ·cases k
 exact k
theorem w147 (hp:qH) (he:je) (hm:HMa) (hj:jE) (hj2:jl) (l:List Ev) (hl:l.length<=1000) (hZ:∀ e∈l,EvS e):CKa 147 [vL eE l] (.tup [vL eE (cntF l).1,vI ((Prod.fst (cntF l).2:Nat):Int),vI (cntF l).2.2]):=by
 refine cG qf147 Z (nB Z) Z (E Z (B.j8 (enc:=eE) Z) (E Z (B.j8 (enc:=eE) Z) (l2 (fun (k:Nat) (c:List Ev)=>[(0,vL eE l),(5,vL eE c),(6,vI k)]) (fun _ _=>[]) (fun k c=>k<=l.length/\cntF l=cntG k c (List.drop k l)/\AccOk k c/\∀ e∈c,e.2.2.2.2.length<=4000) (fun k _=>l.length-k) 0 [] Z ?_ (sb Z Z Z) ?_)))
 · exact⟨zq _,rfl,acc_nil,fun e h=>by cases h⟩
 intro k c hI0
 refine E Z (B.jh Z jt) (Cp Z Z (fun h1=>?_) (fun h1=>?_))
 ·have hkl:k<l.length:=by omega
  have hs0:=hZ _ (getD_mem (z:=zV) hkl)
  have hs1:=hs0.1
  have hs2:=hs0.2.1
  have hs3:=hs0.2.2
  have hac:=hI0.2.2.1
  refine E Z (B.idx (z:=zV) (i:=k) Z Z jt kJ (fun _=>rfl) Z (by omega)) (C Z (w69 (l.getD k zV) (by omega) (by omega) (by omega)) Z Z Z ?_)
  rcases cq_four k (l.getD k zV) with hA|⟨h0,hn⟩|⟨h0,hn,hu⟩|⟨h0,hn,hu⟩
  ·refine Eg Z Z (fun hc=>B.move Z) Z (Eg Z Z (fun hc=>B.move Z) Z (Eg Z Z (fun hc=>B.idx (z:=zV) (i:=k) (qy Z hc) (qy Z hc) jt kJ (fun _=>rfl) Z (by omega)) Z (Eg Z Z (fun hc=>B.fadP (qy Z hc) fa119_0 Z) Z (Eg Z Z (fun hc=>B.loadP (qy Z hc) ag3 sz3) Z (Eg Z Z (fun hc=>B.move Z) Z (Eg Z Z (fun hc=>B.add (qy Z hc) Z (by unfold R64;omega)) Z (Eg Z Z (fun hc=>B.neq (qy Z hc) (qy Z hc)) Z (E Z (B.pick Z Z Z (gdB Z) Z (qJ _)) (Cb Z Z (fun h2=>?_) (fun h2=>?_))))))))))
   ·exact (bk_f hA h2).elim
   refine E Z (B.idx (z:=zV) (i:=k) Z Z jt kJ (fun _=>rfl) Z (by omega)) (E Z (B.seqB (a:=(l.getD k zV).2.1) (b:=[117,110,100,111]) Z Z) (Eg Z Z (fun hc=>B.move Z) Z (E Z (B.pick Z Z Z (gdB Z) Z (qJ _)) (Cb Z Z (fun h3=>?_) (fun h3=>?_)))))
   ·exact (bk_f hA h3).elim
   refine Eg Z Z (fun hc=>B.move Z) Z (Eg Z Z (fun hc=>B.not (qy Z hc)) Z (E Z (B.pick Z Z Z (gdB Z) Z (qJ _)) (Cb Z Z (fun h4=>?_) (fun h4=>?_))))
   ·exact (bk_f hA h4).elim
   refine Cp Z Z (fun h5=>?_) (fun h5=>?_)
   ·exact E Z (B.add Z Z (by unfold R64;omega)) (E Z (B.j8 (enc:=eE) Z) (Rt Z (leaf (val0:=.tup [vL eE [],vI ((k:Int)+1),vI (jp (l.getD k zV))]) (by kernel_rfl) (tup3 (lsl (by (rw[cg_bad hI0.2.1 hkl hA]<;>rfl))) (li (by (rw[cg_bad hI0.2.1 hkl hA]<;>rfl))) (li (by (rw[cg_bad hI0.2.1 hkl hA]<;>rfl)))))))
   exact absurd hA h5
  ·refine Eg Z Z (fun hc=>B.move Z) Z (Eg Z Z (fun hc=>B.move Z) Z (Eg Z Z (fun hc=>B.idx (z:=zV) (i:=k) (qy Z hc) (qy Z hc) jt kJ (fun _=>rfl) Z (by omega)) Z (Eg Z Z (fun hc=>B.fadP (qy Z hc) fa119_0 Z) Z (Eg Z Z (fun hc=>B.loadP (qy Z hc) ag3 sz3) Z (Eg Z Z (fun hc=>B.move Z) Z (Eg Z Z (fun hc=>B.add (qy Z hc) Z (by unfold R64;omega)) Z (Eg Z Z (fun hc=>B.neq (qy Z hc) (qy Z hc)) Z (E Z (B.pick Z Z Z (gdB Z) Z (qJ _)) (Cb Z Z (fun h6=>?_) (fun h6=>?_))))))))))
   ·refine E Z (B.idx (z:=zV) (i:=k) Z Z jt kJ (fun _=>rfl) Z (by omega)) (E Z (B.seqB (a:=(l.getD k zV).2.1) (b:=[117,110,100,111]) Z Z) (Eg Z Z (fun hc=>B.move Z) Z (E Z (B.pick Z Z Z (gdB Z) Z (qJ _)) (Cb Z Z (fun h7=>?_) (fun h7=>?_)))))
    ·exact (bk_f (by decide) h7).elim
    refine Eg Z Z (fun hc=>B.move Z) Z (Eg Z Z (fun hc=>B.not (qy Z hc)) Z (E Z (B.pick Z Z Z (gdB Z) Z (qJ _)) (Cb Z Z (fun h8=>?_) (fun h8=>?_))))
    ·exact (bk_f (by decide) h8).elim
    refine Cp Z Z (fun h9=>?_) (fun h9=>?_)
    ·exact E Z (B.add Z Z (by unfold R64;omega)) (E Z (B.j8 (enc:=eE) Z) (Rt Z (leaf (val0:=.tup [vL eE [],vI ((k:Int)+1),vI 11]) (by kernel_rfl) (tup3 (lsl (by (rw[cq_B hI0.2.1 hkl h0 hn]<;>rfl))) (li (by (rw[cq_B hI0.2.1 hkl h0 hn]<;>rfl))) (li (by (rw[cq_B hI0.2.1 hkl h0 hn]<;>rfl)))))))
    exact absurd (by decide) h9
   exact (bk_t h0 (zl hn) h6).elim
  ·refine Eg Z Z (fun hc=>B.move Z) Z (Eg Z Z (fun hc=>B.move Z) Z (Eg Z Z (fun hc=>B.idx (z:=zV) (i:=k) (qy Z hc) (qy Z hc) jt kJ (fun _=>rfl) Z (by omega)) Z (Eg Z Z (fun hc=>B.fadP (qy Z hc) fa119_0 Z) Z (Eg Z Z (fun hc=>B.loadP (qy Z hc) ag3 sz3) Z (Eg Z Z (fun hc=>B.move Z) Z (Eg Z Z (fun hc=>B.add (qy Z hc) Z (by unfold R64;omega)) Z (Eg Z Z (fun hc=>B.neq (qy Z hc) (qy Z hc)) Z (E Z (B.pick Z Z Z (gdB Z) Z (qJ _)) (Cb Z Z (fun h10=>?_) (fun h10=>?_))))))))))
   ·exact (bk_n (zk hn) h10).elim
   refine E Z (B.idx (z:=zV) (i:=k) Z Z jt kJ (fun _=>rfl) Z (by omega)) (E Z (B.seqB (a:=(l.getD k zV).2.1) (b:=[117,110,100,111]) Z Z) (Eg Z Z (fun hc=>B.move Z) Z (E Z (B.pick Z Z Z (gdB Z) Z (qJ _)) (Cb Z Z (fun h11=>?_) (fun h11=>?_)))))
   ·have hcl:=hac.1.1
    refine C Z (w197 c (by omega)) Z Z Z (Eg Z Z (fun hc=>B.move Z) Z (Eg Z Z (fun hc=>B.not (qy Z hc)) Z (E Z (B.pick Z Z Z (gdB Z) Z (qJ _)) (Cb Z Z (fun h12=>?_) (fun h12=>?_)))))
    ·exact (bk_n (by rw[zl hu];rfl) h12).elim
    refine Cp Z Z (fun h13=>?_) (fun h13=>?_)
    ·exact E Z (B.add Z Z (by unfold R64;omega)) (E Z (B.j8 (enc:=eE) Z) (Rt Z (leaf (val0:=.tup [vL eE [],vI ((k:Int)+1),vI (undF c)]) (by kernel_rfl) (tup3 (lsl (by (rw[cq_C hI0.2.1 hkl h0 hn hu (by assumption)]<;>rfl))) (li (by (rw[cq_C hI0.2.1 hkl h0 hn hu (by assumption)]<;>rfl))) (li (by (rw[cq_C hI0.2.1 hkl h0 hn hu (by assumption)]<;>rfl)))))))
    refine Cp Z Z (fun h14=>?_) (fun h14=>?_)
    ·have hcp:=und_pos (c:=c) (by assumption)
     refine E Z (B.jh Z jt) (E Z (B.sub Z Z (by unfold R64;omega)) (E Z (B.slT (j:=(c.length-1)) Z Z jt kJ (by omega) (by omega)) (E Z (B.add Z Z (by unfold R64;omega)) (pk Z (L2 (k+1) (List.take (c.length-1) c) ?_ ?_ (sb Z Z Z))))))
     ·
       exact⟨by omega,(cq_Cy hI0.2.1 hkl h0 hac hn hu (by assumption)).1,(cq_Cy hI0.2.1 hkl h0 hac hn hu (by assumption)).2,fun x hx=>hI0.2.2.2 x (zr hx)⟩
     · omega
    exact absurd hu h14
   exact (bk_t h0 (zl hu) h11).elim
  refine Eg Z Z (fun hc=>B.move Z) Z (Eg Z Z (fun hc=>B.move Z) Z (Eg Z Z (fun hc=>B.idx (z:=zV) (i:=k) (qy Z hc) (qy Z hc) jt kJ (fun _=>rfl) Z (by omega)) Z (Eg Z Z (fun hc=>B.fadP (qy Z hc) fa119_0 Z) Z (Eg Z Z (fun hc=>B.loadP (qy Z hc) ag3 sz3) Z (Eg Z Z (fun hc=>B.move Z) Z (Eg Z Z (fun hc=>B.add (qy Z hc) Z (by unfold R64;omega)) Z (Eg Z Z (fun hc=>B.neq (qy Z hc) (qy Z hc)) Z (E Z (B.pick Z Z Z (gdB Z) Z (qJ _)) (Cb Z Z (fun h15=>?_) (fun h15=>?_))))))))))
  ·exact (bk_n (zk hn) h15).elim
  refine E Z (B.idx (z:=zV) (i:=k) Z Z jt kJ (fun _=>rfl) Z (by omega)) (E Z (B.seqB (a:=(l.getD k zV).2.1) (b:=[117,110,100,111]) Z Z) (Eg Z Z (fun hc=>B.move Z) Z (E Z (B.pick Z Z Z (gdB Z) Z (qJ _)) (Cb Z Z (fun h16=>?_) (fun h16=>?_)))))
  ·exact (bk_n (zk hu) h16).elim
  refine Eg Z Z (fun hc=>B.move Z) Z (Eg Z Z (fun hc=>B.not (qy Z hc)) Z (E Z (B.pick Z Z Z (gdB Z) Z (qJ _)) (Cb Z Z (fun h17=>?_) (fun h17=>?_))))
  ·refine C Z (w148 hp hm k c hac (by omega) hI0.2.2.2) Z Z Z (E Z (B.idx (z:=zV) (i:=k) Z Z jt kJ (fun _=>rfl) Z (by omega)) (C Z (w198 hp hm k (qZ c) (l.getD k zV) (regF_ok hac.1) (by omega) (regF_ver hac.1) h0 hu hs1) Z Z Z (Dr Z (by kernel_rfl) (Cp Z Z (fun h18=>?_) (fun h18=>?_)))))
   ·exact E Z (B.add Z Z (by unfold R64;omega)) (E Z (B.j8 (enc:=eE) Z) (Rt Z (leaf (val0:=.tup [vL eE [],vI ((k:Int)+1),vI (rfF (qZ c) (l.getD k zV))]) (by kernel_rfl) (tup3 (lsl (by (rw[cq_D hI0.2.1 hkl h0 hn hu (by assumption)]<;>rfl))) (li (by (rw[cq_D hI0.2.1 hkl h0 hn hu (by assumption)]<;>rfl))) (li (by (rw[cq_D hI0.2.1 hkl h0 hn hu (by assumption)]<;>rfl)))))))
   refine Cp Z Z (fun h19=>?_) (fun h19=>?_)
   ·exact absurd h19 hu
   have hcl:=hac.1.1
   refine E Z (B.run Z) (E Z (B.append (enc:=eE) (l:=[]) (r:=c) Z Z Z jt in119 Z (fun _=>rfl) by119 (by (simp only[za,zb,zd];omega))) (E Z (B.idx (z:=zV) (i:=k) Z Z jt kJ (fun _=>rfl) Z (by omega)) (E Z (B.jj (val:=.pv (.slice (List.map eE [(l.getD k zV)]))) Z (fun l=>Frz.arr l _ _ _ _ _) Z) (E Z (B.append Z Z Z jt in119 Z (fun _=>rfl) by119 (by (simp only[za,zb,zd];omega))) (Dr Z (by kernel_rfl) (Fz 4 5 Z Z Z (E Z (B.add Z Z (by unfold R64;omega)) (pk Z (L2 (k+1) (c++[(l.getD k zV)]) ?_ ?_ (sb Z Z Z))))))))))
   ·
     exact⟨by omega,(cq_Dy hI0.2.1 hkl h0 hac hn hu (by assumption)).1,(cq_Dy hI0.2.1 hkl h0 hac hn hu (by assumption)).2,fun x hx=>by rcases zI.1 hx with h|h;exact hI0.2.2.2 x h;rw[zg.1 h];exact hs1⟩
   · omega
  exact (bk_t h0 (by rw[zk hu];rfl) h17).elim
 exact Rt Z (leaf (val0:=.tup [vL eE c,vI 0,vI 0]) (by kernel_rfl) (tup3 (lsl (by (rw[cg_end hI0.2.1 (by omega)]<;>rfl))) (li (by (rw[cg_end hI0.2.1 (by omega)]<;>rfl))) (li (by (rw[cg_end hI0.2.1 (by omega)]<;>rfl)))))
theorem w73 (hp:qH) (he:je) (hm:HMa) (hj:jE) (hj2:jl) (l:List Ev) (hl:l.length<=1000) (hZ:∀ e∈l,EvS e):CKa 73 [vL eE l] (.tup [.pv (.agg [pI (rpF l).1.1,pS (bsO (rpF l).1.2.1.1),pI (rpF l).1.2.1.2.1,pB (rpF l).1.2.1.2.2.1,pB (rpF l).1.2.1.2.2.2,pL eT (rpF l).1.2.2.1,pL eN (rpF l).1.2.2.2.1,pL eD (rpF l).1.2.2.2.2.1,pL eP (rpF l).1.2.2.2.2.2]),vI (rpF l).2.1,vI (rpF l).2.2]):=by
 refine cG qf73 Z (nB Z) Z (E Z (B.jj Z (fun l=>Frz.boxN l Z) Z) (E Z (B.jh Z jt) (Cp Z Z (fun h1=>?_) (fun h1=>?_))))
 ·exact absurd h1 (by omega)
 refine C Z (w147 hp he hm hj hj2 l hl hZ) Z Z Z (Cp Z Z (fun h2=>?_) (fun h2=>?_))
 ·exact E Z (B.jj (val:=.pv (.agg [pI 0,pS (bsO []),pI 0,pB false,pB false,pL eT [],pL eN [],pL eD [],pL eP []])) Z (fun l=>Frz.aggN l Z) Z) (Rt Z (leaf (val0:=.tup [.pv (.agg [pI 0,pS (bsO []),pI 0,pB false,pB false,pL eT [],pL eN [],pL eD [],pL eP []]),vI ((Prod.fst (cntF l).2:Nat):Int),vI (cntF l).2.2]) (by kernel_rfl) (by (rw[rp_no h2]<;>rfl))))
 exact C Z (w148 hp hm (l.length) (cntF l).1 (cntF_acc l) hl (fun e h=>(hZ _ (cntF_mem h)).1)) Z Z Z (Rt Z (leaf (val0:=.tup [.pv (.agg [pI (qZ (cntF l).1).1,pS (bsO (qZ (cntF l).1).2.1.1),pI (qZ (cntF l).1).2.1.2.1,pB (qZ (cntF l).1).2.1.2.2.1,pB (qZ (cntF l).1).2.1.2.2.2,pL eT (qZ (cntF l).1).2.2.1,pL eN (qZ (cntF l).1).2.2.2.1,pL eD (qZ (cntF l).1).2.2.2.2.1,pL eP (qZ (cntF l).1).2.2.2.2.2]),vI 0,vI 0]) (by kernel_rfl) (by (rw[rp_ok (zi.1 h2)]<;>rfl))))
def shL (l:List Ev) (n:Int):Bool:=if n<((l.length:Nat):Int) then false else l.all shE
section
variable {l:List Ev} {n:Int} {i:Nat}
theorem shl_no (h1:n<((l.length:Nat):Int)):shL l n=false:=by rw[shL,if_pos h1]
theorem shl_f (h1:¬n<((l.length:Nat):Int)) (hi:i<l.length) (h:shE (l.getD i zV)=false):shL l n=false:=by
 rw[shL,if_neg h1,List.all_eq_false]
 exact⟨_,getD_mem (z:=zV) hi,by rw[h];simp⟩
theorem shl_t (h1:¬n<((l.length:Nat):Int)) (h:∀ j,j<l.length->shE (l.getD j zV)=true):shL l n=true:=by
 rw[shL,if_neg h1,zp]
 intro x hx
 obtain⟨j,hj,rfl⟩:=mem_getD zV hx
 exact h j hj
theorem shl_all (h:(!(shL l n))=false):((l.length:Nat):Int)<=n/\∀ x∈l,shE x=true:=by
 have h:shL l n=true:=by simpa using h
 unfold shL at h
 split at h
 ·cases h
 exact⟨by omega,fun x hx=>zp.1 h x hx⟩
end
theorem sh_evs {e:Ev} (h:shE e=true):EvS e:=by
 obtain⟨_,h1,h2,h3,_⟩:=shE_bd h
 exact⟨by omega,by omega,by omega⟩
abbrev tgN (x y:Tgt):Bool:=(!((decide ((Tgt.name x)=(Tgt.name y)))&&((decide ((Tgt.bright x)=(Tgt.bright y)))&&((decide ((Tgt.place x)=(Tgt.place y)))&&((decide ((Tgt.length x)=(Tgt.length y)))&&((decide ((Tgt.from_ x)=(Tgt.from_ y)))&&((decide ((Tgt.to x)=(Tgt.to y)))&&(decide ((Tgt.limit x)=(Tgt.limit y))))))))))
theorem tg_eq {x y:Tgt} (h:tgN x y=false):x=y:=by
 cases x;cases y
 simp only[tgN,Bool.not_eq_false',zj,zf] at h
 obtain⟨h1,h2,h3,h4,h5,h6,h7⟩:=h
 subst h1 h2 h3 h4 h5 h6 h7;rfl
theorem tg_ne {x y:Tgt} (h:tgN x y=true):x≠y:=fun e=>by subst e;simp at h
instance:DecidableEq Tgt:=fun x y=>if h:tgN x y=false then .isTrue (tg_eq h) else .isFalse (tg_ne ((Bool.not_eq_false _).mp h))
instance dqA:DecidableEq Doc:=inferInstance
instance dqB:DecidableEq (List Doc×List Stp):=inferInstance
instance dqC:DecidableEq (List (List UInt8)×List Doc×List Stp):=inferInstance
instance dqD:DecidableEq (List Tgt×List (List UInt8)×List Doc×List Stp):=inferInstance
instance dqE:DecidableEq Reg:=inferInstance
theorem w65l (l:List Ev) (n:Int) (hl:l.length<=1000000000000000):CKa 65 [vL eE l,vI n] (vB (shL l n)):=by
 refine cG qf65 Z (nB Z) Z (E Z (B.jh Z jt) (Cp Z Z (fun h1=>?_) (fun h1=>?_)))
 ·exact Rt Z (leaf (val0:=vB false) (by kernel_rfl) (lb (by (exact (shl_no h1).symm))))
 refine l1 (fun (i:Nat)=>[(0,vL eE l),(5,vI i)]) (fun _=>[]) (fun i=>i<=l.length/\∀ j,j<i->shE (l.getD j zV)=true) (fun i=>l.length-i) 0 Z ?_ (sb Z Z Z) ?_
 · exact⟨zq _,fun j hj=>by omega⟩
 intro i hI0
 refine E Z (B.jh Z jt) (Cp Z Z (fun h2=>?_) (fun h2=>?_))
 ·refine E Z (B.idx (z:=zV) (i:=i) Z Z jt kJ (fun _=>rfl) Z (by omega)) (E Z (B.lenB (a:=(l.getD i zV).2.1) Z un9) (Eg Z Z (fun hc=>B.move Z) Z (Eg Z Z (fun hc=>B.move Z) Z (Eg Z Z (fun hc=>B.idx (z:=zV) (i:=i) (qy Z hc) (qy Z hc) jt kJ (fun _=>rfl) Z (by omega)) Z (Eg Z Z (fun hc=>B.fadP (qy Z hc) fa119_2 Z) Z (Eg Z Z (fun hc=>B.loadP (qy Z hc) ag73 sz73) Z (Eg Z Z (fun hc=>B.jh (qy Z hc) ji) Z (Eg Z Z (fun hc=>B.gtr (qy Z hc) Z) Z (E Z (B.pick Z Z Z Z (gdB Z) (q7 _)) (Eg Z Z (fun hc=>B.move Z) Z (Eg Z Z (fun hc=>B.move Z) Z (Eg Z Z (fun hc=>B.idx (z:=zV) (i:=i) (qy Z hc) (qy Z hc) jt kJ (fun _=>rfl) Z (by omega)) Z (Eg Z Z (fun hc=>B.fadP (qy Z hc) fa119_3 Z) Z ?_)))))))))))))
  refine Eg Z Z (fun hc=>B.loadP (qy Z hc) ag22 sz22) Z (Eg Z Z (fun hc=>B.jh (qy Z hc) ku) Z (Eg Z Z (fun hc=>B.gtr (qy Z hc) Z) Z (E Z (B.pick Z Z Z Z (gdB Z) (q7 _)) (Eg Z Z (fun hc=>B.move Z) Z (Eg Z Z (fun hc=>B.move Z) Z (Eg Z Z (fun hc=>B.idx (z:=zV) (i:=i) (qy Z hc) (qy Z hc) jt kJ (fun _=>rfl) Z (by omega)) Z (Eg Z Z (fun hc=>B.fadP (qy Z hc) fa119_4 Z) Z (Eg Z Z (fun hc=>B.loadP (qy Z hc) ag9 sz9) Z (Eg Z Z (fun hc=>B.lenB (a:=(l.getD i zV).2.2.2.2) (qy Z hc) un9) Z (Eg Z Z (fun hc=>B.gtr (qy Z hc) Z) Z (E Z (B.pick Z Z Z Z (gdB Z) (q7 _)) (Cb Z Z (fun h3=>?_) (fun h3=>?_)))))))))))))
  ·exact Rt Z (leaf (val0:=vB false) (by kernel_rfl) (lb (by (exact (shl_f h1 (by omega) (sh_c h3)).symm))))
  refine l1 (fun (k:Nat)=>[(0,vL eE l),(5,vI i),(6,vI k)]) (fun _=>[]) (fun k=>k<=List.length (l.getD i zV).2.2.1/\∀ j,j<k->¬60<((List.length (List.getD (l.getD i zV).2.2.1 j []):Nat):Int)) (fun k=>List.length (l.getD i zV).2.2.1-k) 0 Z ?_ (sb Z Z Z) ?_
  · exact⟨zq _,fun j hj=>by omega⟩
  intro k hI1
  have h6n:=sh_6 h3
  refine E Z (B.idx (z:=zV) (i:=i) Z Z jt kJ (fun _=>rfl) Z (by omega)) (E Z (B.jh Z ji) (Cp Z Z (fun h4=>?_) (fun h4=>?_)))
  ·refine E Z (B.idx (z:=zV) (i:=i) Z Z jt kJ (fun _=>rfl) Z (by omega)) (E Z (B.idx (z:=[]) (i:=k) Z Z ji sz9 (fun _=>rfl) Z (by omega)) (E Z (B.lenB (a:=(List.getD (l.getD i zV).2.2.1 k [])) Z un9) (Cp Z Z (fun h5=>?_) (fun h5=>?_))))
   ·exact Rt Z (leaf (val0:=vB false) (by kernel_rfl) (lb (by (exact (shl_f h1 (by omega) (sh_n (by omega) h5)).symm))))
   refine E Z (B.add Z Z (by unfold R64;omega)) (pk Z (L1 (k+1) ?_ ?_ (sb Z Z Z)))
   · (refine⟨by omega,fun j hj=>?_⟩;rcases zy.1 hj with h|h;exact hI1.2 j h;subst h;assumption)
   · omega
  refine E Z (B.idx (z:=zV) (i:=i) Z Z jt kJ (fun _=>rfl) Z (by omega)) (E Z (B.seqB (a:=(l.getD i zV).2.1) (b:=[114,117,110]) Z Z) (Eg Z Z (fun hc=>B.move Z) Z (Eg Z Z (fun hc=>B.move Z) Z (Eg Z Z (fun hc=>B.idx (z:=zV) (i:=i) (qy Z hc) (qy Z hc) jt kJ (fun _=>rfl) Z (by omega)) Z (Eg Z Z (fun hc=>B.loadA (ds:=[pI (l.getD i zV).1,pS (bsO (l.getD i zV).2.1),pL eN (l.getD i zV).2.2.1,pL eI (l.getD i zV).2.2.2.1,pS (bsO (l.getD i zV).2.2.2.2)]) (qy Z hc) ag119 kJ (nB Z) Z) Z (Eg Z Z (fun hc=>B.call (w140 (l.getD i zV) (by have:=sh_t h3;omega)) Z (ds1 (qy Z hc)) Z) Z (Eg Z Z (fun hc=>B.eql (qy Z hc) Z) Z (E Z (B.pick Z Z Z (gdB Z) Z (qJ _)) (Cb Z Z (fun h6=>?_) (fun h6=>?_))))))))))
  ·refine E Z (B.idx (z:=zV) (i:=i) Z Z jt kJ (fun _=>rfl) Z (by omega)) (C Z (w58 (l.getD i zV).2.2.2.2 (by have:=sh_t h3;omega)) Z Z Z (C Z (w61z (l:=(qY ZE (l.getD i zV).2.2.2.2).1) (sh_k h6)) Z Z Z (Cp Z Z (fun h7=>?_) (fun h7=>?_))))
   ·exact Rt Z (leaf (val0:=vB false) (by kernel_rfl) (lb (by (exact (shl_f h1 (by omega) (sh_r h6 h7)).symm))))
   refine E Z (B.add Z Z (by unfold R64;omega)) (pk Z (L1 (i+1) ?_ ?_ (sb Z Z Z)))
   · (refine⟨by omega,fun j hj=>?_⟩;rcases zy.1 hj with h|h;exact hI0.2 j h;subst h;exact sh_y2 h3 (fun j hj=>hI1.2 j (by omega)) h6 h7)
   · omega
  refine E Z (B.add Z Z (by unfold R64;omega)) (pk Z (L1 (i+1) ?_ ?_ (sb Z Z Z)))
  · (refine⟨by omega,fun j hj=>?_⟩;rcases zy.1 hj with h|h;exact hI0.2 j h;subst h;exact sh_y1 h3 (fun j hj=>hI1.2 j (by omega)) h6)
  · omega
 exact Rt Z (leaf (val0:=vB true) (by kernel_rfl) (lb (by (exact (shl_t h1 fun j hj=>hI0.2 j (by omega)).symm))))
end Go.Lens.Tm
end
